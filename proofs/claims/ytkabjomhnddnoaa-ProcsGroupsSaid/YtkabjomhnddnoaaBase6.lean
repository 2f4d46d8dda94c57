/-
  CRC-32C, plainly: the register's step, its parity, flips, linear maps. Words of 32 bits as the program holds them.
-/
import Derived.Test.YtkabjomhnddnoaaBase3
import Derived.IntWalk
import Derived.Test.YtkabjomhnddnoaaBase4
import Derived.Test.YtkabjomhnddnoaaBase5
namespace Crc
abbrev Wd:=BitVec 32
end Crc
namespace Go.Am
open Crc
def u (x:Wd):Int:=(x.toNat:Int)
def w32 (n:Int):Wd:=BitVec.ofInt 32 n
theorem u_range (x:Wd):0≤u x∧u x<4294967296:=by
 have:=x.isLt
 unfold u;omega
theorem u_wrap (x:Wd):IntKind.u32.wrap (u x)=u x:=by
 have:=u_range x
 rw [IntKind.wrap_u32];omega
theorem ofInt_u (x:Wd):BitVec.ofInt 32 (u x)=x:=by
 apply BitVec.eq_of_toNat_eq
 simp [u]
theorem w32_u (x:Wd):w32 (u x)=x:=ofInt_u x
theorem u_w32 {n:Int} (h:0≤n∧n<4294967296):u (w32 n)=n:=by
 obtain ⟨m,rfl⟩:=Int.eq_ofNat_of_zero_le h.1
 simp [u,w32]
 omega
theorem u_inj {x y:Wd}:u x=u y↔x=y:=by
 constructor
 ·intro h
  have:=congrArg w32 h
  rwa [w32_u,w32_u] at this
 ·rintro rfl;rfl
theorem u_beq (x y:Wd):(u x==u y)=(x==y):=by
 rw [Bool.eq_iff_iff];simp [u_inj]
theorem fdiv_u (x:Wd) (k:Nat):(u x).fdiv (2^k)=u (x >>> k):=by
 unfold u
 rw [BitVec.toNat_ushiftRight,Nat.shiftRight_eq_div_pow,Int.fdiv_eq_ediv_of_nonneg _ (Int.le_of_lt (Int.pow_pos (by omega)))]
 simp
theorem kAnd_w (x y:Int):kAnd .u32 x y=u (w32 x &&& w32 y):=u_wrap _
theorem kShr_u (x:Wd) (k:Nat) (hk:k≤32):kShr .u32 (u x) (k:Int)=u (x >>> k):=by
 unfold kShr
 rw [show min (Int.toNat (k:Int)) (IntKind.bits .u32)=k by simp [IntKind.bits];omega]
 exact fdiv_u x k
theorem w32_wrap (x:Int):w32 (IntKind.u32.wrap x)=w32 x:=by
 rw [IntKind.wrap_u32]
 unfold w32
 apply BitVec.eq_of_toNat_eq
 simp only [BitVec.toNat_ofInt]
 congr 1
 omega
end Go.Am
namespace Go.Am
open Crc
end Go.Am
namespace Go.Am
open Crc
def bitN (i:Nat):Wd:=BitVec.ofNat 32 (2^i)
theorem bitN_get (i j:Nat) (hi:i<32):(bitN i).getLsbD j=decide (j=i):=by
 unfold bitN
 simp only [BitVec.getLsbD_ofNat,Nat.testBit_two_pow]
 by_cases h:j=i
 ·subst h;simp [hi]
 ·have:¬i=j:=fun e=>h e.symm
  simp [h,this]
theorem bit_sel (x:Wd) (i:Nat) (hi:i<32):kAnd .u32 (kShr .u32 (u x) (i:Int)) 1=if x.getLsbD i then 1 else 0:=by
 rw [kShr_u x i (by omega),kAnd_w,w32_u]
 have:(x >>> i &&& w32 1)=if x.getLsbD i then 1#32 else 0#32:=by
  apply BitVec.eq_of_getLsbD_eq
  intro j hj
  have e1:w32 1=1#32:=by decide
  rw [e1]
  simp only [BitVec.getLsbD_and,BitVec.getLsbD_ushiftRight]
  by_cases h0:j=0
  ·subst h0
   cases h:x.getLsbD i<;>simp [h]
  ·have:(1#32).getLsbD j=false:=by simp [h0]
   rw [this]
   split<;>simp [h0]
 rw [this]
 split<;>decide
end Go.Am
namespace Go.Am
open Crc
structure Sg where
 wt:Wd
 hd:Wd
 at_:Nat→Wd
 hw:wt &&& 65534#32=wt
 hh:hd &&& 65532#32=hd
 ha:∀ i,i<2∨16≤i→at_ i=0#32
theorem Sg.ext {p q:Sg} (h1:p.wt=q.wt) (h2:p.hd=q.hd) (h3:∀ i,p.at_ i=q.at_ i):p=q:=by
 cases p;cases q
 have:∀ f g:Nat→Wd,(∀ i,f i=g i)→f=g:=fun f g h=>funext h
 simp only at h1 h2 h3
 subst h1 h2
 have:=this _ _ h3
 subst this
 rfl
theorem and_idem (x m:Wd):x &&& m &&& m=x &&& m:=by rw [BitVec.and_assoc,BitVec.and_self]
def decP (cs:List AV):Sg where
 wt:=w32 (getI cs 1) &&& 65534#32
 hd:=w32 (getI cs 2) &&& 65532#32
 at_ i:=if i<2∨16≤i then 0#32 else w32 (getI cs (i+3))
 hw:=and_idem _ _
 hh:=and_idem _ _
 ha i h:=if_pos h
def at16 (f:Nat→Wd):List AV:=(List.range 16).map fun i=>.int .u32 (u (f i))
def bits16 (x:Wd):List AV:=(List.range 16).map fun i=>.bool (x.getLsbD i)
def encP (p:Sg):List AV:=.bool true::.int .u32 (u p.wt)::.int .u32 (u p.hd)::at16 p.at_
def encR (p:Sg):List AV:=bits16 p.wt++(bits16 p.hd++at16 p.at_)
theorem at16_length (f:Nat→Wd):(at16 f).length=16:=by simp [at16]
theorem bits16_length (x:Wd):(bits16 x).length=16:=by simp [bits16]
theorem at16_get (f:Nat→Wd) {i:Nat} (h:i<16):(at16 f)[i]?=some (.int .u32 (u (f i))):=by simp [at16,h]
theorem bits16_get (x:Wd) {i:Nat} (h:i<16):(bits16 x)[i]?=some (.bool (x.getLsbD i)):=by simp [bits16,h]
theorem encP_length (p:Sg):(encP p).length=19:=by simp [encP,at16_length]
theorem encR_length (p:Sg):(encR p).length=48:=by simp [encR,at16_length,bits16_length]
theorem encP_at (p:Sg) {i:Nat} (h:i<16):(encP p)[i+3]?=some (.int .u32 (u (p.at_ i))):=by
 simp only [encP,List.getElem?_cons_succ]
 exact at16_get p.at_ h
theorem encP_isI (p:Sg) {i:Nat} (h:i<16):isI .u32 (encP p) (i+3)=true:=by simp [isI,encP_at p h]
theorem encP_getI (p:Sg) {i:Nat} (h:i<16):getI (encP p) (i+3)=u (p.at_ i):=by simp [getI,encP_at p h]
theorem decP_enc (p:Sg):decP (encP p)=p:=by
 refine Sg.ext ?_ ?_ fun i=>?_
 ·show w32 (u p.wt) &&& 65534#32=_
  rw [w32_u,p.hw]
 ·show w32 (u p.hd) &&& 65532#32=_
  rw [w32_u,p.hh]
 ·simp only [decP]
  by_cases h:i<2∨16≤i
  ·rw [if_pos h,p.ha i h]
  ·rw [if_neg h,encP_getI p (by omega),w32_u]
def okP (cs:List AV):Bool:=Nat.beq cs.length 19&&(isB cs 0&&(getB cs 0&&(okI .u32 cs 1 18&&(List.range 19).all fun j=>getI cs j==getI (encP (decP cs)) j)))
theorem okP_eq {cs:List AV} (h:okP cs=true):cs=encP (decP cs):=by
 simp only [okP,Bool.and_eq_true,List.all_eq_true,List.mem_range,beq_iff_eq] at h
 obtain ⟨h1,h2,h3,h4,h5⟩:=h
 have h1:=Nat.eq_of_beq_eq_true h1
 have ee:∀ j,j<18→∃ n,(encP (decP cs))[j+1]?=some (.int .u32 n):=fun j hj=>by
  rcases j with _ | _ | j
  ·exact ⟨_,rfl⟩
  ·exact ⟨_,rfl⟩
  ·exact ⟨_,encP_at _ (by omega)⟩
 have key:∀ j,j<18→cs[j+1]?=(encP (decP cs))[j+1]?:=fun j hj=>by
  have e1:=isI_some (okI_get h4 hj)
  rw [Nat.add_comm 1 j] at e1
  obtain ⟨n,e2⟩:=ee j hj
  rw [e1,e2]
  have:=h5 (j+1) (by omega)
  rw [this]
  simp [getI,e2]
 apply List.ext_getElem?
 intro i
 rcases i with _ | i
 ·rw [isB_some h2,h3];rfl
 ·by_cases hi:i<18
  ·exact key i hi
  ·rw [List.getElem?_eq_none (by omega),List.getElem?_eq_none (by rw [encP_length];omega)]
theorem okP_enc (p:Sg):okP (encP p)=true:=by
 simp only [okP,Bool.and_eq_true,List.all_eq_true,List.mem_range,beq_iff_eq]
 refine ⟨by rw [encP_length];rfl,rfl,rfl,okI_of fun j hj=>?_,fun j _=>by rw [decP_enc]⟩
 have:∃ x:Wd,(encP p)[j+1]?=some (.int .u32 (u x)):=by
  rcases j with _ | _ | j
  ·exact ⟨p.wt,rfl⟩
  ·exact ⟨p.hd,rfl⟩
  ·exact ⟨p.at_ j,encP_at p (by omega)⟩
 obtain ⟨x,hx⟩:=this
 rw [Nat.add_comm]
 simp [isI,hx]
theorem encP_flat (n:Nat) (p:Sg):bnds n (encP p)=true:=by rw [bnds_eq];simp [encP,at16,bnd]
theorem encR_flat (n:Nat) (p:Sg):bnds n (encR p)=true:=by rw [bnds_eq];simp [encR,at16,bits16,bnd]
theorem encP_cells (p:Sg):cellsB (encP p)=true:=by simp [cellsB,encP,at16,isCell]
theorem encP_1 (p:Sg):getI (encP p) 1=u p.wt:=rfl
theorem encP_2 (p:Sg):getI (encP p) 2=u p.hd:=rfl
theorem encR_w (p:Sg) {i:Nat} (h:i<16):(encR p)[i]?=some (.bool (p.wt.getLsbD i)):=by
 rw [encR,List.getElem?_append_left (by rw [bits16_length];exact h),bits16_get _ h]
theorem encR_h (p:Sg) {i:Nat} (h:i<16):(encR p)[i+16]?=some (.bool (p.hd.getLsbD i)):=by
 rw [encR,List.getElem?_append_right (by rw [bits16_length];omega),bits16_length,Nat.add_sub_cancel,List.getElem?_append_left (by rw [bits16_length];exact h),bits16_get _ h]
theorem encR_a (p:Sg) {i:Nat} (h:i<16):(encR p)[i+32]?=some (.int .u32 (u (p.at_ i))):=by
 rw [encR,List.getElem?_append_right (by rw [bits16_length];omega),bits16_length,show i+32 - 16=i+16 by omega,List.getElem?_append_right (by rw [bits16_length];omega),bits16_length,Nat.add_sub_cancel,at16_get _ h]
def updA (f:Nat→Wd) (i:Nat) (x:Wd):Nat→Wd:=fun j=>if j=i then (if i<2∨16≤i then 0#32 else x) else f j
def setW (p:Sg) (x:Wd):Sg:={ p with wt:=x &&& 65534#32,hw:=and_idem _ _ }
def setH (p:Sg) (x:Wd):Sg:={ p with hd:=x &&& 65532#32,hh:=and_idem _ _ }
theorem updA_ha (p:Sg) (i:Nat) (x:Wd):∀ j,j<2∨16≤j→updA p.at_ i x j=0#32:=fun j hj=>by
 unfold updA
 split
 ·rename_i h;subst h;exact if_pos hj
 ·exact p.ha j hj
def setA (p:Sg) (i:Nat) (x:Wd):Sg:={ p with at_:=updA p.at_ i x,ha:=updA_ha p i x }
def send (p:Sg) (n:Int):Sg:=setW p (p.wt ||| bitN n.toNat)
def mask (p:Sg) (b:Int):Sg:=setH p (w32 b)
def handle (p:Sg) (n a:Int):Sg:=setA p n.toNat (w32 a)
def lowFrom (x:Wd):Nat→Nat→Nat
 | 0,_=>0
 | f+1,i=>if x.getLsbD i then i else lowFrom x f (i+1)
def lowest (x:Wd):Nat:=lowFrom x 15 1
theorem lowFrom_le (x:Wd):∀ f i,lowFrom x f i=0∨(i≤lowFrom x f i∧lowFrom x f i<i+f∧x.getLsbD (lowFrom x f i)=true∧∀ j,i≤j→j<lowFrom x f i→x.getLsbD j=false)
 | 0,i=>.inl rfl
 | f+1,i=>by
  unfold lowFrom
  split
  ·rename_i h
   exact .inr ⟨Nat.le_refl _,by omega,h,fun j h1 h2=>by omega⟩
  ·rename_i h
   rcases lowFrom_le x f (i+1) with h0 | ⟨h1,h2,h3,h4⟩
   ·exact .inl h0
   ·refine .inr ⟨by omega,by omega,h3,fun j h5 h6=>?_⟩
    by_cases hj:j=i
    ·subst hj;simpa using h
    ·exact h4 j (by omega) h6
theorem lowest_lt (x:Wd):lowest x<16:=by
 rcases lowFrom_le x 15 1 with h | ⟨_,h,_⟩
 ·unfold lowest;omega
 ·unfold lowest;omega
theorem lowFrom_succ (x:Wd) (f i:Nat):lowFrom x (f+1) i=if x.getLsbD i then i else lowFrom x f (i+1):=rfl
def tkN (p:Sg):Nat:=lowest (p.wt &&& ~~~ p.hd)
def tkOk (p:Sg):Bool:=!(Nat.beq (tkN p) 0)&&!(p.at_ (tkN p)==1#32)
def tkSig (p:Sg):Int:=if tkOk p then tkN p else 0
def tkEnds (p:Sg):Bool:=tkOk p&&(p.at_ (tkN p)==0#32)
def tkAt (p:Sg):Int:=if tkOk p then u (p.at_ (tkN p)) else 0
def tkP (p:Sg):Sg:=if tkN p=0 then p else setW p (p.wt &&& ~~~ bitN (tkN p))
def nl (l:List Nat):List AV:=l.map fun (i:Nat)=>AV.int .i64 (Int.ofNat i)
theorem nl_append (a b:List Nat):nl (a++b)=nl a++nl b:=by simp [nl]
theorem nl_length (a:List Nat):(nl a).length=a.length:=by simp [nl]
theorem nl_flat (n:Nat) (a:List Nat):bnds n (nl a)=true:=by rw [bnds_eq];simp [nl,bnd]
theorem nl_rens (θ:List Nat) (a:List Nat):rens θ (nl a)=nl a:=rens_flat θ _ (nl_flat 0 a)
theorem kAndNot_w (x y:Int):kAndNot .u32 x y=u (w32 x &&& ~~~ w32 y):=u_wrap _
theorem kOr_w (x y:Int):kOr .u32 x y=u (w32 x ||| w32 y):=u_wrap _
theorem kShl1 {i:Nat} (h:i<32):kShl .u32 1 (i:Int)=u (bitN i):=by
 unfold kShl
 rw [show min (Int.toNat (i:Int)) (IntKind.bits .u32)=i by simp [IntKind.bits];omega,Int.one_mul]
 have hlt:2^i<4294967296:=by
  have:2^i<2^32:=Nat.pow_lt_pow_right (by omega) h
  simpa using this
 have e:u (bitN i)=((2^i:Nat):Int):=by
  unfold u bitN
  rw [BitVec.toNat_ofNat,Nat.mod_eq_of_lt (by simpa using hlt)]
 rw [e,show (2:Int)^i=((2^i:Nat):Int) by simp,IntKind.wrap_u32]
 generalize 2^i=m at *
 omega
theorem wrap_w32 (a:Int):IntKind.u32.wrap a=u (w32 a):=by
 rw [IntKind.wrap_u32]
 have:=u_w32 (n:=a % 4294967296) (by omega)
 rw [←this]
 congr 1
 unfold w32
 apply BitVec.eq_of_toInt_eq
 simp only [BitVec.toInt_ofInt]
 show Int.bmod (a % 4294967296) 4294967296=Int.bmod a 4294967296
 unfold Int.bmod
 simp
end Go.Am
namespace Go.Am
open Crc
def eqC:AV→AV→Bool
 | .bool a,.bool b=>a==b
 | .int k a,.int k' b=>k==k'&&a==b
 | _,_=>false
def eqCs:List AV→List AV→Bool
 | [],[]=>true
 | x::l,y::m=>eqC x y&&eqCs l m
 | _,_=>false
theorem eqC_eq {x y:AV} (h:eqC x y=true):x=y:=by
 unfold eqC at h
 split at h
 ·rw [eq_of_beq h]
 ·simp only [Bool.and_eq_true,beq_iff_eq] at h;rw [h.1,h.2]
 ·simp at h
theorem eqCs_eq:∀ {l m:List AV},eqCs l m=true→l=m
 | [],[],_=>rfl
 | x::l,y::m,h=>by
  simp only [eqCs,Bool.and_eq_true] at h
  rw [eqC_eq h.1,eqCs_eq h.2]
 | [],_::_,h=>by simp [eqCs] at h
 | _::_,[],h=>by simp [eqCs] at h
def onP {α:Type} (d:α) (f:Sg→α):List AV→α:=fun as=>match as with
 | .agg cs::_=>f (decP cs)
 | _=>d
def onPI {α:Type} (d:α) (f:Sg→Int→α):List AV→α:=fun as=>match as with
 | [.agg cs,.int _ n]=>f (decP cs) n
 | _=>d
def okU:List AV→Bool:=fun as=>match as with
 | [.agg cs]=>okP cs
 | _=>false
def okRU:List AV→Bool:=fun as=>match as with
 | [.agg ds,.agg cs]=>okP cs&&eqCs ds (encR (decP cs))
 | _=>false
def encRU:List AV→List AV:=onP [] encR
def sendU:List AV→List AV:=onPI [] fun p n=>encP (send p n)
def maskU:List AV→List AV:=onPI [] fun p n=>encP (mask p n)
def heldU:List AV→Int:=onP 0 fun p=>u p.hd
def tkU:List AV→List AV:=onP [] fun p=>encP (tkP p)
def tkSigU:List AV→Int:=onP 0 tkSig
def tkEndsU:List AV→Bool:=onP false tkEnds
def tkAtU:List AV→Int:=onP 0 tkAt
def tkOkU:List AV→Bool:=onP false tkOk
def childU:List AV→List AV:=onP [] fun p=>encP (setW p 0#32)
def sameB (p q:Sg):Bool:=p.wt==q.wt&&(p.hd==q.hd&&(List.range 16).all fun i=>p.at_ i==q.at_ i)
def sameU:List AV→Bool:=fun as=>match as with
 | [.agg cs,.agg ds]=>sameB (decP cs) (decP ds)
 | _=>false
structure Side where
 get:EL→Option (EB×EL)
 put:EL→EL
def sideP:Side:=⟨fun l=>some (.uf 1001 okU [.agg l],l),fun l=>l⟩
def sideR:Side:=⟨fun l=>match l with
 | .uf 1002 f [.agg d]=>some (.uf 1003 okRU [.agg (.uf 1002 f [.agg d]),.agg d],d)
 | _=>none,fun l=>.uf 1002 encRU [.agg l]⟩
def onSet (s:Side) (k:Nat→EL→List EV→Option Outs):DSum:=fun args H=>match args with
 | .ptr (.rw i) (.lit 0)::rest=>match H[i]? with
  | some (some ⟨1,cs⟩)=>match s.get cs with
   | some (b,l)=>match k i l rest with
    | some o=>some (.chk b o)
    | none=>none
   | none=>none
  | _=>none
 | _=>none
def eno (n:Int):EV:=.int .i64 (.lit n)
def outOf (n:EI) (lo hi:Int) (bad good:Outs):Outs:=.tst (.cmp .lss n (.lit lo)) bad (.tst (.cmp .gtr n (.lit hi)) bad good)
def sendS (s:Side):DSum:=onSet s fun i l rest=>match rest with
 | [.int .i64 n]=>some (outOf n 0 15 (.one (eno 2) []) (.one (eno 0) [.set i ⟨1,s.put (.uf 1010 sendU [.agg l,.int .i64 n])⟩]))
 | _=>none
def heldS (s:Side):DSum:=onSet s fun _ l rest=>match rest with
 | []=>some (.one (.int .i64 (.uf 1012 heldU [.agg l])) [])
 | _=>none
section
variable (p:Sg)
theorem okU_enc:okU [.agg (encP p)]=true:=okP_enc p
theorem encRU_enc:encRU [.agg (encP p)]=encR p:=by simp only [encRU,onP,decP_enc]
theorem okRU_enc:okRU [.agg (encR p),.agg (encP p)]=true:=by
 have:∀ l:List AV,l.all (fun x=>eqC x x)=true→eqCs l l=true:=by
  intro l
  induction l with
  | nil=>intro _;rfl
  | cons x l ih=>intro h;simp only [List.all_cons,Bool.and_eq_true] at h;simp only [eqCs,h.1,ih h.2,Bool.and_self]
 simp only [okRU,okP_enc,decP_enc,Bool.true_and]
 apply this
 simp [encR,at16,bits16,eqC]
theorem sendU_enc {k:IntKind} (n:Int):sendU [.agg (encP p),.int k n]=encP (send p n):=by simp only [sendU,onPI,decP_enc]
theorem maskU_enc {k:IntKind} (n:Int):maskU [.agg (encP p),.int k n]=encP (mask p n):=by simp only [maskU,onPI,decP_enc]
theorem heldU_enc:heldU [.agg (encP p)]=u p.hd:=by simp only [heldU,onP,decP_enc]
theorem tkU_enc:tkU [.agg (encP p)]=encP (tkP p):=by simp only [tkU,onP,decP_enc]
theorem tkSigU_enc:tkSigU [.agg (encP p)]=tkSig p:=by simp only [tkSigU,onP,decP_enc]
theorem tkEndsU_enc:tkEndsU [.agg (encP p)]=tkEnds p:=by simp only [tkEndsU,onP,decP_enc]
theorem tkAtU_enc:tkAtU [.agg (encP p)]=tkAt p:=by simp only [tkAtU,onP,decP_enc]
theorem tkOkU_enc:tkOkU [.agg (encP p)]=tkOk p:=by simp only [tkOkU,onP,decP_enc]
theorem childU_enc:childU [.agg (encP p)]=encP (setW p 0#32):=by simp only [childU,onP,decP_enc]
end
def zeroP:Sg:=⟨0#32,0#32,fun _=>0#32,rfl,rfl,fun _ _=>rfl⟩
structure SideOk (G:Nat→List AV) (s:Side) (enc:Sg→List AV):Prop where
 get:∀ l b d,s.get l=some (b,d)→vB G b=true→∃ p,vL G d=encP p∧vL G l=enc p
 put:∀ l p,vL G l=encP p→vL G (s.put l)=enc p
 flat:∀ p n,bnds n (enc p)=true
theorem sideP_ok (G:Nat→List AV):SideOk G sideP encP:=by
 refine ⟨fun l b d h hb=>?_,fun l p h=>h,fun p n=>encP_flat n p⟩
 simp only [sideP,Option.some.injEq,Prod.mk.injEq] at h
 obtain ⟨rfl,rfl⟩:=h
 simp only [vB,vVs,vV,okU] at hb
 exact ⟨_,okP_eq hb,okP_eq hb⟩
theorem sideR_ok (G:Nat→List AV):SideOk G sideR encR:=by
 refine ⟨fun l b d h hb=>?_,fun l p h=>?_,fun p n=>encR_flat n p⟩
 ·simp only [sideR] at h
  split at h
  ·simp only [Option.some.injEq,Prod.mk.injEq] at h
   obtain ⟨rfl,rfl⟩:=h
   simp only [vB,vVs,vV,okRU,Bool.and_eq_true] at hb
   exact ⟨_,okP_eq hb.1,eqCs_eq hb.2⟩
  ·simp at h
 ·simp only [sideR,vL,vVs,vV,h,encRU_enc]
theorem onSet_ok {C:Ctx} {s:Side} {enc:Sg→List AV} (hs:SideOk C.G s enc) {f:FuncId} {k:DHp→Nat→EL→List EV→Option Outs}
  (h:∀ (H:DHp) (i:Nat) (l l0:EL) (rest:List EV) (o:Outs) (p:Sg),k H i l rest=some o→vL C.G l=encP p→vL C.G l0=enc p→H[i]?=some (some ⟨1,l0⟩)→oAll C.G (DOut C f (.ptr (.rw i) (.lit 0)::rest) H) o) :
  DSumOk C f (fun args H=>onSet s (k H) args H):=by
 intro args H o ho
 simp only [onSet] at ho
 split at ho
 ·rename_i i rest
  split at ho
  ·rename_i cs hi
   split at ho
   ·rename_i b l hg
    split at ho
    ·rename_i o' hk
     simp at ho;subst ho
     exact fun hb=>by
      obtain ⟨p,h1,h2⟩:=hs.get _ _ _ hg hb
      exact h H i l cs rest o' p hk h1 h2 hi
    ·simp at ho
   ·simp at ho
  ·simp at ho
 ·simp at ho
theorem oAll_outOf {G:Nat→List AV} {P:EV→List DHop→Prop} {n:EI} {lo hi:Int} {bad good:Outs} (h1:(vI G n<lo∨hi<vI G n)→oAll G P bad) (h2:lo≤vI G n→vI G n≤hi→oAll G P good):oAll G P (outOf n lo hi bad good):=by
 have lt:∀ (x y:Int),cmpI .lss x y=true↔x<y:=fun x y=>by unfold cmpI;exact decide_eq_true_iff
 have gt:∀ (x y:Int),cmpI .gtr x y=true↔y<x:=fun x y=>by unfold cmpI;exact decide_eq_true_iff
 have no:∀ {b:Bool},b=false→¬b=true:=fun h h'=>by rw [h] at h';simp at h'
 refine ⟨fun h=>?_,fun h=>⟨fun h'=>?_,fun h'=>?_⟩⟩
 ·exact h1 (.inl ((lt _ _).1 h))
 ·exact h1 (.inr ((gt _ _).1 h'))
 ·have e1:¬vI G n<lo:=fun h3=>no h ((lt _ _).2 h3)
  have e2:¬hi<vI G n:=fun h3=>no h' ((gt _ _).2 h3)
  exact h2 (by omega) (by omega)
end Go.Am
namespace Go.Am
open Crc
variable {C:Ctx} {s:Side} {enc:Sg→List AV}
theorem fin_set (hs:SideOk C.G s enc) {f:FuncId} {i:Nat} {l0 d:EL} {rest:List EV} {H:DHp} {v:EV} {p p':Sg} (h0:vL C.G l0=enc p) (hi:H[i]?=some (some ⟨1,l0⟩)) (hd:vL C.G d=encP p')
  (h:ACalls C f (.ptr (.rw 0) 0::vVs C.G rest) [some ⟨1,enc p⟩] fun v' H'=>v'=vV C.G v∧H'.take 1=[some ⟨1,enc p'⟩]) (hr:bnds 0 (vVs C.G rest)=true) (hv:bnd 0 (vV C.G v)=true) (hu:vV C.G v≠.undef) :
  oAll C.G (DOut C f (.ptr (.rw i) (.lit 0)::rest) H) (.one v [.set i ⟨1,s.put d⟩]):=
 DOut.set1 hi (by rw [h0,hs.put d p' hd];exact h) (by rw [h0];exact hs.flat _ _) (by rw [hs.put d p' hd];exact hs.flat _ _) hr hv hu
theorem fin_get (hs:SideOk C.G s enc) {f:FuncId} {i:Nat} {l0:EL} {rest:List EV} {H:DHp} {v:EV} {p:Sg} (h0:vL C.G l0=enc p) (hi:H[i]?=some (some ⟨1,l0⟩))
  (h:ACalls C f (.ptr (.rw 0) 0::vVs C.G rest) [some ⟨1,enc p⟩] fun v' H'=>v'=vV C.G v∧H'.take 1=[some ⟨1,enc p⟩]) (hr:bnds 0 (vVs C.G rest)=true) (hv:bnd 0 (vV C.G v)=true) (hu:vV C.G v≠.undef) :
  oAll C.G (DOut C f (.ptr (.rw i) (.lit 0)::rest) H) (.one v []):=
 DOut.get1 hi (by rw [h0];exact h) (by rw [h0];exact hs.flat _ _) hr hv hu
def Meth (C:Ctx) (f:FuncId) (enc:Sg→List AV) (p:Sg) (rest:List AV) (v:AV) (p':Sg):Prop:=
 ACalls C f (.ptr (.rw 0) 0::rest) [some ⟨1,enc p⟩] fun v' H'=>v'=v∧H'.take 1=[some ⟨1,enc p'⟩]
def outB (n lo hi:Int):Bool:=decide (n<lo)||decide (hi<n)
theorem outB_true {n lo hi:Int} (h:n<lo∨hi<n):outB n lo hi=true:=by simp [outB,h]
theorem outB_false {n lo hi:Int} (h1:lo≤n) (h2:n≤hi):outB n lo hi=false:=by simp [outB];omega
def SendOk (C:Ctx) (f:FuncId) (enc:Sg→List AV):Prop:=∀ p n,Meth C f enc p [.int .i64 n] (.int .i64 (if outB n 0 15 then 2 else 0)) (if outB n 0 15 then p else send p n)
theorem sendS_ok (hs:SideOk C.G s enc) {f:FuncId} (h:SendOk C f enc):DSumOk C f (sendS s):=by
 refine onSet_ok hs (k:=fun _ i l rest=>match rest with
  | [.int .i64 n]=>some (outOf n 0 15 (.one (eno 2) []) (.one (eno 0) [.set i ⟨1,s.put (.uf 1010 sendU [.agg l,.int .i64 n])⟩]))
  | _=>none) fun H i l l0 rest o p hk hl h0 hi=>?_
 split at hk
 ·rename_i n
  simp at hk;subst hk
  have:=h p (vI C.G n)
  refine oAll_outOf (fun hb=>?_) (fun h1 h2=>?_)
  ·rw [outB_true hb] at this
   exact fin_get hs h0 hi this (by simp [vVs,vV,bnds,bnd]) (by simp [eno,vV,bnd]) (by simp [eno,vV])
  ·rw [outB_false h1 h2] at this
   exact fin_set hs h0 hi (p':=send p (vI C.G n)) (by simp only [vL,vVs,vV,hl,sendU_enc]) this (by simp [vVs,vV,bnds,bnd]) (by simp [eno,vV,bnd]) (by simp [eno,vV])
 ·simp at hk
def MaskOk (C:Ctx) (f:FuncId) (enc:Sg→List AV):Prop:=∀ p n,Meth C f enc p [.int .i64 n] (.tup [.int .i64 (u p.hd),.int .i64 0]) (mask p n)
def HandleOk (C:Ctx) (f:FuncId) (enc:Sg→List AV):Prop:=∀ p n a,Meth C f enc p [.int .i64 n,.int .i64 a]
 (if outB n 2 15||outB a 0 4294967295 then .tup [.int .i64 0,.int .i64 2] else .tup [.int .i64 (u (p.at_ n.toNat)),.int .i64 0]) (if outB n 2 15||outB a 0 4294967295 then p else handle p n a)
def takenV (p:Sg):AV:=.tup [.agg [.int .i64 (tkSig p),.bool (tkEnds p),.int .u32 (tkAt p)],.bool (tkOk p)]
def TakeOk (C:Ctx) (f:FuncId) (enc:Sg→List AV):Prop:=∀ p,Meth C f enc p [] (takenV p) (tkP p)
def HeldOk (C:Ctx) (f:FuncId) (enc:Sg→List AV):Prop:=∀ p,Meth C f enc p [] (.int .i64 (u p.hd)) p
theorem heldS_ok (hs:SideOk C.G s enc) {f:FuncId} (h:HeldOk C f enc):DSumOk C f (heldS s):=by
 refine onSet_ok hs (k:=fun _ _ l rest=>match rest with
  | []=>some (.one (.int .i64 (.uf 1012 heldU [.agg l])) [])
  | _=>none) fun H i l l0 rest o p hk hl h0 hi=>?_
 split at hk
 ·simp at hk;subst hk
  refine fin_get hs h0 hi ?_ (by simp [vVs,bnds]) (by simp [vV,bnd]) (by simp [vV])
  simp only [vVs,vV,vI,hl,heldU_enc]
  exact h p
 ·simp at hk
def NewOk (C:Ctx) (f:FuncId) (enc:Sg→List AV) (v:Sg→AV) (cs:Sg→List AV):Prop:=∀ p,ACalls C f [.ptr (.rw 0) 0] [some ⟨1,enc p⟩] fun v' H'=>v'=v p∧H'=[some ⟨1,enc p⟩,some ⟨1,cs p⟩]
theorem Meth.of {K : DCfg} {fuel n0 : Nat} {f : FuncId} {fn : Func} {p p' : Sg} {rest : List EV} {v : AV} (hK : DGood C K (loopsOf (bodyOf fn))) (hf : C.P.funcs[f]? = some fn) (hb : fn.body = some (bodyOf fn)) (hn : (fn.name == "runtime.NumGoroutine") = false)
  (h:vT C.G (fun _ _ _=>False) (fun v' H'=>v'=v∧H'=[some ⟨1,enc p'⟩]) (dcall K fuel n0 fn (.ptr (.rw 0) (.lit 0)::rest) [some ⟨1,.var 1 (enc p)⟩] 1)):Meth C f enc p (vVs C.G rest) v p':=by
 have:=dcall_ok hK hf hb hn h
 simp only [vVs,vV,vR,vN,vHp,List.map_cons,List.map_nil,Option.map_some,vBlk,vL] at this
 exact this
theorem New.of {K : DCfg} {fuel n0 : Nat} {f : FuncId} {fn : Func} {p : Sg} {v : AV} {cs : List AV} (hK : DGood C K (loopsOf (bodyOf fn))) (hf : C.P.funcs[f]? = some fn) (hb : fn.body = some (bodyOf fn)) (hn : (fn.name == "runtime.NumGoroutine") = false)
  (he:bnds 2 (enc p)=true) (hc:bnds 2 cs=true) (hv:bnd 2 v=true) (hu:v≠.undef)
  (h:vT C.G (fun _ _ _=>False) (fun v' H'=>v'=v∧H'=[some ⟨1,enc p⟩,some ⟨1,cs⟩]) (dcall K fuel n0 fn [.ptr (.rw 0) (.lit 0)] [some ⟨1,.var 1 (enc p)⟩] 2)):ACalls C f [.ptr (.rw 0) 0] [some ⟨1,enc p⟩] fun v' H'=>v'=v∧H'=[some ⟨1,enc p⟩,some ⟨1,cs⟩]:=by
 have:=dcall_ok hK hf hb hn h
 simp only [vVs,vV,vR,vN,vHp,List.map_cons,List.map_nil,Option.map_some,vBlk,vL] at this
 exact this.keep (by simp) (by simp [hpB,he,hc]) (by simpa using hv) hu
theorem Meth.ofR {K : DCfg} {fuel n0 : Nat} {f : FuncId} {fn : Func} {p p' : Sg} {rest : List EV} {v : AV} (hK : DGood C K (loopsOf (bodyOf fn))) (hf : C.P.funcs[f]? = some fn) (hb : fn.body = some (bodyOf fn)) (hn : (fn.name == "runtime.NumGoroutine") = false)
  (h:vT C.G (fun _ _ _=>False) (fun v' H'=>v'=v∧H'=[some ⟨1,encR p'⟩]) (dcall K fuel n0 fn (.ptr (.rw 0) (.lit 0)::rest) [some ⟨1,.uf 1002 encRU [.agg (.var 1 (encP p))]⟩] 1)):Meth C f encR p (vVs C.G rest) v p':=by
 have:=dcall_ok hK hf hb hn h
 simp only [vVs,vV,vR,vN,vHp,List.map_cons,List.map_nil,Option.map_some,vBlk,vL,encRU_enc] at this
 exact this
theorem New.ofR {K : DCfg} {fuel n0 : Nat} {f : FuncId} {fn : Func} {p : Sg} {v : AV} {cs : List AV} (hK : DGood C K (loopsOf (bodyOf fn))) (hf : C.P.funcs[f]? = some fn) (hb : fn.body = some (bodyOf fn)) (hn : (fn.name == "runtime.NumGoroutine") = false)
  (hc:bnds 2 cs=true) (hv:bnd 2 v=true) (hu:v≠.undef)
  (h:vT C.G (fun _ _ _=>False) (fun v' H'=>v'=v∧H'=[some ⟨1,encR p⟩,some ⟨1,cs⟩]) (dcall K fuel n0 fn [.ptr (.rw 0) (.lit 0)] [some ⟨1,.uf 1002 encRU [.agg (.var 1 (encP p))]⟩] 2)):ACalls C f [.ptr (.rw 0) 0] [some ⟨1,encR p⟩] fun v' H'=>v'=v∧H'=[some ⟨1,encR p⟩,some ⟨1,cs⟩]:=by
 have:=dcall_ok hK hf hb hn h
 simp only [vVs,vV,vR,vN,vHp,List.map_cons,List.map_nil,Option.map_some,vBlk,vL,encRU_enc] at this
 exact this.keep (by simp) (by simp [hpB,encR_flat,hc]) (by simpa using hv) hu
end Go.Am
namespace Go.Am
open Crc
def encF (f g:Nat→Bool) (h:Nat→Wd):List AV:=((List.range 16).map fun i=>.bool (f i))++(((List.range 16).map fun i=>.bool (g i))++((List.range 16).map fun i=>.int .u32 (u (h i))))
theorem encR_F (p:Sg):encR p=encF (fun i=>p.wt.getLsbD i) (fun i=>p.hd.getLsbD i) p.at_:=rfl
theorem mapR_get {α:Type} (f:Nat→α) {i:Nat} (h:i<16):((List.range 16).map f)[i]?=some (f i):=by simp [h]
theorem mapR_len {α:Type} (f:Nat→α):((List.range 16).map f).length=16:=by simp
theorem encF_length (f g:Nat→Bool) (h:Nat→Wd):(encF f g h).length=48:=by simp [encF]
theorem encF_congr {f f' g g':Nat→Bool} {h h':Nat→Wd} (h1:∀ i,i<16→f i=f' i) (h2:∀ i,i<16→g i=g' i) (h3:∀ i,i<16→h i=h' i):encF f g h=encF f' g' h':=by
 unfold encF
 rw [List.map_congr_left fun i hi=>by rw [h1 i (List.mem_range.1 hi)],List.map_congr_left (f:=fun i=>AV.bool (g i)) fun i hi=>by rw [h2 i (List.mem_range.1 hi)],List.map_congr_left (f:=fun i=>AV.int .u32 (u (h i))) fun i hi=>by rw [h3 i (List.mem_range.1 hi)]]
def updB (f:Nat→Bool) (i:Nat) (b:Bool):Nat→Bool:=fun j=>if j=i then b else f j
theorem mapR_set {α:Type} (f g:Nat→α) {i:Nat} (hi:i<16) (x:α) (h:∀ j,j<16→g j=if j=i then x else f j):((List.range 16).map f).set i x=(List.range 16).map g:=by
 apply List.ext_getElem?
 intro j
 rw [List.getElem?_set,mapR_len]
 by_cases hj:j<16
 ·rw [mapR_get _ hj,mapR_get _ hj,h j hj]
  by_cases he:i=j
  ·subst he;simp [hi]
  ·rw [if_neg he,if_neg (fun h=>he h.symm)]
 ·rw [List.getElem?_eq_none (by rw [mapR_len];omega),List.getElem?_eq_none (by rw [mapR_len];omega),if_neg (by omega)]
theorem encF_setW (f g:Nat→Bool) (h:Nat→Wd) {i:Nat} (hi:i<16) (b:Bool):(encF f g h).set i (.bool b)=encF (updB f i b) g h:=by
 unfold encF
 rw [List.set_append_left _ _ (by rw [mapR_len];exact hi),mapR_set _ (fun j=>AV.bool (updB f i b j)) hi]
 intro j _;unfold updB;split<;>rfl
theorem encF_setH (f g:Nat→Bool) (h:Nat→Wd) {i:Nat} (hi:i<16) (b:Bool):(encF f g h).set (i+16) (.bool b)=encF f (updB g i b) h:=by
 unfold encF
 rw [List.set_append_right _ _ (by rw [mapR_len];omega),mapR_len,Nat.add_sub_cancel,List.set_append_left _ _ (by rw [mapR_len];exact hi),mapR_set _ (fun j=>AV.bool (updB g i b j)) hi]
 intro j _;unfold updB;split<;>rfl
theorem encF_setA (f g:Nat→Bool) (h:Nat→Wd) {i:Nat} (hi:i<16) (x:Wd):(encF f g h).set (i+32) (.int .u32 (u x))=encF f g (fun j=>if j=i then x else h j):=by
 unfold encF
 rw [List.set_append_right _ _ (by rw [mapR_len];omega),mapR_len,show i+32 - 16=i+16 by omega,List.set_append_right _ _ (by rw [mapR_len];omega),mapR_len,Nat.add_sub_cancel,
  mapR_set _ (fun j=>AV.int .u32 (u (if j=i then x else h j))) hi]
 intro j _;split<;>rfl
section
variable (p:Sg) {i:Nat} (h:i<16)
include h
theorem r_isW:isB (encR p) i=true:=by simp [isB,encR_w p h]
theorem r_getW:getB (encR p) i=p.wt.getLsbD i:=by simp [getB,encR_w p h]
theorem r_isH:isB (encR p) (i+16)=true:=by simp [isB,encR_h p h]
theorem r_getH:getB (encR p) (i+16)=p.hd.getLsbD i:=by simp [getB,encR_h p h]
theorem r_isA:isI .u32 (encR p) (i+32)=true:=by simp [isI,encR_a p h]
theorem r_getA:getI (encR p) (i+32)=u (p.at_ i):=by simp [getI,encR_a p h]
end
theorem leB_encR (p:Sg) (k:Nat) (h:k≤48):leB k (encR p).length=true:=leB_iff.2 (by rw [encR_length];exact h)
theorem m34:∀ j,j<16→(65534#32).getLsbD j=decide (1≤j):=by decide
theorem m32:∀ j,j<16→(65532#32).getLsbD j=decide (2≤j):=by decide
theorem wt0 (p:Sg):p.wt.getLsbD 0=false:=by rw [←p.hw,BitVec.getLsbD_and,m34 0 (by omega)];simp
theorem hd01 (p:Sg) {j:Nat} (h:j<2):p.hd.getLsbD j=false:=by rw [←p.hh,BitVec.getLsbD_and,m32 j (by omega)];simp;omega
theorem r_send (p:Sg) (n:Int) (h1:0<n) (h2:n≤15):(encR p).set n.toNat (.bool true)=encR (send p n):=by
 rw [encR_F,encF_setW _ _ _ (by omega),encR_F]
 refine encF_congr (fun j hj=>?_) (fun _ _=>rfl) (fun _ _=>rfl)
 show _=((p.wt ||| bitN n.toNat) &&& 65534#32).getLsbD j
 rw [BitVec.getLsbD_and,BitVec.getLsbD_or,bitN_get _ _ (by omega),m34 j hj]
 unfold updB
 by_cases he:j=n.toNat
 ·subst he;simp;omega
 ·rw [if_neg he]
  by_cases h0:j=0
  ·subst h0;have e:=wt0 p;simp at e;simp [e]
  ·have:decide (1≤j)=true:=decide_eq_true (by omega)
   simp [he,this]
theorem r_send0 (p:Sg):encR (send p 0)=encR p:=by
 rw [encR_F,encR_F]
 refine encF_congr (fun j hj=>?_) (fun _ _=>rfl) (fun _ _=>rfl)
 show ((p.wt ||| bitN 0) &&& 65534#32).getLsbD j=_
 rw [BitVec.getLsbD_and,BitVec.getLsbD_or,bitN_get _ _ (by omega),m34 j hj]
 by_cases h0:j=0
 ·subst h0;rw [wt0];simp
 ·have:decide (1≤j)=true:=decide_eq_true (by omega)
  simp [h0,this]
theorem r_take (p:Sg) (i:Nat) (h0:tkN p=i) (h1:1≤i) (h2:i<16):(encR p).set i (.bool false)=encR (tkP p):=by
 rw [encR_F,encF_setW _ _ _ h2]
 unfold tkP
 rw [if_neg (by omega),encR_F,h0]
 refine encF_congr (fun j hj=>?_) (fun _ _=>rfl) (fun _ _=>rfl)
 show _=((p.wt &&& ~~~ bitN i) &&& 65534#32).getLsbD j
 rw [BitVec.getLsbD_and,BitVec.getLsbD_and,BitVec.getLsbD_not,bitN_get _ _ (by omega),m34 j hj]
 unfold updB
 by_cases he:j=i
 ·subst he;simp
 ·rw [if_neg he]
  by_cases h0:j=0
  ·subst h0;have e:=wt0 p;simp at e;simp [e]
  ·have h3:decide (1≤j)=true:=decide_eq_true (by omega)
   have h4:decide (j<32)=true:=decide_eq_true (by omega)
   simp [he,h3,h4]
theorem r_handle (p:Sg) (n a:Int) (h1:2≤n) (h2:n≤15):(encR p).set (n.toNat+32) (.int .u32 (IntKind.wrap .u32 a))=encR (handle p n a):=by
 rw [wrap_w32,encR_F,encF_setA _ _ _ (by omega),encR_F]
 refine encF_congr (fun _ _=>rfl) (fun _ _=>rfl) (fun j hj=>?_)
 show _=updA p.at_ n.toNat (w32 a) j
 unfold updA
 by_cases he:j=n.toNat
 ·rw [if_pos he,if_pos he,if_neg (by omega)]
 ·rw [if_neg he,if_neg he]
theorem bit64 (a:Int) (i:Nat) (h:i<16):((kAnd .i64 (kShr .i64 a (IntKind.wrap .u64 (i:Int))) 1:Int)==1)=(w32 a).getLsbD i:=by
 have e0:IntKind.wrap .u64 (i:Int)=i:=by rw [IntKind.wrap_u64];omega
 have e1:kShr .i64 a (i:Int)=a / 2^i:=by
  unfold kShr
  rw [show min (Int.toNat (i:Int)) (IntKind.bits .i64)=i by simp [IntKind.bits];omega]
  exact Int.fdiv_eq_ediv_of_nonneg _ (by exact Int.le_of_lt (Int.pow_pos (by omega)))
 have e2:∀ x:Int,((kAnd .i64 x 1:Int)==1)=decide (x % 2=1):=fun x=>by
  unfold kAnd
  have:(BitVec.ofInt (IntKind.bits .i64) x &&& BitVec.ofInt (IntKind.bits .i64) 1).toNat=(x % 2).toNat:=by
   show (BitVec.ofInt 64 x &&& 1#64).toNat=_
   rw [BitVec.toNat_and,BitVec.toNat_ofInt]
   show ((x % 18446744073709551616).toNat &&& 1)=_
   rw [Nat.and_one_is_mod]
   omega
  rw [this,i64_in (by omega)]
  rw [Bool.eq_iff_iff]
  simp
  omega
 rw [e0,e1,e2]
 have e3:(w32 a).getLsbD i=decide (((a % 4294967296).toNat / 2^i) % 2=1):=by
  show (BitVec.ofInt 32 a).toNat.testBit i=_
  rw [BitVec.toNat_ofInt,Nat.testBit_eq_decide_div_mod_eq]
  rfl
 rw [e3,Bool.eq_iff_iff]
 simp only [decide_eq_true_eq]
 rcases (by omega:i=0∨i=1∨i=2∨i=3∨i=4∨i=5∨i=6∨i=7∨i=8∨i=9∨i=10∨i=11∨i=12∨i=13∨i=14∨i=15) with rfl | rfl | rfl | rfl | rfl | rfl | rfl | rfl | rfl | rfl | rfl | rfl | rfl | rfl | rfl | rfl<;>simp<;>omega
theorem hd_lt (p:Sg):p.hd.toNat<65536:=by
 have:p.hd.toNat=(p.hd &&& 65532#32).toNat:=by rw [p.hh]
 rw [this,BitVec.toNat_and]
 have:=Nat.and_le_right (n:=p.hd.toNat) (m:=(65532#32).toNat)
 have e:(65532#32).toNat=65532:=rfl
 omega
theorem sum_step (x:Wd) (i:Nat):x.toNat % 2^(i+1)=x.toNat % 2^i+(if x.getLsbD i then 2^i else 0):=by
 rw [Nat.mod_pow_succ]
 show _=_+(if x.toNat.testBit i=true then 2^i else 0)
 rw [Nat.testBit_eq_decide_div_mod_eq]
 by_cases h:x.toNat / 2^i % 2=1
 ·simp [h]
 ·have:x.toNat / 2^i % 2=0:=by omega
  simp [this]
end Go.Am
