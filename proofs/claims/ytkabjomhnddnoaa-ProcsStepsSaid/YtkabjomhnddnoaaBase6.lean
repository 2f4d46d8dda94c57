/-
  CRC-32C, plainly: the register's step, its parity, flips, linear maps. Words of 32 bits as the program holds them.
-/
import Derived.Test.YtkabjomhnddnoaaBase3
import Derived.IntWalk
import Derived.Test.YtkabjomhnddnoaaBase4
import Derived.Test.YtkabjomhnddnoaaBase5
namespace Crc
abbrev Wd:=BitVec 32
end Crc
namespace Go.Am
open Crc
def u (x:Wd):Int:=(x.toNat:Int)
def V0 (n:Int):Wd:=BitVec.ofInt 32 n
theorem Sb (x:Wd):0≤u x∧u x<4294967296:=by
 have:=x.isLt
 unfold u;omega
theorem lN (x:Wd):IntKind.u32.wrap (u x)=u x:=by
 have:=Sb x
 rw [IntKind.wrap_u32];omega
theorem aQ6 (x:Wd):BitVec.ofInt 32 (u x)=x:=by
 apply BitVec.eq_of_toNat_eq;simp [u]
theorem Bl (x:Wd):V0 (u x)=x:=aQ6 x
theorem u_w32 {n:Int} (h:0≤n∧n<4294967296):u (V0 n)=n:=by
 obtain ⟨m,rfl⟩:=Int.eq_ofNat_of_zero_le h.1;simp [u,V0];omega
theorem u_inj {x y:Wd}:u x=u y↔x=y:=by
 constructor
 ·intro h
  have:=congrArg V0 h
  rwa [Bl,Bl] at this
 ·rintro rfl;rfl
theorem sH (x y:Wd):(u x==u y)=(x==y):=by
 rw [Bool.eq_iff_iff];simp [u_inj]
theorem fdiv_u (x:Wd) (k:Nat):(u x).fdiv (2^k)=u (x >>> k):=by
 unfold u;rw [BitVec.toNat_ushiftRight,Nat.shiftRight_eq_div_pow,Int.fdiv_eq_ediv_of_nonneg _ (Int.le_of_lt (Int.pow_pos (by omega)))];simp
theorem nR (x y:Int):W1 .u32 x y=u (V0 x &&& V0 y):=lN _
theorem kShr_u (x:Wd) (k:Nat) (hk:k≤32):Hf .u32 (u x) (k:Int)=u (x >>> k):=by
 unfold Hf;rw [show min (Int.toNat (k:Int)) (IntKind.bits .u32)=k by simp [IntKind.bits];omega];exact fdiv_u x k
theorem zF (x:Int):V0 (IntKind.u32.wrap x)=V0 x:=by
 rw [IntKind.wrap_u32];unfold V0;apply BitVec.eq_of_toNat_eq;simp only [BitVec.toNat_ofInt];congr 1;omega
end Go.Am
namespace Go.Am
open Crc
end Go.Am
namespace Go.Am
open Crc
def Jy (i:Nat):Wd:=BitVec.ofNat 32 (2^i)
theorem bT (i j:Nat) (hi:i<32):(Jy i).getLsbD j=decide (j=i):=by
 unfold Jy;simp only [BitVec.getLsbD_ofNat,Nat.testBit_two_pow];by_cases h:j=i
 ·subst h;simp [hi]
 ·have:¬i=j:=fun e=>h e.symm
  simp [h,this]
theorem aU2 (x:Wd) (i:Nat) (hi:i<32):W1 .u32 (Hf .u32 (u x) (i:Int)) 1=if x.getLsbD i then 1 else 0:=by
 rw [kShr_u x i (by omega),nR,Bl]
 have:(x >>> i &&& V0 1)=if x.getLsbD i then 1#32 else 0#32:=by
  apply BitVec.eq_of_getLsbD_eq;intro j hj;have e1:V0 1=1#32:=by decide
  rw [e1];simp only [BitVec.getLsbD_and,BitVec.getLsbD_ushiftRight];by_cases h0:j=0
  ·subst h0;cases h:x.getLsbD i<;>simp [h]
  ·have:(1#32).getLsbD j=false:=by simp [h0]
   rw [this]
   split<;>simp [h0]
 rw [this]
 split<;>decide
end Go.Am
namespace Go.Am
open Crc
structure Sg where
 wt:Wd
 hd:Wd
 at_:Nat→Wd
 hw:wt &&& 65534#32=wt
 hh:hd &&& 65532#32=hd
 ha:∀ i,i<2∨16≤i→at_ i=0#32
theorem Sg.ext {p q:Sg} (h1:p.wt=q.wt) (h2:p.hd=q.hd) (h3:∀ i,p.at_ i=q.at_ i):p=q:=by
 cases p;cases q
 have:∀ f g:Nat→Wd,(∀ i,f i=g i)→f=g:=fun f g h=>funext h
 simp only at h1 h2 h3;subst h1 h2
 have:=this _ _ h3
 subst this;rfl
theorem and_idem (x m:Wd):x &&& m &&& m=x &&& m:=by rw [BitVec.and_assoc,BitVec.and_self]
def Hh (cs:List AV):Sg where
 wt:=V0 (A0 cs 1) &&& 65534#32
 hd:=V0 (A0 cs 2) &&& 65532#32
 at_ i:=if i<2∨16≤i then 0#32 else V0 (A0 cs (i+3))
 hw:=and_idem _ _
 hh:=and_idem _ _
 ha i h:=if_pos h
def Nj (f:Nat→Wd):List AV:=(List.range 16).map fun i=>.int .u32 (u (f i))
def My (x:Wd):List AV:=(List.range 16).map fun i=>.bool (x.getLsbD i)
def encP (p:Sg):List AV:=.bool true::.int .u32 (u p.wt)::.int .u32 (u p.hd)::Nj p.at_
def encR (p:Sg):List AV:=My p.wt++(My p.hd++Nj p.at_)
theorem Hq (f:Nat→Wd):(Nj f).length=16:=by simp [Nj]
theorem R6 (x:Wd):(My x).length=16:=by simp [My]
theorem Vj (f:Nat→Wd) {i:Nat} (h:i<16):(Nj f)[i]?=some (.int .u32 (u (f i))):=by simp [Nj,h]
theorem eZ (x:Wd) {i:Nat} (h:i<16):(My x)[i]?=some (.bool (x.getLsbD i)):=by simp [My,h]
theorem W5 (p:Sg):(encP p).length=19:=by simp [encP,Hq]
theorem pV (p:Sg):(encR p).length=48:=by simp [encR,Hq,R6]
theorem Zl (p:Sg) {i:Nat} (h:i<16):(encP p)[i+3]?=some (.int .u32 (u (p.at_ i))):=by
 simp only [encP,List.getElem?_cons_succ];exact Vj p.at_ h
theorem bP (p:Sg) {i:Nat} (h:i<16):isI .u32 (encP p) (i+3)=true:=by simp [isI,Zl p h]
theorem Re (p:Sg) {i:Nat} (h:i<16):A0 (encP p) (i+3)=u (p.at_ i):=by simp [A0,Zl p h]
theorem E8 (p:Sg):Hh (encP p)=p:=by
 refine Sg.ext ?_ ?_ fun i=>?_
 ·show V0 (u p.wt) &&& 65534#32=_;rw [Bl,p.hw]
 ·show V0 (u p.hd) &&& 65532#32=_;rw [Bl,p.hh]
 ·simp only [Hh];by_cases h:i<2∨16≤i
  ·rw [if_pos h,p.ha i h]
  ·rw [if_neg h,Re p (by omega),Bl]
def okP (cs:List AV):Bool:=Nat.beq cs.length 19&&(isB cs 0&&(A5 cs 0&&(Vq .u32 cs 1 18&&(List.range 19).all fun j=>A0 cs j==A0 (encP (Hh cs)) j)))
theorem Pk {cs:List AV} (h:okP cs=true):cs=encP (Hh cs):=by
 simp only [okP,Bool.and_eq_true,List.all_eq_true,List.mem_range,beq_iff_eq] at h;obtain ⟨h1,h2,h3,h4,h5⟩:=h;have h1:=Nat.eq_of_beq_eq_true h1
 have ee:∀ j,j<18→∃ n,(encP (Hh cs))[j+1]?=some (.int .u32 n):=fun j hj=>by
  rcases j with _ | _ | j
  ·exact ⟨_,rfl⟩
  ·exact ⟨_,rfl⟩
  ·exact ⟨_,Zl _ (by omega)⟩
 have key:∀ j,j<18→cs[j+1]?=(encP (Hh cs))[j+1]?:=fun j hj=>by
  have e1:=Pu (Oh h4 hj);rw [Nat.add_comm 1 j] at e1;obtain ⟨n,e2⟩:=ee j hj;rw [e1,e2]
  have:=h5 (j+1) (by omega)
  rw [this];simp [A0,e2]
 apply List.ext_getElem?;intro i;rcases i with _ | i
 ·rw [Un h2,h3];rfl
 ·by_cases hi:i<18
  ·exact key i hi
  ·rw [List.getElem?_eq_none (by omega),List.getElem?_eq_none (by rw [W5];omega)]
theorem qW (p:Sg):okP (encP p)=true:=by
 simp only [okP,Bool.and_eq_true,List.all_eq_true,List.mem_range,beq_iff_eq];refine ⟨by rw [W5];rfl,rfl,rfl,dA fun j hj=>?_,fun j _=>by rw [E8]⟩
 have:∃ x:Wd,(encP p)[j+1]?=some (.int .u32 (u x)):=by
  rcases j with _ | _ | j
  ·exact ⟨p.wt,rfl⟩
  ·exact ⟨p.hd,rfl⟩
  ·exact ⟨p.at_ j,Zl p (by omega)⟩
 obtain ⟨x,hx⟩:=this;rw [Nat.add_comm];simp [isI,hx]
theorem N7 (n:Nat) (p:Sg):A8 n (encP p)=true:=by rw [I1];simp [encP,Nj,bnd]
theorem U6 (n:Nat) (p:Sg):A8 n (encR p)=true:=by rw [I1];simp [encR,Nj,My,bnd]
theorem Vc (p:Sg):cellsB (encP p)=true:=by simp [cellsB,encP,Nj,isCell]
theorem oS (p:Sg):A0 (encP p) 1=u p.wt:=rfl
theorem oR (p:Sg):A0 (encP p) 2=u p.hd:=rfl
theorem eJ (p:Sg) {i:Nat} (h:i<16):(encR p)[i]?=some (.bool (p.wt.getLsbD i)):=by
 rw [encR,List.getElem?_append_left (by rw [R6];exact h),eZ _ h]
theorem eK (p:Sg) {i:Nat} (h:i<16):(encR p)[i+16]?=some (.bool (p.hd.getLsbD i)):=by
 rw [encR,List.getElem?_append_right (by rw [R6];omega),R6,Nat.add_sub_cancel,List.getElem?_append_left (by rw [R6];exact h),eZ _ h]
theorem eM (p:Sg) {i:Nat} (h:i<16):(encR p)[i+32]?=some (.int .u32 (u (p.at_ i))):=by
 rw [encR,List.getElem?_append_right (by rw [R6];omega),R6,show i+32 - 16=i+16 by omega,List.getElem?_append_right (by rw [R6];omega),R6,Nat.add_sub_cancel,Vj _ h]
def updA (f:Nat→Wd) (i:Nat) (x:Wd):Nat→Wd:=fun j=>if j=i then (if i<2∨16≤i then 0#32 else x) else f j
def Kn (p:Sg) (x:Wd):Sg:={ p with wt:=x &&& 65534#32,hw:=and_idem _ _ }
def setH (p:Sg) (x:Wd):Sg:={ p with hd:=x &&& 65532#32,hh:=and_idem _ _ }
theorem updA_ha (p:Sg) (i:Nat) (x:Wd):∀ j,j<2∨16≤j→updA p.at_ i x j=0#32:=fun j hj=>by
 unfold updA;split
 ·rename_i h;subst h;exact if_pos hj
 ·exact p.ha j hj
def setA (p:Sg) (i:Nat) (x:Wd):Sg:={ p with at_:=updA p.at_ i x,ha:=updA_ha p i x }
def send (p:Sg) (n:Int):Sg:=Kn p (p.wt ||| Jy n.toNat)
def Po (p:Sg) (b:Int):Sg:=setH p (V0 b)
def dS (p:Sg) (n a:Int):Sg:=setA p n.toNat (V0 a)
def X5 (x:Wd):Nat→Nat→Nat
 | 0,_=>0
 | f+1,i=>if x.getLsbD i then i else X5 x f (i+1)
def dL (x:Wd):Nat:=X5 x 15 1
theorem dM (x:Wd):∀ f i,X5 x f i=0∨(i≤X5 x f i∧X5 x f i<i+f∧x.getLsbD (X5 x f i)=true∧∀ j,i≤j→j<X5 x f i→x.getLsbD j=false)
 | 0,i=>.inl rfl
 | f+1,i=>by
  unfold X5;split
  ·rename_i h;exact .inr ⟨Nat.le_refl _,by omega,h,fun j h1 h2=>by omega⟩
  ·rename_i h;rcases dM x f (i+1) with h0 | ⟨h1,h2,h3,h4⟩
   ·exact .inl h0
   ·refine .inr ⟨by omega,by omega,h3,fun j h5 h6=>?_⟩;by_cases hj:j=i
    ·subst hj;simpa using h
    ·exact h4 j (by omega) h6
theorem Wy (x:Wd):dL x<16:=by
 rcases dM x 15 1 with h | ⟨_,h,_⟩
 ·unfold dL;omega
 ·unfold dL;omega
theorem Pp (x:Wd) (f i:Nat):X5 x (f+1) i=if x.getLsbD i then i else X5 x f (i+1):=rfl
def tkN (p:Sg):Nat:=dL (p.wt &&& ~~~ p.hd)
def Co (p:Sg):Bool:=!(Nat.beq (tkN p) 0)&&!(p.at_ (tkN p)==1#32)
def T8 (p:Sg):Int:=if Co p then tkN p else 0
def Bo (p:Sg):Bool:=Co p&&(p.at_ (tkN p)==0#32)
def Kh (p:Sg):Int:=if Co p then u (p.at_ (tkN p)) else 0
def Io (p:Sg):Sg:=if tkN p=0 then p else Kn p (p.wt &&& ~~~ Jy (tkN p))
def Ao (x:Wd):List Nat:=((List.range 15).map (·+1)).filter fun i=>x.getLsbD i
def Q4 (x:Wd) (i:Nat):List Nat:=((List.range i).map (·+1)).filter fun i=>x.getLsbD i
theorem Lr (x:Wd) (i:Nat):Q4 x (i+1)=Q4 x i++(if x.getLsbD (i+1) then [i+1] else []):=by
 unfold Q4;rw [List.range_succ,List.map_append,List.filter_append];congr 1;simp only [List.map_cons,List.map_nil,List.filter_cons,List.filter_nil]
theorem Vp (x:Wd) (i:Nat):(Q4 x i).length≤i:=by
 have:=List.length_filter_le (fun i=>x.getLsbD i) ((List.range i).map (·+1))
 simpa [Q4] using this
def nl (l:List Nat):List AV:=l.map fun (i:Nat)=>AV.int .i64 (Int.ofNat i)
theorem Qs (a b:List Nat):nl (a++b)=nl a++nl b:=by simp [nl]
theorem Qr (a:List Nat):(nl a).length=a.length:=by simp [nl]
theorem L3 (n:Nat) (a:List Nat):A8 n (nl a)=true:=by rw [I1];simp [nl,bnd]
theorem Oi (θ:List Nat) (a:List Nat):rens θ (nl a)=nl a:=E0 θ _ (L3 0 a)
theorem iY (x y:Int):S9 .u32 x y=u (V0 x &&& ~~~ V0 y):=lN _
theorem kOr_w (x y:Int):nO .u32 x y=u (V0 x ||| V0 y):=lN _
theorem kShl1 {i:Nat} (h:i<32):Ct .u32 1 (i:Int)=u (Jy i):=by
 unfold Ct;rw [show min (Int.toNat (i:Int)) (IntKind.bits .u32)=i by simp [IntKind.bits];omega,Int.one_mul]
 have hlt:2^i<4294967296:=by
  have:2^i<2^32:=Nat.pow_lt_pow_right (by omega) h
  simpa using this
 have e:u (Jy i)=((2^i:Nat):Int):=by
  unfold u Jy;rw [BitVec.toNat_ofNat,Nat.mod_eq_of_lt (by simpa using hlt)]
 rw [e,show (2:Int)^i=((2^i:Nat):Int) by simp,IntKind.wrap_u32];generalize 2^i=m at *;omega
theorem lF (a:Int):IntKind.u32.wrap a=u (V0 a):=by
 rw [IntKind.wrap_u32]
 have:=u_w32 (n:=a % 4294967296) (by omega)
 rw [←this];congr 1;unfold V0;apply BitVec.eq_of_toInt_eq;simp only [BitVec.toInt_ofInt];show Int.bmod (a % 4294967296) 4294967296=Int.bmod a 4294967296;unfold Int.bmod;simp
end Go.Am
namespace Go.Am
open Crc
def eD:AV→AV→Bool
 | .bool a,.bool b=>a==b
 | .int k a,.int k' b=>k==k'&&a==b
 | _,_=>false
def Hg:List AV→List AV→Bool
 | [],[]=>true
 | x::l,y::m=>eD x y&&Hg l m
 | _,_=>false
theorem eqC_eq {x y:AV} (h:eD x y=true):x=y:=by
 unfold eD at h;split at h
 ·rw [eq_of_beq h]
 ·simp only [Bool.and_eq_true,beq_iff_eq] at h;rw [h.1,h.2]
 ·simp at h
theorem Ot:∀ {l m:List AV},Hg l m=true→l=m
 | [],[],_=>rfl
 | x::l,y::m,h=>by
  simp only [Hg,Bool.and_eq_true] at h;rw [eqC_eq h.1,Ot h.2]
 | [],_::_,h=>by simp [Hg] at h
 | _::_,[],h=>by simp [Hg] at h
def Gz {α:Type} (d:α) (f:Sg→α):List AV→α:=fun as=>match as with
 | .agg cs::_=>f (Hh cs)
 | _=>d
def Tz {α:Type} (d:α) (f:Sg→Int→α):List AV→α:=fun as=>match as with
 | [.agg cs,.int _ n]=>f (Hh cs) n
 | _=>d
def okU:List AV→Bool:=fun as=>match as with
 | [.agg cs]=>okP cs
 | _=>false
def okRU:List AV→Bool:=fun as=>match as with
 | [.agg ds,.agg cs]=>okP cs&&Hg ds (encR (Hh cs))
 | _=>false
def B1:List AV→List AV:=Gz [] encR
def Gi:List AV→List AV:=Tz [] fun p n=>encP (send p n)
def Gs:List AV→List AV:=Tz [] fun p n=>encP (Po p n)
def Eo:List AV→Int:=Gz 0 fun p=>u p.hd
def atU:List AV→Int:=Tz 0 fun p n=>u (p.at_ n.toNat)
def M1:List AV→List AV:=Gz [] fun p=>encP (Io p)
def G3:List AV→Int:=Gz 0 T8
def J3:List AV→Bool:=Gz false Bo
def T9:List AV→Int:=Gz 0 Kh
def Db:List AV→Bool:=Gz false Co
def Jm:List AV→List AV:=Gz [] fun p=>nl (Ao p.wt)
def Fj:List AV→Nat:=Gz 0 fun p=>(Ao p.wt).length
def Mv:List AV→List AV:=Gz [] fun p=>encP (Kn p 0#32)
def Ht (p q:Sg):Bool:=p.wt==q.wt&&(p.hd==q.hd&&(List.range 16).all fun i=>p.at_ i==q.at_ i)
def Ei:List AV→Bool:=fun as=>match as with
 | [.agg cs,.agg ds]=>Ht (Hh cs) (Hh ds)
 | _=>false
structure Side where
 get:EL→Option (EB×EL)
 put:EL→EL
def N0:Side:=⟨fun l=>some (.uf 1001 okU [.agg l],l),fun l=>l⟩
def Eh:Side:=⟨fun l=>match l with
 | .uf 1002 f [.agg d]=>some (.uf 1003 okRU [.agg (.uf 1002 f [.agg d]),.agg d],d)
 | _=>none,fun l=>.uf 1002 B1 [.agg l]⟩
def Lt (s:Side) (k:Nat→EL→List EV→Option Outs):DSum:=fun args H=>match args with
 | .ptr (.rw i) (.lit 0)::rest=>match H[i]? with
  | some (some ⟨1,cs⟩)=>match s.get cs with
   | some (b,l)=>match k i l rest with
    | some o=>some (.chk b o)
    | none=>none
   | none=>none
  | _=>none
 | _=>none
def Jv (n:Int):EV:=.int .i64 (.lit n)
def cW (n:EI) (lo hi:Int) (bad good:Outs):Outs:=.tst (.cmp .lss n (.lit lo)) bad (.tst (.cmp .gtr n (.lit hi)) bad good)
def sendS (s:Side):DSum:=Lt s fun i l rest=>match rest with
 | [.int .i64 n]=>some (cW n 0 15 (.one (Jv 2) []) (.one (Jv 0) [.set i ⟨1,s.put (.uf 1010 Gi [.agg l,.int .i64 n])⟩]))
 | _=>none
def maskS (s:Side):DSum:=Lt s fun i l rest=>match rest with
 | [.int .i64 n]=>some (.one (.tup [.int .i64 (.uf 1012 Eo [.agg l]),Jv 0]) [.set i ⟨1,s.put (.uf 1011 Gs [.agg l,.int .i64 n])⟩])
 | _=>none
def tI (s:Side):DSum:=fun args H=>Lt s (fun _ l rest=>match rest with
 | []=>some (.one (.slice true (.rw H.length) (.lit 0) (.uf 1021 Fj [.agg l])) [.new ⟨1,.uf 1020 Jm [.agg l]⟩])
 | _=>none) args H
def dR (s:Side):DSum:=Lt s fun _ l rest=>match rest with
 | []=>some (.one (.int .i64 (.uf 1012 Eo [.agg l])) [])
 | _=>none
def bJ (s:Side):DSum:=Lt s fun _ l rest=>match rest with
 | [.int .i64 n]=>some (cW n 1 15 (.one (.tup [.int .u32 (.lit 0),.bool (.lit false)]) []) (.one (.tup [.int .u32 (.uf 1014 atU [.agg l,.int .i64 n]),.bool (.lit true)]) []))
 | _=>none
section
variable (p:Sg)
theorem O8:okU [.agg (encP p)]=true:=qW p
theorem E3:B1 [.agg (encP p)]=encR p:=by simp only [B1,Gz,E8]
theorem Fo:okRU [.agg (encR p),.agg (encP p)]=true:=by
 have:∀ l:List AV,l.all (fun x=>eD x x)=true→Hg l l=true:=by
  intro l
  induction l with
  | nil=>intro _;rfl
  | cons x l ih=>intro h;simp only [List.all_cons,Bool.and_eq_true] at h;simp only [Hg,h.1,ih h.2,Bool.and_self]
 simp only [okRU,qW,E8,Bool.true_and];apply this;simp [encR,Nj,My,eD]
theorem iE {k:IntKind} (n:Int):Gi [.agg (encP p),.int k n]=encP (send p n):=by simp only [Gi,Tz,E8]
theorem It {k:IntKind} (n:Int):Gs [.agg (encP p),.int k n]=encP (Po p n):=by simp only [Gs,Tz,E8]
theorem Cy:Eo [.agg (encP p)]=u p.hd:=by simp only [Eo,Gz,E8]
theorem aU4 {k:IntKind} (n:Int):atU [.agg (encP p),.int k n]=u (p.at_ n.toNat):=by simp only [atU,Tz,E8]
theorem Se:M1 [.agg (encP p)]=encP (Io p):=by simp only [M1,Gz,E8]
theorem Jd:G3 [.agg (encP p)]=T8 p:=by simp only [G3,Gz,E8]
theorem Hj:J3 [.agg (encP p)]=Bo p:=by simp only [J3,Gz,E8]
theorem Mi:T9 [.agg (encP p)]=Kh p:=by simp only [T9,Gz,E8]
theorem Mh:Db [.agg (encP p)]=Co p:=by simp only [Db,Gz,E8]
theorem Ir:Jm [.agg (encP p)]=nl (Ao p.wt):=by simp only [Jm,Gz,E8]
theorem Gm:Fj [.agg (encP p)]=(Ao p.wt).length:=by simp only [Fj,Gz,E8]
theorem Jx:Mv [.agg (encP p)]=encP (Kn p 0#32):=by simp only [Mv,Gz,E8]
end
def Yb:Sg:=⟨0#32,0#32,fun _=>0#32,rfl,rfl,fun _ _=>rfl⟩
structure Q5 (G:Nat→List AV) (s:Side) (enc:Sg→List AV):Prop where
 get:∀ l b d,s.get l=some (b,d)→vB G b=true→∃ p,vL G d=encP p∧vL G l=enc p
 put:∀ l p,vL G l=encP p→vL G (s.put l)=enc p
 flat:∀ p n,A8 n (enc p)=true
theorem S0 (G:Nat→List AV):Q5 G N0 encP:=by
 refine ⟨fun l b d h hb=>?_,fun l p h=>h,fun p n=>N7 n p⟩;simp only [N0,Option.some.injEq,Prod.mk.injEq] at h;obtain ⟨rfl,rfl⟩:=h;simp only [vB,vVs,vV,okU] at hb;exact ⟨_,Pk hb,Pk hb⟩
theorem By (G:Nat→List AV):Q5 G Eh encR:=by
 refine ⟨fun l b d h hb=>?_,fun l p h=>?_,fun p n=>U6 n p⟩
 ·simp only [Eh] at h;split at h
  ·simp only [Option.some.injEq,Prod.mk.injEq] at h;obtain ⟨rfl,rfl⟩:=h;simp only [vB,vVs,vV,okRU,Bool.and_eq_true] at hb;exact ⟨_,Pk hb.1,Ot hb.2⟩
  ·simp at h
 ·simp only [Eh,vL,vVs,vV,h,E3]
theorem Pi {C:A3} {s:Side} {enc:Sg→List AV} (hs:Q5 C.G s enc) {f:FuncId} {k:DHp→Nat→EL→List EV→Option Outs}
  (h:∀ (H:DHp) (i:Nat) (l l0:EL) (rest:List EV) (o:Outs) (p:Sg),k H i l rest=some o→vL C.G l=encP p→vL C.G l0=enc p→H[i]?=some (some ⟨1,l0⟩)→X0 C.G (E1 C f (.ptr (.rw i) (.lit 0)::rest) H) o) :
  G0 C f (fun args H=>Lt s (k H) args H):=by
 intro args H o ho;simp only [Lt] at ho;split at ho
 ·rename_i i rest;split at ho
  ·rename_i cs hi;split at ho
   ·rename_i b l hg;split at ho
    ·rename_i o' hk;simp at ho;subst ho
     exact fun hb=>by
      obtain ⟨p,h1,h2⟩:=hs.get _ _ _ hg hb;exact h H i l cs rest o' p hk h1 h2 hi
    ·simp at ho
   ·simp at ho
  ·simp at ho
 ·simp at ho
theorem dC {G:Nat→List AV} {P:EV→List DHop→Prop} {n:EI} {lo hi:Int} {bad good:Outs} (h1:(vI G n<lo∨hi<vI G n)→X0 G P bad) (h2:lo≤vI G n→vI G n≤hi→X0 G P good):X0 G P (cW n lo hi bad good):=by
 have lt:∀ (x y:Int),Ni .lss x y=true↔x<y:=fun x y=>by unfold Ni;exact decide_eq_true_iff
 have gt:∀ (x y:Int),Ni .gtr x y=true↔y<x:=fun x y=>by unfold Ni;exact decide_eq_true_iff
 have no:∀ {b:Bool},b=false→¬b=true:=fun h h'=>by rw [h] at h';simp at h'
 refine ⟨fun h=>?_,fun h=>⟨fun h'=>?_,fun h'=>?_⟩⟩
 ·exact h1 (.inl ((lt _ _).1 h))
 ·exact h1 (.inr ((gt _ _).1 h'))
 ·have e1:¬vI G n<lo:=fun h3=>no h ((lt _ _).2 h3);have e2:¬hi<vI G n:=fun h3=>no h' ((gt _ _).2 h3);exact h2 (by omega) (by omega)
end Go.Am
namespace Go.Am
open Crc
variable {C:A3} {s:Side} {enc:Sg→List AV}
theorem rP (hs:Q5 C.G s enc) {f:FuncId} {i:Nat} {l0 d:EL} {rest:List EV} {H:DHp} {v:EV} {p p':Sg} (h0:vL C.G l0=enc p) (hi:H[i]?=some (some ⟨1,l0⟩)) (hd:vL C.G d=encP p')
  (h:ACalls C f (.ptr (.rw 0) 0::vVs C.G rest) [some ⟨1,enc p⟩] fun v' H'=>v'=vV C.G v∧H'.take 1=[some ⟨1,enc p'⟩]) (hr:A8 0 (vVs C.G rest)=true) (hv:bnd 0 (vV C.G v)=true) (hu:vV C.G v≠.undef) :
  X0 C.G (E1 C f (.ptr (.rw i) (.lit 0)::rest) H) (.one v [.set i ⟨1,s.put d⟩]):=
 E1.set1 hi (by rw [h0,hs.put d p' hd];exact h) (by rw [h0];exact hs.flat _ _) (by rw [hs.put d p' hd];exact hs.flat _ _) hr hv hu
theorem Zg (hs:Q5 C.G s enc) {f:FuncId} {i:Nat} {l0:EL} {rest:List EV} {H:DHp} {v:EV} {p:Sg} (h0:vL C.G l0=enc p) (hi:H[i]?=some (some ⟨1,l0⟩))
  (h:ACalls C f (.ptr (.rw 0) 0::vVs C.G rest) [some ⟨1,enc p⟩] fun v' H'=>v'=vV C.G v∧H'.take 1=[some ⟨1,enc p⟩]) (hr:A8 0 (vVs C.G rest)=true) (hv:bnd 0 (vV C.G v)=true) (hu:vV C.G v≠.undef) :
  X0 C.G (E1 C f (.ptr (.rw i) (.lit 0)::rest) H) (.one v []):=
 E1.get1 hi (by rw [h0];exact h) (by rw [h0];exact hs.flat _ _) hr hv hu
def Z4 (C:A3) (f:FuncId) (enc:Sg→List AV) (p:Sg) (rest:List AV) (v:AV) (p':Sg):Prop:=
 ACalls C f (.ptr (.rw 0) 0::rest) [some ⟨1,enc p⟩] fun v' H'=>v'=v∧H'.take 1=[some ⟨1,enc p'⟩]
def Y4 (n lo hi:Int):Bool:=decide (n<lo)||decide (hi<n)
theorem Mn {n lo hi:Int} (h:n<lo∨hi<n):Y4 n lo hi=true:=by simp [Y4,h]
theorem Np {n lo hi:Int} (h1:lo≤n) (h2:n≤hi):Y4 n lo hi=false:=by simp [Y4];omega
def Xv (C:A3) (f:FuncId) (enc:Sg→List AV):Prop:=∀ p n,Z4 C f enc p [.int .i64 n] (.int .i64 (if Y4 n 0 15 then 2 else 0)) (if Y4 n 0 15 then p else send p n)
theorem aA4 (hs:Q5 C.G s enc) {f:FuncId} (h:Xv C f enc):G0 C f (sendS s):=by
 refine Pi hs (k:=fun _ i l rest=>match rest with
  | [.int .i64 n]=>some (cW n 0 15 (.one (Jv 2) []) (.one (Jv 0) [.set i ⟨1,s.put (.uf 1010 Gi [.agg l,.int .i64 n])⟩]))
  | _=>none) fun H i l l0 rest o p hk hl h0 hi=>?_
 split at hk
 ·rename_i n;simp at hk;subst hk
  have:=h p (vI C.G n)
  refine dC (fun hb=>?_) (fun h1 h2=>?_)
  ·rw [Mn hb] at this;exact Zg hs h0 hi this (by simp [vVs,vV,A8,bnd]) (by simp [Jv,vV,bnd]) (by simp [Jv,vV])
  ·rw [Np h1 h2] at this;exact rP hs h0 hi (p':=send p (vI C.G n)) (by simp only [vL,vVs,vV,hl,iE]) this (by simp [vVs,vV,A8,bnd]) (by simp [Jv,vV,bnd]) (by simp [Jv,vV])
 ·simp at hk
def fE (C:A3) (f:FuncId) (enc:Sg→List AV):Prop:=∀ p n,Z4 C f enc p [.int .i64 n] (.tup [.int .i64 (u p.hd),.int .i64 0]) (Po p n)
theorem aD1 (hs:Q5 C.G s enc) {f:FuncId} (h:fE C f enc):G0 C f (maskS s):=by
 refine Pi hs (k:=fun _ i l rest=>match rest with
  | [.int .i64 n]=>some (.one (.tup [.int .i64 (.uf 1012 Eo [.agg l]),Jv 0]) [.set i ⟨1,s.put (.uf 1011 Gs [.agg l,.int .i64 n])⟩])
  | _=>none) fun H i l l0 rest o p hk hl h0 hi=>?_
 split at hk
 ·rename_i n;simp at hk;subst hk;refine rP hs h0 hi (p':=Po p (vI C.G n)) (by simp only [vL,vVs,vV,hl,It]) ?_ (by simp [vVs,vV,A8,bnd]) (by simp [Jv,vV,vVs,bnd,A8]) (by simp [vV]);simp only [Jv,vVs,vV,vI,hl,Cy];exact h p (vI C.G n)
 ·simp at hk
def bY (C:A3) (f:FuncId) (enc:Sg→List AV):Prop:=∀ p n a,Z4 C f enc p [.int .i64 n,.int .i64 a]
 (if Y4 n 2 15||Y4 a 0 4294967295 then .tup [.int .i64 0,.int .i64 2] else .tup [.int .i64 (u (p.at_ n.toNat)),.int .i64 0]) (if Y4 n 2 15||Y4 a 0 4294967295 then p else dS p n a)
def Vy (p:Sg):AV:=.tup [.agg [.int .i64 (T8 p),.bool (Bo p),.int .u32 (Kh p)],.bool (Co p)]
def pD (C:A3) (f:FuncId) (enc:Sg→List AV):Prop:=∀ p,Z4 C f enc p [] (Vy p) (Io p)
def pG (C:A3) (f:FuncId) (enc:Sg→List AV):Prop:=∀ p,Z4 C f enc p [] (.int .i64 (u p.hd)) p
theorem bI (hs:Q5 C.G s enc) {f:FuncId} (h:pG C f enc):G0 C f (dR s):=by
 refine Pi hs (k:=fun _ _ l rest=>match rest with
  | []=>some (.one (.int .i64 (.uf 1012 Eo [.agg l])) [])
  | _=>none) fun H i l l0 rest o p hk hl h0 hi=>?_
 split at hk
 ·simp at hk;subst hk;refine Zg hs h0 hi ?_ (by simp [vVs,A8]) (by simp [vV,bnd]) (by simp [vV]);simp only [vVs,vV,vI,hl,Cy];exact h p
 ·simp at hk
def Xy (C:A3) (f:FuncId) (enc:Sg→List AV):Prop:=∀ p n,Z4 C f enc p [.int .i64 n] (if Y4 n 1 15 then .tup [.int .u32 0,.bool false] else .tup [.int .u32 (u (p.at_ n.toNat)),.bool true]) p
theorem aI (hs:Q5 C.G s enc) {f:FuncId} (h:Xy C f enc):G0 C f (bJ s):=by
 refine Pi hs (k:=fun _ _ l rest=>match rest with
  | [.int .i64 n]=>some (cW n 1 15 (.one (.tup [.int .u32 (.lit 0),.bool (.lit false)]) []) (.one (.tup [.int .u32 (.uf 1014 atU [.agg l,.int .i64 n]),.bool (.lit true)]) []))
  | _=>none) fun H i l l0 rest o p hk hl h0 hi=>?_
 split at hk
 ·rename_i n;simp at hk;subst hk
  have:=h p (vI C.G n)
  refine dC (fun hb=>?_) (fun h1 h2=>?_)
  ·rw [Mn hb] at this;exact Zg hs h0 hi this (by simp [vVs,vV,A8,bnd]) (by simp [vV,vVs,bnd,A8]) (by simp [vV])
  ·rw [Np h1 h2] at this;refine Zg hs h0 hi ?_ (by simp [vVs,vV,A8,bnd]) (by simp [vV,vVs,bnd,A8]) (by simp [vV]);simp only [vVs,vV,vI,vB,hl,aU4];exact this
 ·simp at hk
def Mb (C:A3) (f:FuncId) (enc:Sg→List AV) (v:Sg→AV) (cs:Sg→List AV):Prop:=∀ p,ACalls C f [.ptr (.rw 0) 0] [some ⟨1,enc p⟩] fun v' H'=>v'=v p∧H'=[some ⟨1,enc p⟩,some ⟨1,cs p⟩]
theorem mN (hs:Q5 C.G s enc) {f:FuncId} (h:Mb C f enc (fun p=>.slice true (.rw 1) 0 (Ao p.wt).length) fun p=>nl (Ao p.wt)):G0 C f (tI s):=by
 refine Pi hs (k:=fun H _ l rest=>match rest with
  | []=>some (.one (.slice true (.rw H.length) (.lit 0) (.uf 1021 Fj [.agg l])) [.new ⟨1,.uf 1020 Jm [.agg l]⟩])
  | _=>none) fun H i l l0 rest o p hk hl h0 hi=>?_
 split at hk
 ·simp at hk;subst hk;have e1:vL C.G (.uf 1020 Jm [.agg l])=nl (Ao p.wt):=by simp only [vL,vVs,vV,hl,Ir]
  refine E1.new1 hi (v0:=.slice true (.rw 1) 0 (Ao p.wt).length) ?_ (by rw [h0];exact hs.flat _ _) (by rw [e1];exact L3 _ _) (by simp [vVs,A8]) (by simp [bnd]) (by simp only [vV,vR,vN,vVs,hl,Gm];simp [ren]);simp only [vVs,h0,e1];exact h p
 ·simp at hk
theorem Z4.of {K : DCfg} {fuel n0 : Nat} {f : FuncId} {fn : Func} {p p' : Sg} {rest : List EV} {v : AV} (hK : I9 C K (loopsOf (bodyOf fn))) (hf : C.P.funcs[f]? = some fn) (hb : fn.body = some (bodyOf fn)) (hn : (fn.name == "runtime.NumGoroutine") = false)
  (h:vT C.G (fun _ _ _=>False) (fun v' H'=>v'=v∧H'=[some ⟨1,enc p'⟩]) (D0 K fuel n0 fn (.ptr (.rw 0) (.lit 0)::rest) [some ⟨1,.var 1 (enc p)⟩] 1)):Z4 C f enc p (vVs C.G rest) v p':=by
 have:=D3 hK hf hb hn h
 simp only [vVs,vV,vR,vN,vHp,List.map_cons,List.map_nil,Option.map_some,C9,vL] at this;exact this
theorem New.of {K : DCfg} {fuel n0 : Nat} {f : FuncId} {fn : Func} {p : Sg} {v : AV} {cs : List AV} (hK : I9 C K (loopsOf (bodyOf fn))) (hf : C.P.funcs[f]? = some fn) (hb : fn.body = some (bodyOf fn)) (hn : (fn.name == "runtime.NumGoroutine") = false)
  (he:A8 2 (enc p)=true) (hc:A8 2 cs=true) (hv:bnd 2 v=true) (hu:v≠.undef)
  (h:vT C.G (fun _ _ _=>False) (fun v' H'=>v'=v∧H'=[some ⟨1,enc p⟩,some ⟨1,cs⟩]) (D0 K fuel n0 fn [.ptr (.rw 0) (.lit 0)] [some ⟨1,.var 1 (enc p)⟩] 2)):ACalls C f [.ptr (.rw 0) 0] [some ⟨1,enc p⟩] fun v' H'=>v'=v∧H'=[some ⟨1,enc p⟩,some ⟨1,cs⟩]:=by
 have:=D3 hK hf hb hn h
 simp only [vVs,vV,vR,vN,vHp,List.map_cons,List.map_nil,Option.map_some,C9,vL] at this;exact this.keep (by simp) (by simp [D7,he,hc]) (by simpa using hv) hu
theorem Z4.ofR {K : DCfg} {fuel n0 : Nat} {f : FuncId} {fn : Func} {p p' : Sg} {rest : List EV} {v : AV} (hK : I9 C K (loopsOf (bodyOf fn))) (hf : C.P.funcs[f]? = some fn) (hb : fn.body = some (bodyOf fn)) (hn : (fn.name == "runtime.NumGoroutine") = false)
  (h:vT C.G (fun _ _ _=>False) (fun v' H'=>v'=v∧H'=[some ⟨1,encR p'⟩]) (D0 K fuel n0 fn (.ptr (.rw 0) (.lit 0)::rest) [some ⟨1,.uf 1002 B1 [.agg (.var 1 (encP p))]⟩] 1)):Z4 C f encR p (vVs C.G rest) v p':=by
 have:=D3 hK hf hb hn h
 simp only [vVs,vV,vR,vN,vHp,List.map_cons,List.map_nil,Option.map_some,C9,vL,E3] at this;exact this
theorem New.ofR {K : DCfg} {fuel n0 : Nat} {f : FuncId} {fn : Func} {p : Sg} {v : AV} {cs : List AV} (hK : I9 C K (loopsOf (bodyOf fn))) (hf : C.P.funcs[f]? = some fn) (hb : fn.body = some (bodyOf fn)) (hn : (fn.name == "runtime.NumGoroutine") = false)
  (hc:A8 2 cs=true) (hv:bnd 2 v=true) (hu:v≠.undef)
  (h:vT C.G (fun _ _ _=>False) (fun v' H'=>v'=v∧H'=[some ⟨1,encR p⟩,some ⟨1,cs⟩]) (D0 K fuel n0 fn [.ptr (.rw 0) (.lit 0)] [some ⟨1,.uf 1002 B1 [.agg (.var 1 (encP p))]⟩] 2)):ACalls C f [.ptr (.rw 0) 0] [some ⟨1,encR p⟩] fun v' H'=>v'=v∧H'=[some ⟨1,encR p⟩,some ⟨1,cs⟩]:=by
 have:=D3 hK hf hb hn h
 simp only [vVs,vV,vR,vN,vHp,List.map_cons,List.map_nil,Option.map_some,C9,vL,E3] at this;exact this.keep (by simp) (by simp [D7,U6,hc]) (by simpa using hv) hu
end Go.Am
namespace Go.Am
open Crc
def R4 (f g:Nat→Bool) (h:Nat→Wd):List AV:=((List.range 16).map fun i=>.bool (f i))++(((List.range 16).map fun i=>.bool (g i))++((List.range 16).map fun i=>.int .u32 (u (h i))))
theorem As (p:Sg):encR p=R4 (fun i=>p.wt.getLsbD i) (fun i=>p.hd.getLsbD i) p.at_:=rfl
theorem nD {α:Type} (f:Nat→α) {i:Nat} (h:i<16):((List.range 16).map f)[i]?=some (f i):=by simp [h]
theorem N9 {α:Type} (f:Nat→α):((List.range 16).map f).length=16:=by simp
theorem Rr (f g:Nat→Bool) (h:Nat→Wd):(R4 f g h).length=48:=by simp [R4]
theorem Bv {f f' g g':Nat→Bool} {h h':Nat→Wd} (h1:∀ i,i<16→f i=f' i) (h2:∀ i,i<16→g i=g' i) (h3:∀ i,i<16→h i=h' i):R4 f g h=R4 f' g' h':=by
 unfold R4;rw [List.map_congr_left fun i hi=>by rw [h1 i (List.mem_range.1 hi)],List.map_congr_left (f:=fun i=>AV.bool (g i)) fun i hi=>by rw [h2 i (List.mem_range.1 hi)],List.map_congr_left (f:=fun i=>AV.int .u32 (u (h i))) fun i hi=>by rw [h3 i (List.mem_range.1 hi)]]
def To (f:Nat→Bool) (i:Nat) (b:Bool):Nat→Bool:=fun j=>if j=i then b else f j
theorem bC {α:Type} (f g:Nat→α) {i:Nat} (hi:i<16) (x:α) (h:∀ j,j<16→g j=if j=i then x else f j):((List.range 16).map f).set i x=(List.range 16).map g:=by
 apply List.ext_getElem?;intro j;rw [List.getElem?_set,N9];by_cases hj:j<16
 ·rw [nD _ hj,nD _ hj,h j hj];by_cases he:i=j
  ·subst he;simp [hi]
  ·rw [if_neg he,if_neg (fun h=>he h.symm)]
 ·rw [List.getElem?_eq_none (by rw [N9];omega),List.getElem?_eq_none (by rw [N9];omega),if_neg (by omega)]
theorem jM (f g:Nat→Bool) (h:Nat→Wd) {i:Nat} (hi:i<16) (b:Bool):(R4 f g h).set i (.bool b)=R4 (To f i b) g h:=by
 unfold R4;rw [List.set_append_left _ _ (by rw [N9];exact hi),bC _ (fun j=>AV.bool (To f i b j)) hi];intro j _;unfold To;split<;>rfl
theorem yH (f g:Nat→Bool) (h:Nat→Wd) {i:Nat} (hi:i<16) (b:Bool):(R4 f g h).set (i+16) (.bool b)=R4 f (To g i b) h:=by
 unfold R4;rw [List.set_append_right _ _ (by rw [N9];omega),N9,Nat.add_sub_cancel,List.set_append_left _ _ (by rw [N9];exact hi),bC _ (fun j=>AV.bool (To g i b j)) hi];intro j _;unfold To;split<;>rfl
theorem yI (f g:Nat→Bool) (h:Nat→Wd) {i:Nat} (hi:i<16) (x:Wd):(R4 f g h).set (i+32) (.int .u32 (u x))=R4 f g (fun j=>if j=i then x else h j):=by
 unfold R4
 rw [List.set_append_right _ _ (by rw [N9];omega),N9,show i+32 - 16=i+16 by omega,List.set_append_right _ _ (by rw [N9];omega),N9,Nat.add_sub_cancel,
  bC _ (fun j=>AV.int .u32 (u (if j=i then x else h j))) hi]
 intro j _;split<;>rfl
section
variable (p:Sg) {i:Nat} (h:i<16)
include h
theorem r_isW:isB (encR p) i=true:=by simp [isB,eJ p h]
theorem wQ:A5 (encR p) i=p.wt.getLsbD i:=by simp [A5,eJ p h]
theorem r_isH:isB (encR p) (i+16)=true:=by simp [isB,eK p h]
theorem wR:A5 (encR p) (i+16)=p.hd.getLsbD i:=by simp [A5,eK p h]
theorem tC:isI .u32 (encR p) (i+32)=true:=by simp [isI,eM p h]
theorem mI:A0 (encR p) (i+32)=u (p.at_ i):=by simp [A0,eM p h]
end
theorem Pr (p:Sg) (k:Nat) (h:k≤48):leB k (encR p).length=true:=A6.2 (by rw [pV];exact h)
theorem m34:∀ j,j<16→(65534#32).getLsbD j=decide (1≤j):=by decide
theorem m32:∀ j,j<16→(65532#32).getLsbD j=decide (2≤j):=by decide
theorem wt0 (p:Sg):p.wt.getLsbD 0=false:=by rw [←p.hw,BitVec.getLsbD_and,m34 0 (by omega)];simp
theorem hd01 (p:Sg) {j:Nat} (h:j<2):p.hd.getLsbD j=false:=by rw [←p.hh,BitVec.getLsbD_and,m32 j (by omega)];simp;omega
theorem r_send (p:Sg) (n:Int) (h1:0<n) (h2:n≤15):(encR p).set n.toNat (.bool true)=encR (send p n):=by
 rw [As,jM _ _ _ (by omega),As];refine Bv (fun j hj=>?_) (fun _ _=>rfl) (fun _ _=>rfl);show _=((p.wt ||| Jy n.toNat) &&& 65534#32).getLsbD j;rw [BitVec.getLsbD_and,BitVec.getLsbD_or,bT _ _ (by omega),m34 j hj];unfold To;by_cases he:j=n.toNat
 ·subst he;simp;omega
 ·rw [if_neg he];by_cases h0:j=0
  ·subst h0;have e:=wt0 p;simp at e;simp [e]
  ·have:decide (1≤j)=true:=decide_eq_true (by omega)
   simp [he,this]
theorem aO5 (p:Sg):encR (send p 0)=encR p:=by
 rw [As,As];refine Bv (fun j hj=>?_) (fun _ _=>rfl) (fun _ _=>rfl);show ((p.wt ||| Jy 0) &&& 65534#32).getLsbD j=_;rw [BitVec.getLsbD_and,BitVec.getLsbD_or,bT _ _ (by omega),m34 j hj];by_cases h0:j=0
 ·subst h0;rw [wt0];simp
 ·have:decide (1≤j)=true:=decide_eq_true (by omega)
  simp [h0,this]
theorem r_take (p:Sg) (i:Nat) (h0:tkN p=i) (h1:1≤i) (h2:i<16):(encR p).set i (.bool false)=encR (Io p):=by
 rw [As,jM _ _ _ h2];unfold Io;rw [if_neg (by omega),As,h0];refine Bv (fun j hj=>?_) (fun _ _=>rfl) (fun _ _=>rfl);show _=((p.wt &&& ~~~ Jy i) &&& 65534#32).getLsbD j;rw [BitVec.getLsbD_and,BitVec.getLsbD_and,BitVec.getLsbD_not,bT _ _ (by omega),m34 j hj];unfold To;by_cases he:j=i
 ·subst he;simp
 ·rw [if_neg he];by_cases h0:j=0
  ·subst h0;have e:=wt0 p;simp at e;simp [e]
  ·have h3:decide (1≤j)=true:=decide_eq_true (by omega);have h4:decide (j<32)=true:=decide_eq_true (by omega);simp [he,h3,h4]
theorem aB5 (p:Sg) (n a:Int) (h1:2≤n) (h2:n≤15):(encR p).set (n.toNat+32) (.int .u32 (IntKind.wrap .u32 a))=encR (dS p n a):=by
 rw [lF,As,yI _ _ _ (by omega),As];refine Bv (fun _ _=>rfl) (fun _ _=>rfl) (fun j hj=>?_);show _=updA p.at_ n.toNat (V0 a) j;unfold updA;by_cases he:j=n.toNat
 ·rw [if_pos he,if_pos he,if_neg (by omega)]
 ·rw [if_neg he,if_neg he]
theorem bit64 (a:Int) (i:Nat) (h:i<16):((W1 .i64 (Hf .i64 a (IntKind.wrap .u64 (i:Int))) 1:Int)==1)=(V0 a).getLsbD i:=by
 have e0:IntKind.wrap .u64 (i:Int)=i:=by rw [IntKind.wrap_u64];omega
 have e1:Hf .i64 a (i:Int)=a / 2^i:=by
  unfold Hf;rw [show min (Int.toNat (i:Int)) (IntKind.bits .i64)=i by simp [IntKind.bits];omega];exact Int.fdiv_eq_ediv_of_nonneg _ (by exact Int.le_of_lt (Int.pow_pos (by omega)))
 have e2:∀ x:Int,((W1 .i64 x 1:Int)==1)=decide (x % 2=1):=fun x=>by
  unfold W1
  have:(BitVec.ofInt (IntKind.bits .i64) x &&& BitVec.ofInt (IntKind.bits .i64) 1).toNat=(x % 2).toNat:=by
   show (BitVec.ofInt 64 x &&& 1#64).toNat=_;rw [BitVec.toNat_and,BitVec.toNat_ofInt];show ((x % 18446744073709551616).toNat &&& 1)=_;rw [Nat.and_one_is_mod];omega
  rw [this,D9 (by omega)];rw [Bool.eq_iff_iff];simp;omega
 rw [e0,e1,e2]
 have e3:(V0 a).getLsbD i=decide (((a % 4294967296).toNat / 2^i) % 2=1):=by
  show (BitVec.ofInt 32 a).toNat.testBit i=_;rw [BitVec.toNat_ofInt,Nat.testBit_eq_decide_div_mod_eq];rfl
 rw [e3,Bool.eq_iff_iff];simp only [decide_eq_true_eq];rcases (by omega:i=0∨i=1∨i=2∨i=3∨i=4∨i=5∨i=6∨i=7∨i=8∨i=9∨i=10∨i=11∨i=12∨i=13∨i=14∨i=15) with rfl | rfl | rfl | rfl | rfl | rfl | rfl | rfl | rfl | rfl | rfl | rfl | rfl | rfl | rfl | rfl<;>simp<;>omega
theorem hd_lt (p:Sg):p.hd.toNat<65536:=by
 have:p.hd.toNat=(p.hd &&& 65532#32).toNat:=by rw [p.hh]
 rw [this,BitVec.toNat_and]
 have:=Nat.and_le_right (n:=p.hd.toNat) (m:=(65532#32).toNat)
 have e:(65532#32).toNat=65532:=rfl;omega
theorem zS (x:Wd) (i:Nat):x.toNat % 2^(i+1)=x.toNat % 2^i+(if x.getLsbD i then 2^i else 0):=by
 rw [Nat.mod_pow_succ];show _=_+(if x.toNat.testBit i=true then 2^i else 0);rw [Nat.testBit_eq_decide_div_mod_eq];by_cases h:x.toNat / 2^i % 2=1
 ·simp [h]
 ·have:x.toNat / 2^i % 2=0:=by omega
  simp [this]
end Go.Am
