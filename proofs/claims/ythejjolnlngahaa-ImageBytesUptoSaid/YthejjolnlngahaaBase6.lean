/-
  Filters: the tests, plainly. Filters: what tests say of a byte, plainly.
-/
import Derived.Test.YthejjolnlngahaaBase3
import Derived.Test.YthejjolnlngahaaBase5
import Derived.IntWalk
namespace Go.Am
def G9 (f:Nat→Bool):Nat→Bool
 | 0=>true
 | n+1=>G9 f n&&f n
theorem K7 {f:Nat→Bool} {n:Nat}:G9 f n=true↔∀ i,i<n→f i=true:=by
 induction n with
 | zero=>simp [G9]
 | succ n ih=>
  simp only [G9,Bool.and_eq_true,ih];constructor
  ·rintro ⟨h1,h2⟩ i hi;by_cases h:i=n
   ·subst h;exact h2
   ·exact h1 i (by omega)
  ·exact fun h=>⟨fun i hi=>h i (by omega),h n (by omega)⟩
theorem U9 {f:Nat→Bool} {n i:Nat} (hi:i<n) (h:f i=false):G9 f n=false:=by
 cases e:G9 f n with
 | false=>rfl
 | true=>rw [K7.1 e i hi] at h;cases h
end Go.Am
namespace Go.Am
def K5 (p:Nat→Bool):Nat→Nat
 | 0=>0
 | k+1=>if K5 p k<k then K5 p k else if p k=true then k else k+1
theorem L1 {p:Nat→Bool}:∀ {k:Nat},K5 p k≤k∧(K5 p k<k→p (K5 p k)=true)∧∀ j,j<K5 p k→p j=false
 | 0=>by simp [K5]
 | k+1=>by
  obtain ⟨h1,h2,h3⟩:=L1 (p:=p) (k:=k);simp only [K5];split
  ·rename_i h;exact ⟨by omega,fun _=>h2 h,h3⟩
  ·have:K5 p k=k:=by omega
   rw [this] at h3;split
   ·rename_i hp;exact ⟨by omega,fun _=>hp,h3⟩
   ·rename_i hp;refine ⟨by omega,fun h=>by omega,fun j hj=>?_⟩;by_cases e:j=k
    ·subst e;simpa using hp
    ·exact h3 j (by omega)
end Go.Am
namespace Go.Am
def Z5 (m z:Nat) (f:Nat→Nat→AV):List AV:=(List.range (m*z)).map fun j=>f (j / z) (j % z)
theorem cG {m z:Nat} {f:Nat→Nat→AV}:(Z5 m z f).length=m*z:=by simp [Z5]
theorem dm {n z k:Nat} (hk:k<z):(n*z+k) / z=n∧(n*z+k) % z=k:=by
 constructor
 ·rw [Nat.mul_comm,Nat.mul_add_div (by omega),Nat.div_eq_of_lt hk,Nat.add_zero]
 ·rw [Nat.mul_comm,Nat.mul_add_mod,Nat.mod_eq_of_lt hk]
theorem dm_lt {m n z k:Nat} (hn:n<m) (hk:k<z):n*z+k<m*z:=by
 have:(n+1)*z≤m*z:=Nat.mul_le_mul_right z hn
 rw [Nat.add_mul,Nat.one_mul] at this;omega
theorem bO {m z j:Nat} (h:j<m*z):j / z<m∧j % z<z∧j=j / z*z+j % z:=by
 have hz:0<z:=by
  rcases Nat.eq_zero_or_pos z with rfl | h0
  ·simp at h
  ·exact h0
 refine ⟨(Nat.div_lt_iff_lt_mul hz).2 h,Nat.mod_lt _ hz,?_⟩;rw [Nat.mul_comm];exact (Nat.div_add_mod j z).symm
theorem Su {m z:Nat} {f:Nat→Nat→AV} {n k:Nat} (hn:n<m) (hk:k<z):(Z5 m z f)[n*z+k]?=some (f n k):=by
 unfold Z5;rw [List.getElem?_map,List.getElem?_range (dm_lt hn hk)];simp only [Option.map_some,(dm (n:=n) hk).1,(dm (n:=n) hk).2]
theorem Ul {m z:Nat} {f g:Nat→Nat→AV} (h:∀ n k,n<m→k<z→f n k=g n k):Z5 m z f=Z5 m z g:=by
 unfold Z5;refine List.map_congr_left fun j hj=>?_;obtain ⟨h1,h2,_⟩:=bO (List.mem_range.1 hj);exact h _ _ h1 h2
end Go.Am
namespace Crc
abbrev Wd:=BitVec 32
def poly:Wd:=2197175160#32
def st (x:Wd):Wd:=(x >>> 1) ^^^ (if x.getLsbD 0 then poly else 0#32)
def V0:Nat→Wd→Wd
 | 0,x=>x
 | n+1,x=>V0 n (st x)
theorem iB (a b:Nat) (x:Wd):V0 (a+b) x=V0 b (V0 a x):=by
 induction a generalizing x with
 | zero=>simp [V0]
 | succ a ih=>rw [Nat.succ_add];simp only [V0];exact ih _
theorem cI (n:Nat) (x:Wd):V0 (n+1) x=st (V0 n x):=by
 have:=iB n 1 x
 simpa [V0] using this
theorem zY (x y:Wd):st (x ^^^ y)=st x ^^^ st y:=by
 unfold st;have h:(x ^^^ y).getLsbD 0=((x.getLsbD 0) ^^ (y.getLsbD 0)):=by simp
 rw [h,BitVec.ushiftRight_xor_distrib];have c3:∀ a b c:Wd,a ^^^ (b ^^^ c)=b ^^^ (a ^^^ c):=fun a b c=>by rw [←BitVec.xor_assoc,BitVec.xor_comm a,BitVec.xor_assoc]
 cases x.getLsbD 0<;>cases y.getLsbD 0<;>simp [BitVec.xor_assoc]
 ·rw [BitVec.xor_comm]
 ·rw [c3 poly,BitVec.xor_self,BitVec.xor_zero]
theorem wZ (n:Nat) (x y:Wd):V0 n (x ^^^ y)=V0 n x ^^^ V0 n y:=by
 induction n generalizing x y with
 | zero=>rfl
 | succ n ih=>simp only [V0];rw [zY,ih]
def b8 (c:Int):Wd:=BitVec.ofInt 32 c
def V3:Wd→List Int→Wd
 | s,[]=>s
 | s,c::l=>V3 (V0 8 (s ^^^ b8 c)) l
theorem Mp (s:Wd) (a b:List Int):V3 s (a++b)=V3 (V3 s a) b:=by
 induction a generalizing s with
 | nil=>rfl
 | cons c a ih=>simp only [List.cons_append,V3];exact ih _
def sum (l:List Int):Wd := ~~~ (V3 (~~~ 0#32) l)
def more (s:Wd) (l:List Int):Wd := ~~~ (V3 (~~~ s) l)
end Crc
namespace Go.Am
open Crc
def u (x:Wd):Int:=(x.toNat:Int)
def M4 (n:Int):Wd:=BitVec.ofInt 32 n
theorem Cv (x:Wd):0≤u x∧u x<4294967296:=by
 have:=x.isLt
 unfold u;omega
theorem Ui (x:Wd):IntKind.u32.wrap (u x)=u x:=by
 have:=Cv x
 rw [IntKind.wrap_u32];omega
theorem xX (x:Wd):BitVec.ofInt 32 (u x)=x:=by
 apply BitVec.eq_of_toNat_eq;simp [u]
theorem Z6 (x:Wd):M4 (u x)=x:=xX x
theorem Qq {n:Int} (h:0≤n∧n<4294967296):u (M4 n)=n:=by
 obtain ⟨m,rfl⟩:=Int.eq_ofNat_of_zero_le h.1;simp [u,M4];omega
theorem zM (x:Wd):(u x).tdiv 2=u (x >>> 1):=by
 unfold u;rw [BitVec.toNat_ushiftRight,Nat.shiftRight_eq_div_pow,Int.tdiv_eq_ediv_of_nonneg (by omega)];omega
theorem zL (x:Wd):((u x).tmod 2==1)=x.getLsbD 0:=by
 unfold u;rw [Int.tmod_eq_emod_of_nonneg (by omega)];simp only [BitVec.getLsbD,Nat.testBit_zero];rw [Bool.eq_iff_iff];simp;omega
theorem fdiv_u (x:Wd) (k:Nat):(u x).fdiv (2^k)=u (x >>> k):=by
 unfold u;rw [BitVec.toNat_ushiftRight,Nat.shiftRight_eq_div_pow,Int.fdiv_eq_ediv_of_nonneg _ (Int.le_of_lt (Int.pow_pos (by omega)))];simp
theorem zZ {x:Wd} (h:x.getLsbD 0=true):st x=(x >>> 1) ^^^ poly:=by unfold st;rw [if_pos h]
theorem nG {x:Wd} (h:x.getLsbD 0=false):st x=x >>> 1:=by unfold st;rw [if_neg (by rw [h];simp)];simp
theorem Pj (x y:Int):Dw .u32 x y=u (M4 x ^^^ M4 y):=Ui _
theorem kAnd_w (x y:Int):L7 .u32 x y=u (M4 x &&& M4 y):=Ui _
theorem kShr_u (x:Wd) (k:Nat) (hk:k≤32):O2 .u32 (u x) (k:Int)=u (x >>> k):=by
 unfold O2;rw [show min (Int.toNat (k:Int)) (IntKind.bits .u32)=k by simp [IntKind.bits];omega];exact fdiv_u x k
theorem bX (x:Int):M4 (IntKind.u32.wrap x)=M4 x:=by
 rw [IntKind.wrap_u32];unfold M4;apply BitVec.eq_of_toNat_eq;simp only [BitVec.toNat_ofInt];congr 1;omega
theorem vE (x:Wd):(M4 4294967295 ^^^ x) = ~~~ x:=by
 have:M4 4294967295=BitVec.allOnes 32:=by decide
 rw [this,BitVec.allOnes_xor]
theorem kNot_u (x:Wd):Ti .u32 (u x)=u (~~~ x):=by
 rw [←vE];show IntKind.u32.wrap (u (M4 4294967295 ^^^ M4 (u x)))=_;rw [Ui,Z6]
theorem tE (x:Wd):Dw .u32 (u x) 4294967295=u (~~~ x):=by rw [Pj,Z6,BitVec.xor_comm,vE]
end Go.Am
namespace Go.Am
open Crc
def tab:List AV:=[.int .u32 0,.int .u32 274646895,.int .u32 549293790,.int .u32 820201905,.int .u32 1098587580,.int .u32 1361435347,.int .u32 1640403810,.int .u32 1905808397,.int .u32 2197175160,.int .u32 2460548119,.int .u32 2722870694,.int .u32 2987750089,.int .u32 3280807620,.int .u32 3553878443,.int .u32 3811616794,.int .u32 4084100981]
def tabI:List Int:=[0,274646895,549293790,820201905,1098587580,1361435347,1640403810,1905808397,2197175160,2460548119,2722870694,2987750089,3280807620,3553878443,3811616794,4084100981]
def Ja (t:List AV):Bool:=Bw .u32 t 0 16&&decide (O5 t 0 16=tabI)
theorem zP:Ja tab=true:=by decide
theorem qT:∀ j:Fin 16,tabI[j.val]?=some (u (V0 4 (BitVec.ofNat 32 j.val))):=by decide
theorem bR (x:Wd):(x &&& 15#32).toNat<16:=by
 rw [BitVec.toNat_and];exact Nat.lt_of_le_of_lt Nat.and_le_right (by decide)
theorem mY {t:List AV} (h:Ja t=true) (x:Wd):isI .u32 t (x &&& 15#32).toNat=true:=by
 simp only [Ja,Bool.and_eq_true] at h
 have:=Lk h.1 (bR x)
 simpa using this
theorem wS {t:List AV} (h:Ja t=true) (x:Wd):A0 t (x &&& 15#32).toNat=u (V0 4 (x &&& 15#32)):=by
 simp only [Ja,Bool.and_eq_true,decide_eq_true_eq] at h;have h2:=congrArg (fun l:List Int=>l[(x &&& 15#32).toNat]?) h.2;simp only [qT ⟨_,bR x⟩] at h2;simp only [O5,List.getElem?_map,List.getElem?_range (bR x),Option.map_some,Option.some.injEq,Nat.zero_add] at h2;rw [h2];simp
theorem Mg {x:Wd} {i:Nat} (h:x.getLsbD i=false):st (x >>> i)=x >>> (i+1):=by
 have:(x >>> i).getLsbD 0=false:=by rw [BitVec.getLsbD_ushiftRight];simpa using h
 rw [nG this,←BitVec.shiftRight_add]
theorem stn4 (x:Wd):V0 4 x=(x >>> 4) ^^^ V0 4 (x &&& 15#32):=by
 have hx:x=(x &&& ~~~ 15#32) ^^^ (x &&& 15#32):=by
  apply BitVec.eq_of_getLsbD_eq;intro i hi;simp only [BitVec.getLsbD_xor,BitVec.getLsbD_and,BitVec.getLsbD_not,hi];cases x.getLsbD i<;>cases (15#32).getLsbD i<;>simp
 have hz:∀ i,i<4→(x &&& ~~~ 15#32).getLsbD i=false:=by
  intro i hi;simp only [BitVec.getLsbD_and,BitVec.getLsbD_not]
  have:(15#32).getLsbD i=true:=by
   rcases i with _ | _ | _ | _ | i
   ·decide
   ·decide
   ·decide
   ·decide
   ·omega
  simp [this]
 have h4:V0 4 (x &&& ~~~ 15#32)=(x &&& ~~~ 15#32) >>> 4:=by
  simp only [V0];have e0:=Mg (hz 0 (by omega));rw [BitVec.ushiftRight_zero] at e0;rw [e0,Mg (hz 1 (by omega)),Mg (hz 2 (by omega)),Mg (hz 3 (by omega))]
 have hs:(x &&& ~~~ 15#32) >>> 4=x >>> 4:=by
  apply BitVec.eq_of_getLsbD_eq;intro i hi;simp only [BitVec.getLsbD_ushiftRight,BitVec.getLsbD_and,BitVec.getLsbD_not];by_cases h:4+i<32
  ·have:(15#32).getLsbD (4+i)=false:=by
    have:(15#32)=BitVec.ofNat 32 (2^4 - 1):=by decide
    rw [this];simp only [BitVec.getLsbD_ofNat,Nat.testBit_two_pow_sub_one];simp
   rw [this];simp [h]
  ·have:x.getLsbD (4+i)=false:=BitVec.getLsbD_of_ge x _ (by omega)
   simp [this]
 have:=wZ 4 (x &&& ~~~ 15#32) (x &&& 15#32)
 rw [←hx,h4,hs] at this;exact this
end Go.Am
