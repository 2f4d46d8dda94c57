/-
  Filters: the tests, plainly. Filters: what tests say of a byte, plainly.
-/
import Derived.Test.YthejjolnlngahaaBase3
import Derived.Test.YthejjolnlngahaaBase5
import Derived.IntWalk
namespace Go.Am
def I2 (f:Nat→Bool):Nat→Bool
 | 0=>true
 | n+1=>I2 f n&&f n
theorem F6 {f:Nat→Bool} {n:Nat}:I2 f n=true↔∀ i,i<n→f i=true:=by
 induction n with
 | zero=>simp [I2]
 | succ n ih=>
  simp only [I2,zN,ih];constructor
  ·rintro ⟨h1,h2⟩ i hi;by_cases h:i=n
   ·subst h;exact h2
   ·exact h1 i (by omega)
  ·exact fun h=>⟨fun i hi=>h i (by omega),h n (by omega)⟩
theorem P5 {f:Nat→Bool} {n i:Nat} (hi:i<n) (h:f i=false):I2 f n=false:=by
 cases e:I2 f n with
 | false=>rfl
 | true=>rw [F6.1 e i hi] at h;cases h
def M4 (p:Nat→Bool):Nat→Nat
 | 0=>0
 | k+1=>if M4 p k<k then M4 p k else if p k=true then k else k+1
theorem K5 {p:Nat→Bool}:∀ {k:Nat},M4 p k≤k∧(M4 p k<k→p (M4 p k)=true)∧∀ j,j<M4 p k→p j=false
 | 0=>by simp [M4]
 | k+1=>by
  obtain ⟨h1,h2,h3⟩:=K5 (p:=p) (k:=k);simp only [M4];split
  ·rename_i h;exact ⟨by omega,fun _=>h2 h,h3⟩
  ·have:M4 p k=k:=by omega
   rw [this] at h3;split
   ·rename_i hp;exact ⟨by omega,fun _=>hp,h3⟩
   ·rename_i hp;refine ⟨by omega,fun h=>by omega,fun j hj=>?_⟩;by_cases e:j=k
    ·subst e;simpa using hp
    ·exact h3 j (by omega)
def M7 (m z:Nat) (f:Nat→Nat→AV):List AV:=(List.range (m*z)).map fun j=>f (j / z) (j % z)
theorem Ck {m z:Nat} {f:Nat→Nat→AV}:(M7 m z f).length=m*z:=by simp [M7]
theorem dm {n z k:Nat} (hk:k<z):(n*z+k) / z=n∧(n*z+k) % z=k:=by
 constructor
 ·rw [Nat.mul_comm,Nat.mul_add_div (by omega),Nat.div_eq_of_lt hk,Nat.add_zero]
 ·rw [Nat.mul_comm,Nat.mul_add_mod,Nat.mod_eq_of_lt hk]
theorem dm_lt {m n z k:Nat} (hn:n<m) (hk:k<z):n*z+k<m*z:=by
 have:(n+1)*z≤m*z:=Nat.mul_le_mul_right z hn
 rw [Nat.add_mul,Nat.one_mul] at this;omega
theorem Xo {m z j:Nat} (h:j<m*z):j / z<m∧j % z<z∧j=j / z*z+j % z:=by
 have hz:0<z:=by
  rcases Nat.eq_zero_or_pos z with rfl | h0
  ·simp at h
  ·exact h0
 refine ⟨(Nat.div_lt_iff_lt_mul hz).2 h,Nat.mod_lt _ hz,?_⟩;rw [Nat.mul_comm];exact (Nat.div_add_mod j z).symm
theorem P9 {m z:Nat} {f:Nat→Nat→AV} {n k:Nat} (hn:n<m) (hk:k<z):(M7 m z f)[n*z+k]?=some (f n k):=by
 unfold M7;rw [sH,List.getElem?_range (dm_lt hn hk)];simp only [Option.map_some,(dm (n:=n) hk).1,(dm (n:=n) hk).2]
theorem J0 {m z:Nat} {f g:Nat→Nat→AV} (h:∀ n k,n<m→k<z→f n k=g n k):M7 m z f=M7 m z g:=by
 unfold M7;refine List.map_congr_left fun j hj=>?_;obtain ⟨h1,h2,_⟩:=Xo (List.mem_range.1 hj);exact h _ _ h1 h2
theorem Yo {m z:Nat} {f:Nat→Nat→AV} {n k:Nat} {v:AV} (hk:k<z):(M7 m z f).set (n*z+k) v=M7 m z fun a b=>if a=n∧b=k then v else f a b:=by
 refine List.ext_getElem? fun j=>?_;rw [qX,Ck];by_cases hj:j<m*z
 ·obtain ⟨h1,h2,h3⟩:=Xo hj;generalize j / z=a at *;generalize j % z=b at *;subst h3;rw [P9 h1 h2,P9 h1 h2];by_cases e:n*z+k=a*z+b
  ·have d1:=dm (n:=n) hk;rw [e] at d1;have d2:=dm (n:=a) h2;have e1:a=n:=by rw [←d2.1,d1.1]
   have e2:b=k:=by rw [←d2.2,d1.2]
   rw [if_pos e,if_pos (show n*z+k<m*z by rw [e];exact hj),if_pos ⟨e1,e2⟩]
  ·rw [if_neg e,if_neg fun h=>e (by rw [h.1,h.2])]
 ·rw [qK (by rw [Ck];omega),qK (by rw [Ck];omega)];split
  ·rw [if_neg (by omega)]
  ·rfl
end Go.Am
namespace Crc
abbrev Wd:=BitVec 32
def poly:Wd:=2197175160#32
def st (x:Wd):Wd:=(x >>> 1) ^^^ (if x.getLsbD 0 then poly else 0#32)
def Cl:Nat→Wd→Wd
 | 0,x=>x
 | n+1,x=>Cl n (st x)
theorem qV (a b:Nat) (x:Wd):Cl (a+b) x=Cl b (Cl a x):=by
 induction a generalizing x with
 | zero=>simp [Cl]
 | succ a ih=>rw [Nat.succ_add];simp only [Cl];exact ih _
theorem st_xor (x y:Wd):st (x ^^^ y)=st x ^^^ st y:=by
 unfold st;have h:(x ^^^ y).getLsbD 0=((x.getLsbD 0) ^^ (y.getLsbD 0)):=by simp
 rw [h,BitVec.ushiftRight_xor_distrib];have c3:∀ a b c:Wd,a ^^^ (b ^^^ c)=b ^^^ (a ^^^ c):=fun a b c=>by rw [←BitVec.xor_assoc,BitVec.xor_comm a,BitVec.xor_assoc]
 cases x.getLsbD 0<;>cases y.getLsbD 0<;>simp [BitVec.xor_assoc]
 ·rw [BitVec.xor_comm]
 ·rw [c3 poly,BitVec.xor_self,BitVec.xor_zero]
theorem dL (n:Nat) (x y:Wd):Cl n (x ^^^ y)=Cl n x ^^^ Cl n y:=by
 induction n generalizing x y with
 | zero=>rfl
 | succ n ih=>simp only [Cl];rw [st_xor,ih]
theorem tV {x:Wd} (h:st x=0#32):x=0#32:=by
 unfold st at h;by_cases hb:x.getLsbD 0=true
 ·rw [if_pos hb] at h
  have:=congrArg (fun y:Wd=>y.getLsbD 31) h
  simp [poly] at this
 ·rw [if_neg hb] at h;have h2:x >>> 1=0#32:=by simpa using h
  apply BitVec.eq_of_getLsbD_eq;intro i hi;cases i with
  | zero=>simp at hb;simp [hb]
  | succ i=>
   have:=congrArg (fun y:Wd=>y.getLsbD i) h2
   simp at this;rw [Nat.add_comm] at this;simp [this]
theorem Xy {n:Nat} {x:Wd} (h:Cl n x=0#32):x=0#32:=by
 induction n generalizing x with
 | zero=>exact h
 | succ n ih=>exact tV (ih h)
def b8 (c:Int):Wd:=BitVec.ofInt 32 c
def U7:Wd→List Int→Wd
 | s,[]=>s
 | s,c::l=>U7 (Cl 8 (s ^^^ b8 c)) l
theorem Kf (s:Wd) (a b:List Int):U7 s (a++b)=U7 (U7 s a) b:=by
 induction a generalizing s with
 | nil=>rfl
 | cons c a ih=>simp only [List.cons_append,U7];exact ih _
theorem aV5 (s t:Wd) (l:List Int):U7 (s ^^^ t) l=U7 s l ^^^ Cl (8*l.length) t:=by
 induction l generalizing s t with
 | nil=>rfl
 | cons c l ih=>
  simp only [U7,List.length_cons];rw [show s ^^^ t ^^^ b8 c=(s ^^^ b8 c) ^^^ t by rw [BitVec.xor_assoc,BitVec.xor_comm t,←BitVec.xor_assoc],dL,ih];rw [show 8*(l.length+1)=8+8*l.length by omega,qV]
def sum (l:List Int):Wd := ~~~ (U7 (~~~ 0#32) l)
end Crc
namespace Go.Am
open Crc
def u (x:Wd):Int:=(x.toNat:Int)
def Z7 (n:Int):Wd:=BitVec.ofInt 32 n
theorem Kw (x:Wd):0≤u x∧u x<4294967296:=by
 have:=x.isLt
 unfold u;omega
theorem lC (x:Wd):IntKind.u32.wrap (u x)=u x:=by
 have:=Kw x
 rw [IntKind.wrap_u32];omega
theorem aW6 (x:Wd):BitVec.ofInt 32 (u x)=x:=by
 apply BitVec.eq_of_toNat_eq;simp [u]
theorem Ih (x:Wd):Z7 (u x)=x:=aW6 x
theorem tP {n:Int} (h:0≤n∧n<4294967296):u (Z7 n)=n:=by
 obtain ⟨m,rfl⟩:=Int.eq_ofNat_of_zero_le h.1;simp [u,Z7];omega
theorem u_inj {x y:Wd}:u x=u y↔x=y:=by
 constructor
 ·intro h
  have:=congrArg Z7 h
  rwa [Ih,Ih] at this
 ·rintro rfl;rfl
theorem fdiv_u (x:Wd) (k:Nat):(u x).fdiv (2^k)=u (x >>> k):=by
 unfold u;rw [BitVec.toNat_ushiftRight,Nat.shiftRight_eq_div_pow,Int.fdiv_eq_ediv_of_nonneg _ (Int.le_of_lt (Int.pow_pos (by omega)))];simp
theorem st_neg {x:Wd} (h:x.getLsbD 0=false):st x=x >>> 1:=by unfold st;rw [if_neg (by rw [h];simp)];simp
theorem zC (x y:Int):Sa .u32 x y=u (Z7 x ^^^ Z7 y):=lC _
theorem kAnd_w (x y:Int):P0 .u32 x y=u (Z7 x &&& Z7 y):=lC _
theorem kShr_u (x:Wd) (k:Nat) (hk:k≤32):O0 .u32 (u x) (k:Int)=u (x >>> k):=by
 unfold O0;rw [show min (Int.toNat (k:Int)) (IntKind.bits .u32)=k by simp [IntKind.bits];omega];exact fdiv_u x k
theorem aC8 (x:Int):Z7 (IntKind.u32.wrap x)=Z7 x:=by
 rw [IntKind.wrap_u32];unfold Z7;apply BitVec.eq_of_toNat_eq;simp only [BitVec.toNat_ofInt];congr 1;omega
theorem not_w (x:Wd):(Z7 4294967295 ^^^ x) = ~~~ x:=by
 have:Z7 4294967295=BitVec.allOnes 32:=by decide
 rw [this,BitVec.allOnes_xor]
theorem kNot_u (x:Wd):Ze .u32 (u x)=u (~~~ x):=by
 rw [←not_w];show IntKind.u32.wrap (u (Z7 4294967295 ^^^ Z7 (u x)))=_;rw [lC,Ih]
def tab:List AV:=[.int .u32 0,.int .u32 274646895,.int .u32 549293790,.int .u32 820201905,.int .u32 1098587580,.int .u32 1361435347,.int .u32 1640403810,.int .u32 1905808397,.int .u32 2197175160,.int .u32 2460548119,.int .u32 2722870694,.int .u32 2987750089,.int .u32 3280807620,.int .u32 3553878443,.int .u32 3811616794,.int .u32 4084100981]
def tabI:List Int:=[0,274646895,549293790,820201905,1098587580,1361435347,1640403810,1905808397,2197175160,2460548119,2722870694,2987750089,3280807620,3553878443,3811616794,4084100981]
def Nh (t:List AV):Bool:=Je .u32 t 0 16&&decide (S2 t 0 16=tabI)
theorem tab_ok:Nh tab=true:=by decide
theorem aE5:∀ j:Fin 16,tabI[j.val]?=some (u (Cl 4 (BitVec.ofNat 32 j.val))):=by decide
theorem kN (x:Wd):(x &&& 15#32).toNat<16:=by
 rw [BitVec.toNat_and];exact Nat.lt_of_le_of_lt Nat.and_le_right (by decide)
theorem wW {t:List AV} (h:Nh t=true) (x:Wd):isI .u32 t (x &&& 15#32).toNat=true:=by
 simp only [Nh,zN] at h
 have:=Wr h.1 (kN x)
 simpa using this
theorem aS9 {t:List AV} (h:Nh t=true) (x:Wd):A1 t (x &&& 15#32).toNat=u (Cl 4 (x &&& 15#32)):=by
 simp only [Nh,zN,xE] at h;have h2:=congrArg (fun l:List Int=>l[(x &&& 15#32).toNat]?) h.2;simp only [aE5 ⟨_,kN x⟩] at h2;simp only [S2,sH,List.getElem?_range (kN x),Option.map_some,zK,Nat.zero_add] at h2;rw [h2];simp
theorem Re {x:Wd} {i:Nat} (h:x.getLsbD i=false):st (x >>> i)=x >>> (i+1):=by
 have:(x >>> i).getLsbD 0=false:=by rw [BitVec.getLsbD_ushiftRight];simpa using h
 rw [st_neg this,←BitVec.shiftRight_add]
theorem stn4 (x:Wd):Cl 4 x=(x >>> 4) ^^^ Cl 4 (x &&& 15#32):=by
 have hx:x=(x &&& ~~~ 15#32) ^^^ (x &&& 15#32):=by
  apply BitVec.eq_of_getLsbD_eq;intro i hi;simp only [BitVec.getLsbD_xor,BitVec.getLsbD_and,BitVec.getLsbD_not,hi];cases x.getLsbD i<;>cases (15#32).getLsbD i<;>simp
 have hz:∀ i,i<4→(x &&& ~~~ 15#32).getLsbD i=false:=by
  intro i hi;simp only [BitVec.getLsbD_and,BitVec.getLsbD_not]
  have:(15#32).getLsbD i=true:=by
   rcases i with _ | _ | _ | _ | i
   ·decide
   ·decide
   ·decide
   ·decide
   ·omega
  simp [this]
 have h4:Cl 4 (x &&& ~~~ 15#32)=(x &&& ~~~ 15#32) >>> 4:=by
  simp only [Cl];have e0:=Re (hz 0 (by omega));rw [BitVec.ushiftRight_zero] at e0;rw [e0,Re (hz 1 (by omega)),Re (hz 2 (by omega)),Re (hz 3 (by omega))]
 have hs:(x &&& ~~~ 15#32) >>> 4=x >>> 4:=by
  apply BitVec.eq_of_getLsbD_eq;intro i hi;simp only [BitVec.getLsbD_ushiftRight,BitVec.getLsbD_and,BitVec.getLsbD_not];by_cases h:4+i<32
  ·have:(15#32).getLsbD (4+i)=false:=by
    have:(15#32)=BitVec.ofNat 32 (2^4 - 1):=by decide
    rw [this];simp only [BitVec.getLsbD_ofNat,Nat.testBit_two_pow_sub_one];simp
   rw [this];simp [h]
  ·have:x.getLsbD (4+i)=false:=BitVec.getLsbD_of_ge x _ (by omega)
   simp [this]
 have:=dL 4 (x &&& ~~~ 15#32) (x &&& 15#32)
 rw [←hx,h4,hs] at this;exact this
end Go.Am
