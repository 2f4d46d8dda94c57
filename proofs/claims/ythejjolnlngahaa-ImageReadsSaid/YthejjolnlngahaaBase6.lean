/-
  Filters: the tests, plainly. Filters: what tests say of a byte, plainly.
-/
import Derived.Test.YthejjolnlngahaaBase3
import Derived.Test.YthejjolnlngahaaBase5
import Derived.IntWalk
namespace Go.Am
def J7 (f:Nat→Bool):Nat→Bool
 | 0=>true
 | n+1=>J7 f n&&f n
theorem E7 {f:Nat→Bool} {n:Nat}:J7 f n=true↔∀ i,i<n→f i=true:=by
 induction n with
 | zero=>simp [J7]
 | succ n ih=>
  simp only [J7,zO,ih];constructor
  ·rintro ⟨h1,h2⟩ i hi;by_cases h:i=n
   ·subst h;exact h2
   ·exact h1 i (by omega)
  ·exact fun h=>⟨fun i hi=>h i (by omega),h n (by omega)⟩
theorem Z9 {f:Nat→Bool} {n i:Nat} (hi:i<n) (h:f i=false):J7 f n=false:=by
 cases e:J7 f n with
 | false=>rfl
 | true=>rw [E7.1 e i hi] at h;cases h
def L9 (p:Nat→Bool):Nat→Nat
 | 0=>0
 | k+1=>if L9 p k<k then L9 p k else if p k=true then k else k+1
theorem K2 {p:Nat→Bool}:∀ {k:Nat},L9 p k≤k∧(L9 p k<k→p (L9 p k)=true)∧∀ j,j<L9 p k→p j=false
 | 0=>by simp [L9]
 | k+1=>by
  obtain ⟨h1,h2,h3⟩:=K2 (p:=p) (k:=k);simp only [L9];split
  ·rename_i h;exact ⟨by omega,fun _=>h2 h,h3⟩
  ·have:L9 p k=k:=by omega
   rw [this] at h3;split
   ·rename_i hp;exact ⟨by omega,fun _=>hp,h3⟩
   ·rename_i hp;refine ⟨by omega,fun h=>by omega,fun j hj=>?_⟩;by_cases e:j=k
    ·subst e;simpa using hp
    ·exact h3 j (by omega)
def L6 (m z:Nat) (f:Nat→Nat→AV):List AV:=(List.range (m*z)).map fun j=>f (j / z) (j % z)
theorem Ho {m z:Nat} {f:Nat→Nat→AV}:(L6 m z f).length=m*z:=by simp [L6]
theorem dm {n z k:Nat} (hk:k<z):(n*z+k) / z=n∧(n*z+k) % z=k:=by
 constructor
 ·rw [Nat.mul_comm,Nat.mul_add_div (by omega),Nat.div_eq_of_lt hk,Nat.add_zero]
 ·rw [Nat.mul_comm,Nat.mul_add_mod,Nat.mod_eq_of_lt hk]
theorem dm_lt {m n z k:Nat} (hn:n<m) (hk:k<z):n*z+k<m*z:=by
 have:(n+1)*z≤m*z:=Nat.mul_le_mul_right z hn
 rw [Nat.add_mul,Nat.one_mul] at this;omega
theorem bY {m z j:Nat} (h:j<m*z):j / z<m∧j % z<z∧j=j / z*z+j % z:=by
 have hz:0<z:=by
  rcases Nat.eq_zero_or_pos z with rfl | h0
  ·simp at h
  ·exact h0
 refine ⟨(Nat.div_lt_iff_lt_mul hz).2 h,Nat.mod_lt _ hz,?_⟩;rw [Nat.mul_comm];exact (Nat.div_add_mod j z).symm
theorem P0 {m z:Nat} {f:Nat→Nat→AV} {n k:Nat} (hn:n<m) (hk:k<z):(L6 m z f)[n*z+k]?=some (f n k):=by
 unfold L6;rw [zA0,List.getElem?_range (dm_lt hn hk)];simp only [Option.map_some,(dm (n:=n) hk).1,(dm (n:=n) hk).2]
theorem U8 {m z:Nat} {f g:Nat→Nat→AV} (h:∀ n k,n<m→k<z→f n k=g n k):L6 m z f=L6 m z g:=by
 unfold L6;refine List.map_congr_left fun j hj=>?_;obtain ⟨h1,h2,_⟩:=bY (List.mem_range.1 hj);exact h _ _ h1 h2
end Go.Am
namespace Crc
abbrev Wd:=BitVec 32
def poly:Wd:=2197175160#32
def st (x:Wd):Wd:=(x >>> 1) ^^^ (if x.getLsbD 0 then poly else 0#32)
def Aa:Nat→Wd→Wd
 | 0,x=>x
 | n+1,x=>Aa n (st x)
theorem qN (a b:Nat) (x:Wd):Aa (a+b) x=Aa b (Aa a x):=by
 induction a generalizing x with
 | zero=>simp [Aa]
 | succ a ih=>rw [Nat.succ_add];simp only [Aa];exact ih _
theorem lH (n:Nat) (x:Wd):Aa (n+1) x=st (Aa n x):=by
 have:=qN n 1 x
 simpa [Aa] using this
theorem st_xor (x y:Wd):st (x ^^^ y)=st x ^^^ st y:=by
 unfold st;have h:(x ^^^ y).getLsbD 0=((x.getLsbD 0) ^^ (y.getLsbD 0)):=by simp
 rw [h,BitVec.ushiftRight_xor_distrib];have c3:∀ a b c:Wd,a ^^^ (b ^^^ c)=b ^^^ (a ^^^ c):=fun a b c=>by rw [←BitVec.xor_assoc,BitVec.xor_comm a,BitVec.xor_assoc]
 cases x.getLsbD 0<;>cases y.getLsbD 0<;>simp [BitVec.xor_assoc]
 ·rw [BitVec.xor_comm]
 ·rw [c3 poly,BitVec.xor_self,BitVec.xor_zero]
theorem aX1 (n:Nat) (x y:Wd):Aa n (x ^^^ y)=Aa n x ^^^ Aa n y:=by
 induction n generalizing x y with
 | zero=>rfl
 | succ n ih=>simp only [Aa];rw [st_xor,ih]
def b8 (c:Int):Wd:=BitVec.ofInt 32 c
def Ab:Wd→List Int→Wd
 | s,[]=>s
 | s,c::l=>Ab (Aa 8 (s ^^^ b8 c)) l
theorem Qz (s:Wd) (a b:List Int):Ab s (a++b)=Ab (Ab s a) b:=by
 induction a generalizing s with
 | nil=>rfl
 | cons c a ih=>simp only [List.cons_append,Ab];exact ih _
def sum (l:List Int):Wd := ~~~ (Ab (~~~ 0#32) l)
def more (s:Wd) (l:List Int):Wd := ~~~ (Ab (~~~ s) l)
end Crc
namespace Go.Am
open Crc
def u (x:Wd):Int:=(x.toNat:Int)
def R1 (n:Int):Wd:=BitVec.ofInt 32 n
theorem Fi (x:Wd):0≤u x∧u x<4294967296:=by
 have:=x.isLt
 unfold u;omega
theorem aB (x:Wd):IntKind.u32.wrap (u x)=u x:=by
 have:=Fi x
 rw [IntKind.wrap_u32];omega
theorem aZ8 (x:Wd):BitVec.ofInt 32 (u x)=x:=by
 apply BitVec.eq_of_toNat_eq;simp [u]
theorem Ca (x:Wd):R1 (u x)=x:=aZ8 x
theorem Vz {n:Int} (h:0≤n∧n<4294967296):u (R1 n)=n:=by
 obtain ⟨m,rfl⟩:=Int.eq_ofNat_of_zero_le h.1;simp [u,R1];omega
theorem u_tdiv (x:Wd):(u x).tdiv 2=u (x >>> 1):=by
 unfold u;rw [BitVec.toNat_ushiftRight,Nat.shiftRight_eq_div_pow,Int.tdiv_eq_ediv_of_nonneg (by omega)];omega
theorem u_tmod (x:Wd):((u x).tmod 2==1)=x.getLsbD 0:=by
 unfold u;rw [Int.tmod_eq_emod_of_nonneg (by omega)];simp only [BitVec.getLsbD,Nat.testBit_zero];rw [Bool.eq_iff_iff];simp;omega
theorem fdiv_u (x:Wd) (k:Nat):(u x).fdiv (2^k)=u (x >>> k):=by
 unfold u;rw [BitVec.toNat_ushiftRight,Nat.shiftRight_eq_div_pow,Int.fdiv_eq_ediv_of_nonneg _ (Int.le_of_lt (Int.pow_pos (by omega)))];simp
theorem st_pos {x:Wd} (h:x.getLsbD 0=true):st x=(x >>> 1) ^^^ poly:=by unfold st;rw [if_pos h]
theorem xS {x:Wd} (h:x.getLsbD 0=false):st x=x >>> 1:=by unfold st;rw [if_neg (by rw [h];simp)];simp
theorem Uh (x y:Int):Gw .u32 x y=u (R1 x ^^^ R1 y):=aB _
theorem kAnd_w (x y:Int):P1 .u32 x y=u (R1 x &&& R1 y):=aB _
theorem kShr_u (x:Wd) (k:Nat) (hk:k≤32):S4 .u32 (u x) (k:Int)=u (x >>> k):=by
 unfold S4;rw [show min (Int.toNat (k:Int)) (IntKind.bits .u32)=k by simp [IntKind.bits];omega];exact fdiv_u x k
theorem kV (x:Int):R1 (IntKind.u32.wrap x)=R1 x:=by
 rw [IntKind.wrap_u32];unfold R1;apply BitVec.eq_of_toNat_eq;simp only [BitVec.toNat_ofInt];congr 1;omega
theorem not_w (x:Wd):(R1 4294967295 ^^^ x) = ~~~ x:=by
 have:R1 4294967295=BitVec.allOnes 32:=by decide
 rw [this,BitVec.allOnes_xor]
theorem kNot_u (x:Wd):Zd .u32 (u x)=u (~~~ x):=by
 rw [←not_w];show IntKind.u32.wrap (u (R1 4294967295 ^^^ R1 (u x)))=_;rw [aB,Ca]
theorem aN5 (x:Wd):Gw .u32 (u x) 4294967295=u (~~~ x):=by rw [Uh,Ca,BitVec.xor_comm,not_w]
def tab:List AV:=[.int .u32 0,.int .u32 274646895,.int .u32 549293790,.int .u32 820201905,.int .u32 1098587580,.int .u32 1361435347,.int .u32 1640403810,.int .u32 1905808397,.int .u32 2197175160,.int .u32 2460548119,.int .u32 2722870694,.int .u32 2987750089,.int .u32 3280807620,.int .u32 3553878443,.int .u32 3811616794,.int .u32 4084100981]
def tabI:List Int:=[0,274646895,549293790,820201905,1098587580,1361435347,1640403810,1905808397,2197175160,2460548119,2722870694,2987750089,3280807620,3553878443,3811616794,4084100981]
def Nd (t:List AV):Bool:=Dx .u32 t 0 16&&decide (T1 t 0 16=tabI)
theorem tab_ok:Nd tab=true:=by decide
theorem aG1:∀ j:Fin 16,tabI[j.val]?=some (u (Aa 4 (BitVec.ofNat 32 j.val))):=by decide
theorem kK (x:Wd):(x &&& 15#32).toNat<16:=by
 rw [BitVec.toNat_and];exact Nat.lt_of_le_of_lt Nat.and_le_right (by decide)
theorem xI {t:List AV} (h:Nd t=true) (x:Wd):isI .u32 t (x &&& 15#32).toNat=true:=by
 simp only [Nd,zO] at h
 have:=Lg h.1 (kK x)
 simpa using this
theorem aW2 {t:List AV} (h:Nd t=true) (x:Wd):A2 t (x &&& 15#32).toNat=u (Aa 4 (x &&& 15#32)):=by
 simp only [Nd,zO,qC] at h;have h2:=congrArg (fun l:List Int=>l[(x &&& 15#32).toNat]?) h.2;simp only [aG1 ⟨_,kK x⟩] at h2;simp only [T1,zA0,List.getElem?_range (kK x),Option.map_some,zN,Nat.zero_add] at h2;rw [h2];simp
theorem Qr {x:Wd} {i:Nat} (h:x.getLsbD i=false):st (x >>> i)=x >>> (i+1):=by
 have:(x >>> i).getLsbD 0=false:=by rw [BitVec.getLsbD_ushiftRight];simpa using h
 rw [xS this,←BitVec.shiftRight_add]
theorem stn4 (x:Wd):Aa 4 x=(x >>> 4) ^^^ Aa 4 (x &&& 15#32):=by
 have hx:x=(x &&& ~~~ 15#32) ^^^ (x &&& 15#32):=by
  apply BitVec.eq_of_getLsbD_eq;intro i hi;simp only [BitVec.getLsbD_xor,BitVec.getLsbD_and,BitVec.getLsbD_not,hi];cases x.getLsbD i<;>cases (15#32).getLsbD i<;>simp
 have hz:∀ i,i<4→(x &&& ~~~ 15#32).getLsbD i=false:=by
  intro i hi;simp only [BitVec.getLsbD_and,BitVec.getLsbD_not]
  have:(15#32).getLsbD i=true:=by
   rcases i with _ | _ | _ | _ | i
   ·decide
   ·decide
   ·decide
   ·decide
   ·omega
  simp [this]
 have h4:Aa 4 (x &&& ~~~ 15#32)=(x &&& ~~~ 15#32) >>> 4:=by
  simp only [Aa];have e0:=Qr (hz 0 (by omega));rw [BitVec.ushiftRight_zero] at e0;rw [e0,Qr (hz 1 (by omega)),Qr (hz 2 (by omega)),Qr (hz 3 (by omega))]
 have hs:(x &&& ~~~ 15#32) >>> 4=x >>> 4:=by
  apply BitVec.eq_of_getLsbD_eq;intro i hi;simp only [BitVec.getLsbD_ushiftRight,BitVec.getLsbD_and,BitVec.getLsbD_not];by_cases h:4+i<32
  ·have:(15#32).getLsbD (4+i)=false:=by
    have:(15#32)=BitVec.ofNat 32 (2^4 - 1):=by decide
    rw [this];simp only [BitVec.getLsbD_ofNat,Nat.testBit_two_pow_sub_one];simp
   rw [this];simp [h]
  ·have:x.getLsbD (4+i)=false:=BitVec.getLsbD_of_ge x _ (by omega)
   simp [this]
 have:=aX1 4 (x &&& ~~~ 15#32) (x &&& 15#32)
 rw [←hx,h4,hs] at this;exact this
end Go.Am
