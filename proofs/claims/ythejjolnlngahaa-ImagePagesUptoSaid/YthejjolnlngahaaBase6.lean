/-
  Filters: the tests, plainly. Filters: what tests say of a byte, plainly.
-/
import Derived.Test.YthejjolnlngahaaBase3
import Derived.Test.YthejjolnlngahaaBase5
namespace Go.Am
def E7 (f:Nat→Bool):Nat→Bool
 | 0=>true
 | n+1=>E7 f n&&f n
theorem I5 {f:Nat→Bool} {n:Nat}:E7 f n=true↔∀ i,i<n→f i=true:=by
 induction n with
 | zero=>simp [E7]
 | succ n ih=>
  simp only [E7,Bool.and_eq_true,ih];constructor
  ·rintro ⟨h1,h2⟩ i hi;by_cases h:i=n
   ·subst h;exact h2
   ·exact h1 i (by omega)
  ·exact fun h=>⟨fun i hi=>h i (by omega),h n (by omega)⟩
theorem Ae {f:Nat→Bool} {n i:Nat} (hi:i<n) (h:f i=false):E7 f n=false:=by
 cases e:E7 f n with
 | false=>rfl
 | true=>rw [I5.1 e i hi] at h;cases h
end Go.Am
namespace Go.Am
def J4 (p:Nat→Bool):Nat→Nat
 | 0=>0
 | k+1=>if J4 p k<k then J4 p k else if p k=true then k else k+1
theorem F5 {p:Nat→Bool}:∀ {k:Nat},J4 p k≤k∧(J4 p k<k→p (J4 p k)=true)∧∀ j,j<J4 p k→p j=false
 | 0=>by simp [J4]
 | k+1=>by
  obtain ⟨h1,h2,h3⟩:=F5 (p:=p) (k:=k);simp only [J4];split
  ·rename_i h;exact ⟨by omega,fun _=>h2 h,h3⟩
  ·have:J4 p k=k:=by omega
   rw [this] at h3;split
   ·rename_i hp;exact ⟨by omega,fun _=>hp,h3⟩
   ·rename_i hp;refine ⟨by omega,fun h=>by omega,fun j hj=>?_⟩;by_cases e:j=k
    ·subst e;simpa using hp
    ·exact h3 j (by omega)
end Go.Am
namespace Go.Am
def S4 (m z:Nat) (f:Nat→Nat→AV):List AV:=(List.range (m*z)).map fun j=>f (j / z) (j % z)
theorem Ff {m z:Nat} {f:Nat→Nat→AV}:(S4 m z f).length=m*z:=by simp [S4]
theorem dm {n z k:Nat} (hk:k<z):(n*z+k) / z=n∧(n*z+k) % z=k:=by
 constructor
 ·rw [Nat.mul_comm,Nat.mul_add_div (by omega),Nat.div_eq_of_lt hk,Nat.add_zero]
 ·rw [Nat.mul_comm,Nat.mul_add_mod,Nat.mod_eq_of_lt hk]
theorem dm_lt {m n z k:Nat} (hn:n<m) (hk:k<z):n*z+k<m*z:=by
 have:(n+1)*z≤m*z:=Nat.mul_le_mul_right z hn
 rw [Nat.add_mul,Nat.one_mul] at this;omega
theorem Ra {m z j:Nat} (h:j<m*z):j / z<m∧j % z<z∧j=j / z*z+j % z:=by
 have hz:0<z:=by
  rcases Nat.eq_zero_or_pos z with rfl | h0
  ·simp at h
  ·exact h0
 refine ⟨(Nat.div_lt_iff_lt_mul hz).2 h,Nat.mod_lt _ hz,?_⟩;rw [Nat.mul_comm];exact (Nat.div_add_mod j z).symm
theorem Cb {m z:Nat} {f:Nat→Nat→AV} {n k:Nat} (hn:n<m) (hk:k<z):(S4 m z f)[n*z+k]?=some (f n k):=by
 unfold S4;rw [List.getElem?_map,List.getElem?_range (dm_lt hn hk)];simp only [Option.map_some,(dm (n:=n) hk).1,(dm (n:=n) hk).2]
theorem Ed {m z:Nat} {f g:Nat→Nat→AV} (h:∀ n k,n<m→k<z→f n k=g n k):S4 m z f=S4 m z g:=by
 unfold S4;refine List.map_congr_left fun j hj=>?_;obtain ⟨h1,h2,_⟩:=Ra (List.mem_range.1 hj);exact h _ _ h1 h2
theorem iC {m z:Nat} {f:Nat→Nat→AV} {n k:Nat} {v:AV} (hk:k<z):(S4 m z f).set (n*z+k) v=S4 m z fun a b=>if a=n∧b=k then v else f a b:=by
 refine List.ext_getElem? fun j=>?_;rw [List.getElem?_set,Ff];by_cases hj:j<m*z
 ·obtain ⟨h1,h2,h3⟩:=Ra hj;generalize j / z=a at *;generalize j % z=b at *;subst h3;rw [Cb h1 h2,Cb h1 h2];by_cases e:n*z+k=a*z+b
  ·have d1:=dm (n:=n) hk;rw [e] at d1;have d2:=dm (n:=a) h2;have e1:a=n:=by rw [←d2.1,d1.1]
   have e2:b=k:=by rw [←d2.2,d1.2]
   rw [if_pos e,if_pos (show n*z+k<m*z by rw [e];exact hj),if_pos ⟨e1,e2⟩]
  ·rw [if_neg e,if_neg fun h=>e (by rw [h.1,h.2])]
 ·rw [List.getElem?_eq_none (by rw [Ff];omega),List.getElem?_eq_none (by rw [Ff];omega)];split
  ·rw [if_neg (by omega)]
  ·rfl
end Go.Am
