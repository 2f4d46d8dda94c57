/-
  Filters: the tests, plainly. Filters: what tests say of a byte, plainly.
-/
import Derived.Test.YthejjolnlngahaaBase3
import Derived.Test.YthejjolnlngahaaBase5
namespace Go.Am
def I5 (f:Nat→Bool):Nat→Bool
 | 0=>true
 | n+1=>I5 f n&&f n
theorem T6 {f:Nat→Bool} {n:Nat}:I5 f n=true↔∀ i,i<n→f i=true:=by
 induction n with
 | zero=>simp [I5]
 | succ n ih=>
  simp only [I5,Bool.and_eq_true,ih];constructor
  ·rintro ⟨h1,h2⟩ i hi;by_cases h:i=n
   ·subst h;exact h2
   ·exact h1 i (by omega)
  ·exact fun h=>⟨fun i hi=>h i (by omega),h n (by omega)⟩
theorem Ep {f:Nat→Bool} {n i:Nat} (hi:i<n) (h:f i=false):I5 f n=false:=by
 cases e:I5 f n with
 | false=>rfl
 | true=>rw [T6.1 e i hi] at h;cases h
end Go.Am
namespace Go.Am
def K1 (p:Nat→Bool):Nat→Nat
 | 0=>0
 | k+1=>if K1 p k<k then K1 p k else if p k=true then k else k+1
theorem L6 {p:Nat→Bool}:∀ {k:Nat},K1 p k≤k∧(K1 p k<k→p (K1 p k)=true)∧∀ j,j<K1 p k→p j=false
 | 0=>by simp [K1]
 | k+1=>by
  obtain ⟨h1,h2,h3⟩:=L6 (p:=p) (k:=k);simp only [K1];split
  ·rename_i h;exact ⟨by omega,fun _=>h2 h,h3⟩
  ·have:K1 p k=k:=by omega
   rw [this] at h3;split
   ·rename_i hp;exact ⟨by omega,fun _=>hp,h3⟩
   ·rename_i hp;refine ⟨by omega,fun h=>by omega,fun j hj=>?_⟩;by_cases e:j=k
    ·subst e;simpa using hp
    ·exact h3 j (by omega)
end Go.Am
