/-
  Words of 32 bits as the program holds them.
-/
import Derived.Test.YtopenjkaifbnmaaAmInts
import Derived.Test.YtopenjkaifbnmaaCrcMath
import Derived.IntWalk
namespace Go.Am
open Crc

def u (x : W) : Int := (x.toNat : Int)
def w32 (n : Int) : W := BitVec.ofInt 32 n

theorem u_range (x : W) : 0 ≤ u x ∧ u x < 4294967296 := by
  have := x.isLt
  unfold u; omega
theorem u_ge (x : W) : 0 ≤ u x := (u_range x).1
theorem u_lt (x : W) : u x < 4294967296 := (u_range x).2
theorem u_def (x : W) : ((x.toNat : Nat) : Int) = u x := rfl
theorem u_wrap (x : W) : IntKind.u32.wrap (u x) = u x := by
  have := u_range x
  rw [IntKind.wrap_u32]; omega
theorem ofInt_u (x : W) : BitVec.ofInt 32 (u x) = x := by
  apply BitVec.eq_of_toNat_eq
  simp [u]
theorem w32_u (x : W) : w32 (u x) = x := ofInt_u x
theorem u_w32 {n : Int} (h : 0 ≤ n ∧ n < 4294967296) : u (w32 n) = n := by
  obtain ⟨m, rfl⟩ := Int.eq_ofNat_of_zero_le h.1
  simp [u, w32]
  omega
theorem u_inj {x y : W} : u x = u y ↔ x = y := by
  constructor
  · intro h
    have := congrArg w32 h
    rwa [w32_u, w32_u] at this
  · rintro rfl; rfl
theorem u_beq (x y : W) : (u x == u y) = (x == y) := by
  rw [Bool.eq_iff_iff]; simp [u_inj]
theorem u_bne (x y : W) : (u x != u y) = (x != y) := by simp only [bne, u_beq]
theorem u_tdiv (x : W) : (u x).tdiv 2 = u (x >>> 1) := by
  unfold u
  rw [BitVec.toNat_ushiftRight, Nat.shiftRight_eq_div_pow, Int.tdiv_eq_ediv_of_nonneg (by omega)]
  omega
theorem u_tmod (x : W) : ((u x).tmod 2 == 1) = x.getLsbD 0 := by
  unfold u
  rw [Int.tmod_eq_emod_of_nonneg (by omega)]
  simp only [BitVec.getLsbD, Nat.testBit_zero]
  rw [Bool.eq_iff_iff]
  simp
  omega
theorem fdiv_u (x : W) (k : Nat) : (u x).fdiv (2 ^ k) = u (x >>> k) := by
  unfold u
  rw [BitVec.toNat_ushiftRight, Nat.shiftRight_eq_div_pow, Int.fdiv_eq_ediv_of_nonneg _ (Int.le_of_lt (Int.pow_pos (by omega)))]
  simp
theorem ofNat_eq (n : Nat) : BitVec.ofInt 32 (n : Int) = BitVec.ofNat 32 n := by
  apply BitVec.eq_of_toNat_eq; simp

theorem st_pos {x : W} (h : x.getLsbD 0 = true) : st x = (x >>> 1) ^^^ poly := by unfold st; rw [if_pos h]
theorem st_neg {x : W} (h : x.getLsbD 0 = false) : st x = x >>> 1 := by unfold st; rw [if_neg (by rw [h]; simp)]; simp

theorem kXor_w (x y : Int) : kXor .u32 x y = u (w32 x ^^^ w32 y) := u_wrap _
theorem kAnd_w (x y : Int) : kAnd .u32 x y = u (w32 x &&& w32 y) := u_wrap _
theorem kShr_u (x : W) (k : Nat) (hk : k ≤ 32) : kShr .u32 (u x) (k : Int) = u (x >>> k) := by
  unfold kShr
  rw [show min (Int.toNat (k : Int)) (IntKind.bits .u32) = k by simp [IntKind.bits]; omega]
  exact fdiv_u x k
theorem w32_wrap (x : Int) : w32 (IntKind.u32.wrap x) = w32 x := by
  rw [IntKind.wrap_u32]
  unfold w32
  apply BitVec.eq_of_toNat_eq
  simp only [BitVec.toNat_ofInt]
  congr 1
  omega
theorem not_w (x : W) : (w32 4294967295 ^^^ x) = ~~~ x := by
  have : w32 4294967295 = BitVec.allOnes 32 := by decide
  rw [this, BitVec.allOnes_xor]
theorem kNot_u (x : W) : kNot .u32 (u x) = u (~~~ x) := by
  rw [← not_w]
  show IntKind.u32.wrap (u (w32 4294967295 ^^^ w32 (u x))) = _
  rw [u_wrap, w32_u]
theorem kXor_not (x : W) : kXor .u32 (u x) 4294967295 = u (~~~ x) := by rw [kXor_w, w32_u, BitVec.xor_comm, not_w]
end Go.Am
