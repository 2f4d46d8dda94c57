/-
  The program's sets: what its calls without loops do.
-/
import Derived.Test.YtkabjomhnddnoaaBase7
import Derived.Test.YtkabjomhnddnoaaProg
namespace Go.Am
open Go.Proofs Crc
set_option maxRecDepth 100000
theorem mix (G : Nat → List AV) (B : Nat) : ((⟨Try.prog, G, B⟩ : Ctx)).P.follows .mixedOrders = true := by kernel_rfl
theorem dg (G : Nat → List AV) (B : Nat) : DGood (⟨Try.prog, G, B⟩ : Ctx) (Dc Try.prog [55, 56] [] [] 0) [] := dgood (mix G B) (by kernel_rfl) .nil .nil
theorem t11 (G : Nat → List AV) (cs : List AV) (n : Int) (Q : Ex → List AV → Hp → Prop) (R : AV → Hp → Prop) : vT G Q R (dcall (Dc Try.prog [55, 56] [] [] 0) 200 10 Try.f23 [.ptr (.rw 0) (.lit 0), .int .i64 (.var 2 n)] [some ⟨1, .var 1 cs⟩] 1) = (
    isB cs (0) = true ∧
    (getB cs (0) = true →
      (decide ((n : Int) < 0) = true →
        R (.int .i64 (2)) [some ⟨1, cs⟩]) ∧
      (decide ((n : Int) < 0) = false →
        (decide ((n : Int) > 15) = true →
          R (.int .i64 (2)) [some ⟨1, cs⟩]) ∧
        (decide ((n : Int) > 15) = false →
          isI .u32 cs (1) = true ∧
          decide ((0 : Int) ≤ n) = true ∧
          leB (2) (List.length cs) = true ∧
          R (.int .i64 (0)) [some ⟨1, (setPart cs (1) (.int .u32 (kOr .u32 (getI cs (1)) (kAnd .u32 (kShl .u32 (1) (n)) (65534)))))⟩]))) ∧
    (getB cs (0) = false →
      R (.int .i64 (1)) [some ⟨1, cs⟩])) := by kernel_rfl
theorem t17 (G : Nat → List AV) (cs : List AV) (Q : Ex → List AV → Hp → Prop) (R : AV → Hp → Prop) : vT G Q R (dcall (Dc Try.prog [55, 56] [] [] 0) 200 10 Try.f37 [.ptr (.rw 0) (.lit 0)] [some ⟨1, .var 1 cs⟩] 2) = (
    isB cs (0) = true ∧
    (getB cs (0) = true →
      leB (19) (List.length cs) = true ∧
      cellsB (subL cs (0) (19)) = true ∧
      Nat.beq (List.length (subL cs (0) (19))) (19) = true ∧
      R (.ptr (.rw 1) (0)) [some ⟨1, cs⟩, some ⟨1, (subL cs (0) (19))⟩]) ∧
    (getB cs (0) = false →
      R (.nilp) [some ⟨1, cs⟩])) := by kernel_rfl
theorem t38 (G : Nat → List AV) (cs : List AV) (Q : Ex → List AV → Hp → Prop) (R : AV → Hp → Prop) : vT G Q R (dcall (Dc Try.prog [55, 56, 37] [] [] 0) 200 10 Try.f58 [.ptr (.rw 0) (.lit 0)] [some ⟨1, .var 1 cs⟩] 2) = (
    isB cs (0) = true ∧
    (getB cs (0) = true →
      leB (19) (List.length cs) = true ∧
      cellsB (subL cs (0) (19)) = true ∧
      Nat.beq (List.length (subL cs (0) (19))) (19) = true ∧
      leB (2) (List.length (subL cs (0) (19))) = true ∧
      R (.ptr (.rw 1) (0)) [some ⟨1, cs⟩, some ⟨1, (setPart (subL cs (0) (19)) (1) (.int .u32 (0)))⟩]) ∧
    (getB cs (0) = false →
      R (.nilp) [some ⟨1, cs⟩])) := by kernel_rfl
theorem leB_enc (p : Sg) (k : Nat) (h : k ≤ 19) : leB k (encP p).length = true := leB_iff.2 (by rw [encP_length]; exact h)
theorem outB_dec {n lo hi : Int} (h1 : decide (n < lo) = false) (h2 : decide (n > hi) = false) : outB n lo hi = false := by
  have := of_decide_eq_false h1
  have := of_decide_eq_false h2
  exact outB_false (by omega) (by omega)
theorem outB_lo {n lo hi : Int} (h1 : decide (n < lo) = true) : outB n lo hi = true := outB_true (.inl (of_decide_eq_true h1))
theorem outB_hi {n lo hi : Int} (h1 : decide (n > hi) = true) : outB n lo hi = true := outB_true (.inr (of_decide_eq_true h1))
theorem send_w (p : Sg) (n : Int) (h1 : 0 ≤ n) (h2 : n ≤ 15) : (encP p).set 1 (.int .u32 (kOr .u32 (u p.wt) (kAnd .u32 (kShl .u32 1 n) 65534))) = encP (send p n) := by
  have en : n = (n.toNat : Int) := by omega
  have e : kOr .u32 (u p.wt) (kAnd .u32 (kShl .u32 1 n) 65534) = u ((p.wt ||| bitN n.toNat) &&& 65534#32) := by
    rw [en, kShl1 (by omega), kAnd_w, kOr_w, w32_u, w32_u, w32_u]
    congr 1
    rw [Int.toNat_natCast]
    have : w32 65534 = 65534#32 := rfl
    rw [this]
    conv => lhs; rw [← p.hw]
    rw [BitVec.and_comm p.wt, BitVec.and_comm (bitN n.toNat)]
    rw [BitVec.and_comm (p.wt ||| bitN n.toNat)]
    rw [BitVec.and_or_distrib_left]
  rw [e]; rfl
theorem p_send (G : Nat → List AV) (B : Nat) : SendOk (⟨Try.prog, G, B⟩ : Ctx) 23 encP := by
  intro p n
  refine Meth.of (C := (⟨Try.prog, G, B⟩ : Ctx)) (rest := [.int .i64 (.var 2 n)]) (dg G B) (by kernel_rfl) (by kernel_rfl) (by kernel_rfl) (fuel := 200) (n0 := 10) (fn := Try.f23) ?_
  rw [t11]
  refine ⟨rfl, fun _ => ⟨fun h => ?_, fun h => ⟨fun h' => ?_, fun h' => ⟨rfl, ?_, leB_enc p _ (by omega), ?_⟩⟩⟩, fun h => by cases h⟩
  · rw [outB_lo h]; exact ⟨rfl, rfl⟩
  · rw [outB_hi h']; exact ⟨rfl, rfl⟩
  · exact decide_eq_true (by have := of_decide_eq_false h; omega)
  · rw [outB_dec h h']
    refine ⟨rfl, ?_⟩
    have := of_decide_eq_false h
    have := of_decide_eq_false h'
    simp only [Bool.false_eq_true, if_false, ← send_w p n (by omega) (by omega)]
    rfl
theorem subL_enc (p : Sg) : subL (encP p) 0 19 = encP p := by
  unfold subL; rw [List.drop_zero, List.take_of_length_le (by rw [encP_length]; omega)]
theorem p_copy (G : Nat → List AV) (B : Nat) : NewOk (⟨Try.prog, G, B⟩ : Ctx) 37 encP (fun _ => .ptr (.rw 1) 0) encP := by
  intro p
  refine New.of (C := (⟨Try.prog, G, B⟩ : Ctx)) (dg G B) (by kernel_rfl) (by kernel_rfl) (by kernel_rfl) (encP_flat _ _) (encP_flat _ _) (by simp [bnd]) (by simp) (fuel := 200) (n0 := 10) (fn := Try.f37) ?_
  rw [t17]
  rw [subL_enc]
  exact ⟨rfl, fun _ => ⟨leB_enc p _ (by omega), encP_cells p, by rw [encP_length]; rfl, rfl, rfl⟩, fun h => by cases h⟩
theorem p_child (G : Nat → List AV) (B : Nat) : NewOk (⟨Try.prog, G, B⟩ : Ctx) 58 encP (fun _ => .ptr (.rw 1) 0) (fun p => encP (setW p 0#32)) := by
  intro p
  refine New.of (C := (⟨Try.prog, G, B⟩ : Ctx)) (dgood (inl := [55, 56, 37]) (sums := []) (ls := []) (M := 0) (mix G B) (by kernel_rfl) .nil .nil) (by kernel_rfl) (by kernel_rfl) (by kernel_rfl) (encP_flat _ _) (encP_flat _ _) (by simp [bnd]) (by simp) (fuel := 200) (n0 := 10) (fn := Try.f58) ?_
  rw [t38]
  rw [subL_enc]
  exact ⟨rfl, fun _ => ⟨leB_enc p _ (by omega), encP_cells p, by rw [encP_length]; rfl, leB_enc p _ (by omega), rfl, rfl⟩, fun h => by cases h⟩
end Go.Am
