/-
  The chapter's rows.
-/
import Derived.Test.YtddhldihemfkcaaCrcSum
namespace Go.Am
open Go.Proofs Crc
set_option maxRecDepth 100000
theorem known_run (G : Nat → List AV) (B : Nat) : vc (Kci (⟨Try.prog, G, B⟩ : Ctx) [6, 8, 10, 12, 14] (sums [(15, run_sum (⟨Try.prog, G, B⟩ : Ctx)), (18, far_sum)])) 3000 0 (.code (bodyOf Try.f5)) (frame0 Try.f5 []) [] (retK (⟨Try.prog, G, B⟩ : Ctx) Try.f5 fun v _ => chk (isT v) True) = True := by kernel_rfl
theorem known_call (G : Nat → List AV) (B : Nat) : ACalls (⟨Try.prog, G, B⟩ : Ctx) 5 [] [] fun v _ => v = .bool true := by
  refine ACalls.monoK (callci (l := [6, 8, 10, 12, 14]) (mix G B) (sums_cons (run_sum_ok G B) (sums_cons (far_sum_ok G B).1 (sums_nil _))) (fn := Try.f5) (c := bodyOf Try.f5) (by kernel_rfl) (by kernel_rfl) (by kernel_rfl) 3000 (of_eq_true (known_run G B))) fun v _ h => isT_eq h
theorem known_ok (G : Nat → List AV) (B : Nat) : SumOk (⟨Try.prog, G, B⟩ : Ctx) 5 true_sum := true_sum_ok fun G B => known_call G B
end Go.Am
