/-
  SlicesSteps: for every input the law returns true: step by step the slots' table and the document's stand alike.
-/
import Derived.Test.YtfalglcagngbnaaSlTa
import Derived.Test.YtfalglcagngbnaaBase6
import Derived.Test.YtfalglcagngbnaaRows
namespace Go.Proofs.Ytfalglcagngbnaa
open Go.Am Go.ChangeShapes Go.WideShapes Go.ChangeAt Go.RowKit
set_option maxRecDepth 100000

theorem steps_main {H : Type} (L : List RoE) (B : Nat) (xs : List AV) (ds : List (DataW H)) (hA : ArgDs Try.prog L 8 [22, 3] xs ds) : ACalls ⟨Try.prog, GL L, B⟩ 7 xs [] fun v _ => v = .bool true := by
  obtain ⟨a, _, d1, _, rfl, rfl, h1, hA⟩ := hA.cons
  obtain ⟨b, _, d2, _, rfl, rfl, h2, hA⟩ := hA.cons
  obtain ⟨rfl, rfl⟩ := hA.nil
  obtain ⟨k, m, hv, hk⟩ := ArgD.rows (n := 5) (kd := .i64) (z := 3) (e := 26) (by kernel_rfl) (by kernel_rfl) h1
  obtain ⟨x, rfl, _⟩ := ArgD.i64 (n := 7) (k := .i64) (by kernel_rfl) h2
  refine ACalls.weaken (sp_call (GL L) B k m x hk.ok) ?_
  intro ρ vs h
  simp only [VRs] at h ⊢
  obtain ⟨v, vs', r1, r2, r3⟩ := h
  exact ⟨v, vs', r1, hv ρ v r2, r3⟩

theorem slicesSteps_lifted (os : Os) (started : os.Started) (H : Type) (enc : TypeId × Value → H) :
    ReturnsInHanded {} Try.checked os 7 .any (Rows.slicesStepsSpec.pre6 enc Try.prog Try.f7 Rows.slicesStepsRow.domain false) (Rows.slicesStepsSpec.post enc Try.prog Try.f7 false true false false) := by
  refine returnsInHanded_of_change (C := Try.checked) (by kernel_rfl) started (by kernel_rfl) Try.func7
    (ChangeSpec.witness6 (enc := enc) (C := Try.checked) false ⟨#[], #[.slice none 0 0, .int .i64 0], []⟩ 8 (by kernel_rfl) (by kernel_rfl) (by kernel_rfl) (by kernel_rfl)) ?_
  intro W base args ds gs before hval hW hcnd _
  have hpar : Try.f7.params.toList = [22, 3] := by kernel_rfl
  have hW' := hW
  obtain ⟨p, q, hA, _⟩ := hW'
  refine law_contract (n := 8) (tb := 4) (by kernel_rfl) (fun t ht => ?_) (by kernel_rfl) (by kernel_rfl) rfl hval hW ?_ ?_
  · rw [hpar] at ht
    simp only [List.mem_cons, List.not_mem_nil, or_false] at ht
    rcases ht with rfl | rfl
    · exact ⟨by kernel_rfl, by kernel_rfl, of_decide_eq_true (by kernel_rfl)⟩
    · exact ⟨by kernel_rfl, by kernel_rfl, of_decide_eq_true (by kernel_rfl)⟩
  · have hlen := (DataW.TrodAll.len hA).2
    rw [hpar] at hlen
    match ds, hlen with
    | [d1, d2], _ => rfl
  · intro L B xs _ hA
    rw [hpar] at hA
    exact steps_main L B xs ds hA
theorem slicesSteps_over : Rows.slicesStepsRow.holds Try.pinned (OpenSpec.ofChange Rows.slicesStepsSpec) :=
  OpenClaim.holds_of_wide 7 Try.f7 rfl rfl rfl rfl rfl rfl rfl ⟨rfl, rfl, rfl, rfl, rfl⟩ rfl rfl rfl rfl rfl (by kernel_rfl) Try.func7 (by kernel_rfl)
    (of_decide_eq_true (by kernel_rfl)) (by unfold Func.isWrapper; first | (rw [if_pos (by decide +kernel)]; kernel_rfl) | (rw [if_neg (by decide +kernel)]; exact ⟨rfl, rfl⟩))
    (fun os started H enc _ => slicesSteps_lifted os started H enc)
theorem slicesSteps_proved : Rows.SlicesStepsSaid := slicesSteps_over
#print axioms slicesSteps_proved
end Go.Proofs.Ytfalglcagngbnaa
