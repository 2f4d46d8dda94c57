/-
  ProcsOnce: for every input the law returns true: an end is told by a wait once at most, by its parent's alone.
-/
import Derived.Test.YtkabjomhnddnoaaPrOe
import Derived.Test.YtkabjomhnddnoaaBase6
import Derived.Test.YtkabjomhnddnoaaRows
namespace Go.Proofs.Ytkabjomhnddnoaa
open Go.Am Go.ChangeShapes Go.WideShapes Go.ChangeAt Go.RowKit
set_option maxRecDepth 100000
theorem once_main {H : Type} (L : List RoE) (B : Nat) (xs : List AV) (ds : List (DataW H)) (hA : ArgDs Try.prog L 8 [22] xs ds) : ACalls ⟨Try.prog, GL L, B⟩ 3 xs [] fun v _ => v = .bool true := by
  obtain ⟨a, _, d1, _, rfl, rfl, h1, hA⟩ := hA.cons
  obtain ⟨rfl, rfl⟩ := hA.nil
  obtain ⟨k, m, hv, hk⟩ := ArgD.rows (n := 5) (kd := .i64) (z := 4) (e := 27) (by kernel_rfl) (by kernel_rfl) h1
  refine ACalls.weaken (once_call (GL L) B k m hk.ok) ?_
  intro ρ vs h
  simp only [VRs] at h ⊢
  obtain ⟨v, vs', r1, r2, r3⟩ := h
  exact ⟨v, vs', r1, hv ρ v r2, r3⟩

theorem procsOnce_lifted (os : Os) (started : os.Started) (H : Type) (enc : TypeId × Value → H) :
    ReturnsInHanded {} Try.checked os 3 .any (Rows.procsOnceSpec.pre6 enc Try.prog Try.f3 Rows.procsOnceRow.domain false) (Rows.procsOnceSpec.post enc Try.prog Try.f3 false true false false) := by
  refine returnsInHanded_of_change (C := Try.checked) (by kernel_rfl) started (by kernel_rfl) Try.func3
    (ChangeSpec.witness6 (enc := enc) (C := Try.checked) false ⟨#[], #[.slice none 0 0], []⟩ 8 (by kernel_rfl) (by kernel_rfl) (by kernel_rfl) (by kernel_rfl)) ?_
  intro W base args ds gs before hval hW hcnd _
  have hpar : Try.f3.params.toList = [22] := by kernel_rfl
  have hW' := hW
  obtain ⟨p, q, hA, _⟩ := hW'
  refine law_contract (n := 8) (tb := 4) (by kernel_rfl) (fun t ht => ?_) (by kernel_rfl) (by kernel_rfl) rfl hval hW ?_ ?_
  · rw [hpar] at ht
    simp only [List.mem_cons, List.not_mem_nil, or_false] at ht
    subst ht
    exact ⟨by kernel_rfl, by kernel_rfl, of_decide_eq_true (by kernel_rfl)⟩
  · have hlen := (DataW.TrodAll.len hA).2
    rw [hpar] at hlen
    match ds, hlen with
    | [d1], _ => rfl
  · intro L B xs _ hA
    rw [hpar] at hA
    exact once_main L B xs ds hA
theorem procsOnce_over : Rows.procsOnceRow.holds Try.pinned (OpenSpec.ofChange Rows.procsOnceSpec) :=
  OpenClaim.holds_of_wide 3 Try.f3 rfl rfl rfl rfl rfl rfl rfl ⟨rfl, rfl, rfl, rfl, rfl⟩ rfl rfl rfl rfl rfl (by kernel_rfl) Try.func3 (by kernel_rfl)
    (of_decide_eq_true (by kernel_rfl)) (by unfold Func.isWrapper; first | (rw [if_pos (by decide +kernel)]; kernel_rfl) | (rw [if_neg (by decide +kernel)]; exact ⟨rfl, rfl⟩))
    (fun os started H enc _ => procsOnce_lifted os started H enc)
theorem procsOnce_proved : Rows.ProcsOnceSaid := procsOnce_over
#print axioms procsOnce_proved
end Go.Proofs.Ytkabjomhnddnoaa
