/-
  FilterPasses, for what is of bulk at most 1048576: the law returns true: which of some packets pass, in order, left anywhere, gone over again.
-/
import Derived.Test.YtnkcfoicbkobbaaFpL
namespace Go.Proofs.Ytnkcfoicbkobbaa
open Go.Am Go.ChangeShapes Go.WideShapes Go.ChangeAt Go.RowKit
set_option maxRecDepth 100000

theorem passes_main {H : Type} (L : List RoE) (B : Nat) (xs : List AV) (ds : List (DataW H)) (_ : ∀ k, (GL L k).all norw = true) (hA : ArgDs Try.prog L 8 [22, 45, 3] xs ds) (hk : Rows.uptoBulkAll ds ≤ 1048576) :
    ACalls ⟨Try.prog, GL L, B⟩ 7 xs [] fun v _ => v = .bool true := by
  obtain ⟨x, _, d1, _, rfl, rfl, h1, hA⟩ := hA.cons
  obtain ⟨y, _, d2, _, rfl, rfl, h2, hA⟩ := hA.cons
  obtain ⟨z, _, d3, _, rfl, rfl, h3, hA⟩ := hA.cons
  obtain ⟨rfl, rfl⟩ := hA.nil
  simp only [Rows.uptoBulkAll] at hk
  obtain ⟨k, n, hv, hi, hkl⟩ := ArgD.rowsK (n := 5) (kd := .i64) (z := 3) (e := 52) (by kernel_rfl) (by kernel_rfl) h1
  obtain ⟨k2, m, hv2, hk2, r2, n2, hp⟩ := packets_arg (by kernel_rfl) h2 (by omega)
  obtain ⟨a, rfl, _⟩ := ArgD.i64 (n := 7) (k := .i64) (by kernel_rfl) h3
  refine ACalls.weaken (passes_call L B k n k2 m a hkl hi hk2 r2 n2 hp) ?_
  intro ρ vs h
  simp only [VRs] at h ⊢
  obtain ⟨v1, s1, r1, q1, v2, s2, r2, q2, q3⟩ := h
  exact ⟨v1, s1, r1, hv ρ v1 q1, v2, s2, r2, hv2 ρ v2 q2, q3⟩

theorem filterPasses_lifted (os : Os) (started : os.Started) (H : Type) (enc : TypeId × Value → H) (F : Stop.Interp) :
    ReturnsInHanded {} Try.checked os 7 .any ((Rows.OpenSpec.upto Rows.filterPassesSpec).pre6 enc Try.prog Try.f7 Rows.filterPassesUptoRow.domain false) (((Rows.OpenSpec.upto Rows.filterPassesSpec).at F).post enc Try.prog Try.f7 false true false false) := by
  refine returnsInHanded_of_cond (C := Try.checked) (s := Rows.OpenSpec.upto Rows.filterPassesSpec) (k := Rows.uptoSmall) rfl (by kernel_rfl) started (by kernel_rfl) Try.func7
    (OpenSpec.witness (enc := enc) (C := Try.checked) (s := Rows.OpenSpec.upto Rows.filterPassesSpec) (k := Rows.uptoSmall) rfl false ⟨#[], #[.slice none 0 0, .slice none 0 0, .int .i64 0], []⟩ 8 (by kernel_rfl) (by kernel_rfl) (by kernel_rfl)
      (x := ([.nil, .nil, .lit (.int .i64 0)], [], [])) (by kernel_rfl) rfl (by kernel_rfl)) ?_
  intro W base args ds gs before hval hW _ hk _
  have hW' := hW
  obtain ⟨p, q, hA, hV, rfl, _⟩ := hW'
  obtain ⟨rfl, rfl⟩ := trodVars_none hV
  have hk : Rows.uptoBulkAll ds ≤ 1048576 := by rw [List.append_nil] at hk; exact of_decide_eq_true hk
  have hpar : Try.f7.params.toList = [22, 45, 3] := by kernel_rfl
  refine law_contract (n := 8) (tb := 4) (by kernel_rfl) (fun t ht => ?_) (by kernel_rfl) (by kernel_rfl) rfl hval hW ?_ ?_
  · rw [hpar] at ht
    simp only [List.mem_cons, List.not_mem_nil, or_false] at ht
    rcases ht with rfl | rfl | rfl
    · exact ⟨by kernel_rfl, by kernel_rfl, of_decide_eq_true (by kernel_rfl)⟩
    · exact ⟨by kernel_rfl, by kernel_rfl, of_decide_eq_true (by kernel_rfl)⟩
    · exact ⟨by kernel_rfl, by kernel_rfl, of_decide_eq_true (by kernel_rfl)⟩
  · have hlen := (DataW.TrodAll.len hA).2
    rw [hpar] at hlen
    match ds, hlen with
    | [d1, d2, d3], _ => rfl
  · intro L B xs hN hA
    rw [hpar] at hA
    exact passes_main L B xs ds hN hA hk
theorem filterPasses_over : Rows.filterPassesUptoRow.holds Try.pinned (Rows.OpenSpec.upto Rows.filterPassesSpec) :=
  OpenClaim.holds_of_cond 7 Try.f7 rfl rfl rfl rfl rfl rfl rfl ⟨rfl, rfl, rfl, rfl, rfl⟩ rfl rfl rfl rfl rfl (by kernel_rfl) Try.func7 (by kernel_rfl)
    (of_decide_eq_true (by kernel_rfl)) (by unfold Func.isWrapper; first | (rw [if_pos (by decide +kernel)]; kernel_rfl) | (rw [if_neg (by decide +kernel)]; exact ⟨rfl, rfl⟩))
    (fun os started H enc _ F => filterPasses_lifted os started H enc F)
theorem filterPassesUpto_proved : Rows.FilterPassesUptoSaid := filterPasses_over
#print axioms filterPassesUpto_proved
end Go.Proofs.Ytnkcfoicbkobbaa
