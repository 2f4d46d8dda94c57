/-
  FilterBoth: for every input the law returns true: what two filters have both, whether they are apart, within one another, the same.
-/
import Derived.Test.YtnkcfoicbkobbaaFlS
import Derived.Test.YtnkcfoicbkobbaaBase6
import Derived.Test.YtnkcfoicbkobbaaRows
namespace Go.Proofs.Ytnkcfoicbkobbaa
open Go.Am Go.ChangeShapes Go.WideShapes Go.ChangeAt Go.RowKit
set_option maxRecDepth 100000

theorem u8_arg {H : Type} {L : List RoE} {a : AV} {d : DataW H} (h : ArgD Try.prog L 8 23 a d) : ∃ k m, (∀ (ρ : Env) v, VR ρ a v → VR ρ (.slice true (.ro k) 0 m) v) ∧ okI .u8 (GL L k) 0 m = true := by
  have h := ArgD.slice (e := 5) (by kernel_rfl) h
  rcases TyD.asInts (n := 6) (kd := .u8) (e := 5) (by kernel_rfl) (by kernel_rfl) (by kernel_rfl) h with ⟨h1, _⟩ | ⟨k, ds, sp, g1, rfl, g3, g4⟩
  · simp only [List.cons.injEq, and_true] at h1
    subst h1
    exact ⟨L.length, 0, fun ρ v hv => VR_nils _ _ hv, okI_of fun j hj => by omega⟩
  · simp only [List.cons.injEq, and_true] at g1
    subst g1
    exact ⟨k, ds.length, fun ρ v hv => VR_may hv, g4.ok⟩
theorem both_main {H : Type} (L : List RoE) (B : Nat) (xs : List AV) (ds : List (DataW H)) (hA : ArgDs Try.prog L 8 [22, 22, 23] xs ds) : ACalls ⟨Try.prog, GL L, B⟩ 6 xs [] fun v _ => v = .bool true := by
  obtain ⟨f, _, d1, _, rfl, rfl, h1, hA⟩ := hA.cons
  obtain ⟨g, _, d2, _, rfl, rfl, h2, hA⟩ := hA.cons
  obtain ⟨p, _, d3, _, rfl, rfl, h3, hA⟩ := hA.cons
  obtain ⟨rfl, rfl⟩ := hA.nil
  obtain ⟨k, n, hv, hk⟩ := ArgD.rows (n := 5) (kd := .i64) (z := 3) (e := 52) (by kernel_rfl) (by kernel_rfl) h1
  obtain ⟨k2, m, hv2, hk2⟩ := ArgD.rows (n := 5) (kd := .i64) (z := 3) (e := 52) (by kernel_rfl) (by kernel_rfl) h2
  obtain ⟨k3, r, hv3, hk3⟩ := u8_arg h3
  refine ACalls.weaken (fb_call (GL L) B k n k2 m k3 r hk.ok hk2.ok hk3) ?_
  intro ρ vs h
  simp only [VRs] at h ⊢
  obtain ⟨v1, s1, r1, q1, v2, s2, r2, q2, v3, s3, r3, q3, q4⟩ := h
  exact ⟨v1, s1, r1, hv ρ v1 q1, v2, s2, r2, hv2 ρ v2 q2, v3, s3, r3, hv3 ρ v3 q3, q4⟩

theorem filterBoth_lifted (os : Os) (started : os.Started) (H : Type) (enc : TypeId × Value → H) :
    ReturnsInHanded {} Try.checked os 6 .any (Rows.filterBothSpec.pre6 enc Try.prog Try.f6 Rows.filterBothRow.domain false) (Rows.filterBothSpec.post enc Try.prog Try.f6 false true false false) := by
  refine returnsInHanded_of_change (C := Try.checked) (by kernel_rfl) started (by kernel_rfl) Try.func6
    (ChangeSpec.witness6 (enc := enc) (C := Try.checked) false ⟨#[], #[.slice none 0 0, .slice none 0 0, .slice none 0 0], []⟩ 8 (by kernel_rfl) (by kernel_rfl) (by kernel_rfl) (by kernel_rfl)) ?_
  intro W base args ds gs before hval hW hcnd _
  have hpar : Try.f6.params.toList = [22, 22, 23] := by kernel_rfl
  have hW' := hW
  obtain ⟨p, q, hA, _⟩ := hW'
  refine law_contract (n := 8) (tb := 4) (by kernel_rfl) (fun t ht => ?_) (by kernel_rfl) (by kernel_rfl) rfl hval hW ?_ ?_
  · rw [hpar] at ht
    simp only [List.mem_cons, List.not_mem_nil, or_false] at ht
    rcases ht with rfl | rfl | rfl
    · exact ⟨by kernel_rfl, by kernel_rfl, of_decide_eq_true (by kernel_rfl)⟩
    · exact ⟨by kernel_rfl, by kernel_rfl, of_decide_eq_true (by kernel_rfl)⟩
    · exact ⟨by kernel_rfl, by kernel_rfl, of_decide_eq_true (by kernel_rfl)⟩
  · have hlen := (DataW.TrodAll.len hA).2
    rw [hpar] at hlen
    match ds, hlen with
    | [d1, d2, d3], _ => rfl
  · intro L B xs _ hA
    rw [hpar] at hA
    exact both_main L B xs ds hA
theorem filterBoth_over : Rows.filterBothRow.holds Try.pinned (OpenSpec.ofChange Rows.filterBothSpec) :=
  OpenClaim.holds_of_wide 6 Try.f6 rfl rfl rfl rfl rfl rfl rfl ⟨rfl, rfl, rfl, rfl, rfl⟩ rfl rfl rfl rfl rfl (by kernel_rfl) Try.func6 (by kernel_rfl)
    (of_decide_eq_true (by kernel_rfl)) (by unfold Func.isWrapper; first | (rw [if_pos (by decide +kernel)]; kernel_rfl) | (rw [if_neg (by decide +kernel)]; exact ⟨rfl, rfl⟩))
    (fun os started H enc _ => filterBoth_lifted os started H enc)
theorem filterBoth_proved : Rows.FilterBothSaid := filterBoth_over
#print axioms filterBoth_proved
end Go.Proofs.Ytnkcfoicbkobbaa
