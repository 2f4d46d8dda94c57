/-
  FilterPlains: for every input the law returns true: when no packet passes, the plain filter, the least packet.
-/
import Derived.Test.YtnkcfoicbkobbaaFlO
import Derived.Test.YtnkcfoicbkobbaaBase6
import Derived.Test.YtnkcfoicbkobbaaRows
namespace Go.Proofs.Ytnkcfoicbkobbaa
open Go.Am Go.ChangeShapes Go.WideShapes Go.ChangeAt Go.RowKit
set_option maxRecDepth 100000

theorem u8_arg {H : Type} {L : List RoE} {a : AV} {d : DataW H} (h : ArgD Try.prog L 8 23 a d) : ∃ k m, (∀ (ρ : Env) v, VR ρ a v → VR ρ (.slice true (.ro k) 0 m) v) ∧ okI .u8 (GL L k) 0 m = true := by
  have h := ArgD.slice (e := 5) (by kernel_rfl) h
  rcases TyD.asInts (n := 6) (kd := .u8) (e := 5) (by kernel_rfl) (by kernel_rfl) (by kernel_rfl) h with ⟨h1, _⟩ | ⟨k, ds, sp, g1, rfl, g3, g4⟩
  · simp only [List.cons.injEq, and_true] at h1
    subst h1
    exact ⟨L.length, 0, fun ρ v hv => VR_nils _ _ hv, okI_of fun j hj => by omega⟩
  · simp only [List.cons.injEq, and_true] at g1
    subst g1
    exact ⟨k, ds.length, fun ρ v hv => VR_may hv, g4.ok⟩
theorem plains_main {H : Type} (L : List RoE) (B : Nat) (xs : List AV) (ds : List (DataW H)) (hA : ArgDs Try.prog L 8 [22, 23] xs ds) : ACalls ⟨Try.prog, GL L, B⟩ 4 xs [] fun v _ => v = .bool true := by
  obtain ⟨a, _, d1, _, rfl, rfl, h1, hA⟩ := hA.cons
  obtain ⟨b, _, d2, _, rfl, rfl, h2, hA⟩ := hA.cons
  obtain ⟨rfl, rfl⟩ := hA.nil
  obtain ⟨k, m, hv, hk⟩ := ArgD.rows (n := 5) (kd := .i64) (z := 3) (e := 52) (by kernel_rfl) (by kernel_rfl) h1
  obtain ⟨k2, m2, hv2, hk2⟩ := u8_arg h2
  refine ACalls.weaken (fp_call (GL L) B k m k2 m2 hk.ok hk2) ?_
  intro ρ vs h
  simp only [VRs] at h ⊢
  obtain ⟨v, vs', r1, r2, w, ws, r3, r4, r5⟩ := h
  exact ⟨v, vs', r1, hv ρ v r2, w, ws, r3, hv2 ρ w r4, r5⟩

theorem filterPlains_lifted (os : Os) (started : os.Started) (H : Type) (enc : TypeId × Value → H) :
    ReturnsInHanded {} Try.checked os 4 .any (Rows.filterPlainsSpec.pre6 enc Try.prog Try.f4 Rows.filterPlainsRow.domain false) (Rows.filterPlainsSpec.post enc Try.prog Try.f4 false true false false) := by
  refine returnsInHanded_of_change (C := Try.checked) (by kernel_rfl) started (by kernel_rfl) Try.func4
    (ChangeSpec.witness6 (enc := enc) (C := Try.checked) false ⟨#[], #[.slice none 0 0, .slice none 0 0], []⟩ 8 (by kernel_rfl) (by kernel_rfl) (by kernel_rfl) (by kernel_rfl)) ?_
  intro W base args ds gs before hval hW hcnd _
  have hpar : Try.f4.params.toList = [22, 23] := by kernel_rfl
  have hW' := hW
  obtain ⟨p, q, hA, _⟩ := hW'
  refine law_contract (n := 8) (tb := 4) (by kernel_rfl) (fun t ht => ?_) (by kernel_rfl) (by kernel_rfl) rfl hval hW ?_ ?_
  · rw [hpar] at ht
    simp only [List.mem_cons, List.not_mem_nil, or_false] at ht
    rcases ht with rfl | rfl
    · exact ⟨by kernel_rfl, by kernel_rfl, of_decide_eq_true (by kernel_rfl)⟩
    · exact ⟨by kernel_rfl, by kernel_rfl, of_decide_eq_true (by kernel_rfl)⟩
  · have hlen := (DataW.TrodAll.len hA).2
    rw [hpar] at hlen
    match ds, hlen with
    | [d1, d2], _ => rfl
  · intro L B xs _ hA
    rw [hpar] at hA
    exact plains_main L B xs ds hA
theorem filterPlains_over : Rows.filterPlainsRow.holds Try.pinned (OpenSpec.ofChange Rows.filterPlainsSpec) :=
  OpenClaim.holds_of_wide 4 Try.f4 rfl rfl rfl rfl rfl rfl rfl ⟨rfl, rfl, rfl, rfl, rfl⟩ rfl rfl rfl rfl rfl (by kernel_rfl) Try.func4 (by kernel_rfl)
    (of_decide_eq_true (by kernel_rfl)) (by unfold Func.isWrapper; first | (rw [if_pos (by decide +kernel)]; kernel_rfl) | (rw [if_neg (by decide +kernel)]; exact ⟨rfl, rfl⟩))
    (fun os started H enc _ => filterPlains_lifted os started H enc)
theorem filterPlains_proved : Rows.FilterPlainsSaid := filterPlains_over
#print axioms filterPlains_proved
end Go.Proofs.Ytnkcfoicbkobbaa
