/-
  FilterHomes: for every input the law returns true: the filters of two accounts' homes are apart, a home's packets are its account's.
-/
import Derived.Test.YtnkcfoicbkobbaaFlP
import Derived.Test.YtnkcfoicbkobbaaBase6
import Derived.Test.YtnkcfoicbkobbaaRows
namespace Go.Proofs.Ytnkcfoicbkobbaa
open Go.Am Go.ChangeShapes Go.WideShapes Go.ChangeAt Go.RowKit
set_option maxRecDepth 100000

theorem u8_arg8 {H : Type} {L : List RoE} {a : AV} {d : DataW H} (h : ArgD Try.prog L 8 23 a d) : ∃ k m, (∀ (ρ : Env) v, VR ρ a v → VR ρ (.slice true (.ro k) 0 m) v) ∧ okI .u8 (GL L k) 0 m = true ∧ (0 ≤ getI (GL L k) 0 ∧ getI (GL L k) 0 ≤ 255) := by
  have h := ArgD.slice (e := 5) (by kernel_rfl) h
  rcases TyD.asInts (n := 6) (kd := .u8) (e := 5) (by kernel_rfl) (by kernel_rfl) (by kernel_rfl) h with ⟨h1, _⟩ | ⟨k, ds, sp, g1, rfl, g3, g4⟩
  · simp only [List.cons.injEq, and_true] at h1
    subst h1
    refine ⟨L.length, 0, fun ρ v hv => VR_nils _ _ hv, okI_of fun j hj => by omega, ?_⟩
    have : GL L L.length = [] := by unfold GL; simp
    rw [this]; decide
  · simp only [List.cons.injEq, and_true] at g1
    subst g1
    refine ⟨k, ds.length, fun ρ v hv => VR_may hv, g4.ok, ?_⟩
    by_cases e : 0 < ds.length
    · exact wf_u8 (g4.wf 0 e)
    · have hl := g4.len
      have : GL L k = [] := List.eq_nil_of_length_eq_zero (by omega)
      rw [this]; decide
theorem homes_main {H : Type} (L : List RoE) (B : Nat) (xs : List AV) (ds : List (DataW H)) (hA : ArgDs Try.prog L 8 [3, 3, 22, 22, 23] xs ds) : ACalls ⟨Try.prog, GL L, B⟩ 5 xs [] fun v _ => v = .bool true := by
  obtain ⟨x, _, d1, _, rfl, rfl, h1, hA⟩ := hA.cons
  obtain ⟨y, _, d2, _, rfl, rfl, h2, hA⟩ := hA.cons
  obtain ⟨f, _, d3, _, rfl, rfl, h3, hA⟩ := hA.cons
  obtain ⟨g, _, d4, _, rfl, rfl, h4, hA⟩ := hA.cons
  obtain ⟨p, _, d5, _, rfl, rfl, h5, hA⟩ := hA.cons
  obtain ⟨rfl, rfl⟩ := hA.nil
  obtain ⟨a, rfl, _⟩ := ArgD.i64 (n := 7) (k := .i64) (by kernel_rfl) h1
  obtain ⟨b, rfl, _⟩ := ArgD.i64 (n := 7) (k := .i64) (by kernel_rfl) h2
  obtain ⟨k, n, hv, hk⟩ := ArgD.rows (n := 5) (kd := .i64) (z := 3) (e := 52) (by kernel_rfl) (by kernel_rfl) h3
  obtain ⟨k2, m, hv2, hk2⟩ := ArgD.rows (n := 5) (kd := .i64) (z := 3) (e := 52) (by kernel_rfl) (by kernel_rfl) h4
  obtain ⟨k3, r, hv3, hk3, h8⟩ := u8_arg8 h5
  refine ACalls.weaken (fh_call (GL L) B k n k2 m k3 r a b hk.ok hk2.ok hk3 h8) ?_
  intro ρ vs h
  simp only [VRs] at h ⊢
  obtain ⟨v1, s1, r1, q1, v2, s2, r2, q2, v3, s3, r3, q3, v4, s4, r4, q4, v5, s5, r5, q5, q6⟩ := h
  exact ⟨v1, s1, r1, q1, v2, s2, r2, q2, v3, s3, r3, hv ρ v3 q3, v4, s4, r4, hv2 ρ v4 q4, v5, s5, r5, hv3 ρ v5 q5, q6⟩

theorem filterHomes_lifted (os : Os) (started : os.Started) (H : Type) (enc : TypeId × Value → H) :
    ReturnsInHanded {} Try.checked os 5 .any (Rows.filterHomesSpec.pre6 enc Try.prog Try.f5 Rows.filterHomesRow.domain false) (Rows.filterHomesSpec.post enc Try.prog Try.f5 false true false false) := by
  refine returnsInHanded_of_change (C := Try.checked) (by kernel_rfl) started (by kernel_rfl) Try.func5
    (ChangeSpec.witness6 (enc := enc) (C := Try.checked) false ⟨#[], #[.int .i64 0, .int .i64 0, .slice none 0 0, .slice none 0 0, .slice none 0 0], []⟩ 8 (by kernel_rfl) (by kernel_rfl) (by kernel_rfl) (by kernel_rfl)) ?_
  intro W base args ds gs before hval hW hcnd _
  have hpar : Try.f5.params.toList = [3, 3, 22, 22, 23] := by kernel_rfl
  have hW' := hW
  obtain ⟨p, q, hA, _⟩ := hW'
  refine law_contract (n := 8) (tb := 4) (by kernel_rfl) (fun t ht => ?_) (by kernel_rfl) (by kernel_rfl) rfl hval hW ?_ ?_
  · rw [hpar] at ht
    simp only [List.mem_cons, List.not_mem_nil, or_false] at ht
    rcases ht with rfl | rfl | rfl | rfl | rfl
    · exact ⟨by kernel_rfl, by kernel_rfl, of_decide_eq_true (by kernel_rfl)⟩
    · exact ⟨by kernel_rfl, by kernel_rfl, of_decide_eq_true (by kernel_rfl)⟩
    · exact ⟨by kernel_rfl, by kernel_rfl, of_decide_eq_true (by kernel_rfl)⟩
    · exact ⟨by kernel_rfl, by kernel_rfl, of_decide_eq_true (by kernel_rfl)⟩
    · exact ⟨by kernel_rfl, by kernel_rfl, of_decide_eq_true (by kernel_rfl)⟩
  · have hlen := (DataW.TrodAll.len hA).2
    rw [hpar] at hlen
    match ds, hlen with
    | [d1, d2, d3, d4, d5], _ => rfl
  · intro L B xs _ hA
    rw [hpar] at hA
    exact homes_main L B xs ds hA
theorem filterHomes_over : Rows.filterHomesRow.holds Try.pinned (OpenSpec.ofChange Rows.filterHomesSpec) :=
  OpenClaim.holds_of_wide 5 Try.f5 rfl rfl rfl rfl rfl rfl rfl ⟨rfl, rfl, rfl, rfl, rfl⟩ rfl rfl rfl rfl rfl (by kernel_rfl) Try.func5 (by kernel_rfl)
    (of_decide_eq_true (by kernel_rfl)) (by unfold Func.isWrapper; first | (rw [if_pos (by decide +kernel)]; kernel_rfl) | (rw [if_neg (by decide +kernel)]; exact ⟨rfl, rfl⟩))
    (fun os started H enc _ => filterHomes_lifted os started H enc)
theorem filterHomes_proved : Rows.FilterHomesSaid := filterHomes_over
#print axioms filterHomes_proved
end Go.Proofs.Ytnkcfoicbkobbaa
