/-
  WireLists, for what is of bulk at most 1048576: the law returns true: lists of pairs are written and read, there and back; what is cut short is refused.
-/
import Derived.Test.YtcodkoholbmkkaaWrO2
import Derived.Test.YtcodkoholbmkkaaWrArg
namespace Go.Proofs.Ytcodkoholbmkkaa
open Go.Am Go.ChangeShapes Go.WideShapes Go.ChangeAt Go.RowKit
set_option maxRecDepth 100000

/-- an array of two numbers -/
theorem pair_cells {H : Type} {L : List RoE} {n : Nat} {cs : List AV} {d : DataW H} (h : TyD Try.prog L (n + 2) 51 cs d) : cs.length = 2 ∧ ∀ j, j < 2 → ∃ i, cs[j]? = some (.int .u64 i) ∧ (Lit.int .u64 i).wf = true := by
  have c51 : Try.prog.cellsOf 51 = 2 := by kernel_rfl
  have c22 : Try.prog.cellsOf 22 = 1 := by kernel_rfl
  obtain ⟨g1, ds, g2, g3, g4⟩ := TyD.asArray (m := 2) (e := 22) (by kernel_rfl) h
  rw [c51] at g1
  rw [c22] at g4
  refine ⟨g1, fun j hj => ?_⟩
  have hl : j < ds.length := by omega
  obtain ⟨i, e1, e2, _⟩ := TyD.asInt (k := .u64) (by kernel_rfl) (g4 j ds[j] (List.getElem?_eq_getElem hl))
  refine ⟨i, ?_, e2⟩
  have := congrArg (fun l : List AV => l[0]?) e1
  simpa only [List.getElem?_take, List.getElem?_drop, List.getElem?_cons_zero, Nat.add_zero, Nat.mul_one, Nat.lt_one_iff, if_true] using this
/-- a list of pairs -/
theorem pairs_arg {H : Type} {L : List RoE} {a : AV} {d : DataW H} (h : ArgD Try.prog L 8 50 a d) :
    ∃ k m, (∀ (ρ : Env) v, VR ρ a v → VR ρ (.slice true (.ro k) 0 m) v) ∧ (GL L k).length = m * 2 ∧ (GL L k).all u64c = true ∧ m ≤ Rows.uptoBulk d := by
  have c51 : Try.prog.cellsOf 51 = 2 := by kernel_rfl
  rcases TyD.asSlice (e := 51) (by kernel_rfl) (ArgD.slice (e := 51) (by kernel_rfl) h) with ⟨h1, _⟩ | ⟨k, ds, sp, en, h1, h2, h3, h4, h5, h6⟩
  · simp only [List.cons.injEq, and_true] at h1
    subst h1
    exact ⟨L.length, 0, fun ρ v hv => VR_nils _ _ hv, by rw [GL_out (Nat.le_refl _)]; rfl, by rw [GL_out (Nat.le_refl _)]; rfl, Nat.zero_le _⟩
  · simp only [List.cons.injEq, and_true] at h1
    subst h1 h2
    rw [c51] at h4 h6
    have hG : GL L k = en.cells := GL_eq h3
    refine ⟨k, ds.length, fun ρ v hv => VR_may hv, by rw [hG, h4], ?_, ?_⟩
    · rw [hG, List.all_eq_true]
      intro v hv
      obtain ⟨j, hj⟩ := List.getElem?_of_mem hv
      have hlt : j < ds.length * 2 := by rw [← h4]; exact (List.getElem?_eq_some_iff.1 hj).1
      have hq : j / 2 < ds.length := by omega
      obtain ⟨_, g2⟩ := pair_cells (h6 (j / 2) ds[j / 2] (List.getElem?_eq_getElem hq))
      obtain ⟨i, e1, e2⟩ := g2 (j % 2) (by omega)
      rw [List.getElem?_take, if_pos (by omega), List.getElem?_drop, show j / 2 * 2 + j % 2 = j by omega, hj] at e1
      simp only [Option.some.injEq] at e1
      subst e1
      have := wf_u64 e2
      simp [u64c]; omega
    · have := length_le ds
      simp only [Rows.uptoBulk]; omega
theorem lists_main {H : Type} (L : List RoE) (B : Nat) (xs : List AV) (ds : List (DataW H)) (_ : ∀ k, (GL L k).all norw = true) (hA : ArgDs Try.prog L 8 [50, 3] xs ds) (hk : Rows.uptoBulkAll ds ≤ 1048576) :
    ACalls ⟨Try.prog, GL L, B⟩ 5 xs [] fun v _ => v = .bool true := by
  obtain ⟨a, _, d1, _, rfl, rfl, h1, hA⟩ := hA.cons
  obtain ⟨b, _, d2, _, rfl, rfl, h2, hA⟩ := hA.cons
  obtain ⟨rfl, rfl⟩ := hA.nil
  simp only [Rows.uptoBulkAll] at hk
  obtain ⟨k, m, hv, hl, hu, hb⟩ := pairs_arg h1
  obtain ⟨c, rfl, hc⟩ := ArgD.i64 (n := 7) (k := .i64) (by kernel_rfl) h2
  refine ACalls.weaken (ll_call (GL L) B k m c hl hu (by omega) (wf_i64 hc)) ?_
  intro ρ vs h
  simp only [VRs] at h ⊢
  obtain ⟨v, vs', r1, r2, v2, vs2, r3, r4, r5⟩ := h
  exact ⟨v, vs', r1, hv ρ v r2, v2, vs2, r3, r4, r5⟩

theorem wireLists_lifted (os : Os) (started : os.Started) (H : Type) (enc : TypeId × Value → H) (F : Stop.Interp) :
    ReturnsInHanded {} Try.checked os 5 .any ((Rows.OpenSpec.upto Rows.wireListsSpec).pre6 enc Try.prog Try.f5 Rows.wireListsUptoRow.domain false) (((Rows.OpenSpec.upto Rows.wireListsSpec).at F).post enc Try.prog Try.f5 false true false false) := by
  refine returnsInHanded_of_cond (C := Try.checked) (s := Rows.OpenSpec.upto Rows.wireListsSpec) (k := Rows.uptoSmall) rfl (by kernel_rfl) started (by kernel_rfl) Try.func5
    (OpenSpec.witness (enc := enc) (C := Try.checked) (s := Rows.OpenSpec.upto Rows.wireListsSpec) (k := Rows.uptoSmall) rfl false ⟨#[], #[.slice none 0 0, .int .i64 0], []⟩ 8 (by kernel_rfl) (by kernel_rfl) (by kernel_rfl)
      (x := ([.nil, .lit (.int .i64 0)], [], [])) (by kernel_rfl) rfl (by kernel_rfl)) ?_
  intro W base args ds gs before hval hW _ hk _
  have hW' := hW
  obtain ⟨p, q, hA, hV, rfl, _⟩ := hW'
  obtain ⟨rfl, rfl⟩ := trodVars_none hV
  have hk : Rows.uptoBulkAll ds ≤ 1048576 := by rw [List.append_nil] at hk; exact of_decide_eq_true hk
  have hpar : Try.f5.params.toList = [50, 3] := by kernel_rfl
  refine law_contract (n := 8) (tb := 4) (by kernel_rfl) (fun t ht => ?_) (by kernel_rfl) (by kernel_rfl) rfl hval hW ?_ ?_
  · rw [hpar] at ht
    simp only [List.mem_cons, List.not_mem_nil, or_false] at ht
    rcases ht with rfl | rfl
    · exact ⟨by kernel_rfl, by kernel_rfl, of_decide_eq_true (by kernel_rfl)⟩
    · exact ⟨by kernel_rfl, by kernel_rfl, of_decide_eq_true (by kernel_rfl)⟩
  · have hlen := (DataW.TrodAll.len hA).2
    rw [hpar] at hlen
    match ds, hlen with
    | [d1, d2], _ => rfl
  · intro L B xs hN hA
    rw [hpar] at hA
    exact lists_main L B xs ds hN hA hk
theorem wireLists_over : Rows.wireListsUptoRow.holds Try.pinned (Rows.OpenSpec.upto Rows.wireListsSpec) :=
  OpenClaim.holds_of_cond 5 Try.f5 rfl rfl rfl rfl rfl rfl rfl ⟨rfl, rfl, rfl, rfl, rfl⟩ rfl rfl rfl rfl rfl (by kernel_rfl) Try.func5 (by kernel_rfl)
    (of_decide_eq_true (by kernel_rfl)) (by unfold Func.isWrapper; first | (rw [if_pos (by decide +kernel)]; kernel_rfl) | (rw [if_neg (by decide +kernel)]; exact ⟨rfl, rfl⟩))
    (fun os started H enc _ F => wireLists_lifted os started H enc F)
theorem wireListsUpto_proved : Rows.WireListsUptoSaid := wireLists_over
#print axioms wireListsUpto_proved
end Go.Proofs.Ytcodkoholbmkkaa
