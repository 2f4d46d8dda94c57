/-
  WireReads, for what is of bulk at most 1048576: the law returns true: call by call the reader answers just what the chapter says.
-/
import Derived.Test.YtcodkoholbmkkaaWrI
import Derived.Test.YtcodkoholbmkkaaWrArg
namespace Go.Proofs.Ytcodkoholbmkkaa
open Go.Am Go.ChangeShapes Go.WideShapes Go.ChangeAt Go.RowKit
set_option maxRecDepth 100000

theorem okSc_of {L : List RoE} {k m : Nat} (h : IntsAt L .i64 k (m * 2)) : okScU (GL L) [.ptr (.ro k) m] = true := by
  simp only [okScU, Bool.and_eq_true, leB_iff, List.all_eq_true]
  refine ⟨fun v hv => ?_, by rw [h.len]; omega⟩
  obtain ⟨j, hj⟩ := List.getElem?_of_mem hv
  have hlt : j < m * 2 := by rw [← h.len]; exact (List.getElem?_eq_some_iff.1 hj).1
  obtain ⟨i, rfl⟩ := h.flat v hv
  have hw := h.wf j hlt
  have e : getI (GL L k) j = i := by simp [getI, hj]
  rw [e] at hw
  have := wf_i64 hw
  simp [i64c]; omega
theorem reads_main {H : Type} (L : List RoE) (B : Nat) (xs : List AV) (ds : List (DataW H)) (_ : ∀ k, (GL L k).all norw = true) (hA : ArgDs Try.prog L 8 [23, 58] xs ds) (hk : Rows.uptoBulkAll ds ≤ 1048576) :
    ACalls ⟨Try.prog, GL L, B⟩ 6 xs [] fun v _ => v = .bool true := by
  obtain ⟨a, _, d1, _, rfl, rfl, h1, hA⟩ := hA.cons
  obtain ⟨b, _, d2, _, rfl, rfl, h2, hA⟩ := hA.cons
  obtain ⟨rfl, rfl⟩ := hA.nil
  simp only [Rows.uptoBulkAll] at hk
  have h1 := ArgD.slice (e := 5) (by kernel_rfl) h1
  obtain ⟨k, n, x, e1, hv1, hi1, hb1⟩ := u8arg h1
  simp only [List.cons.injEq, and_true] at e1
  subst e1
  obtain ⟨k2, n2, hv2, hi2⟩ := ArgD.rows (n := 5) (kd := .i64) (z := 2) (e := 64) (by kernel_rfl) (by kernel_rfl) h2
  refine ACalls.weaken (rd_call (GL L) B k n k2 n2 hi1.len (b8s_of hi1) (by omega) (okSc_of hi2)) ?_
  intro ρ vs h
  simp only [VRs] at h ⊢
  obtain ⟨v, vs', r1, r2, v2, vs2, r3, r4, r5⟩ := h
  exact ⟨v, vs', r1, hv1 ρ v r2, v2, vs2, r3, hv2 ρ v2 r4, r5⟩

theorem wireReads_lifted (os : Os) (started : os.Started) (H : Type) (enc : TypeId × Value → H) (F : Stop.Interp) :
    ReturnsInHanded {} Try.checked os 6 .any ((Rows.OpenSpec.upto Rows.wireReadsSpec).pre6 enc Try.prog Try.f6 Rows.wireReadsUptoRow.domain false) (((Rows.OpenSpec.upto Rows.wireReadsSpec).at F).post enc Try.prog Try.f6 false true false false) := by
  refine returnsInHanded_of_cond (C := Try.checked) (s := Rows.OpenSpec.upto Rows.wireReadsSpec) (k := Rows.uptoSmall) rfl (by kernel_rfl) started (by kernel_rfl) Try.func6
    (OpenSpec.witness (enc := enc) (C := Try.checked) (s := Rows.OpenSpec.upto Rows.wireReadsSpec) (k := Rows.uptoSmall) rfl false ⟨#[], #[.slice none 0 0, .slice none 0 0], []⟩ 8 (by kernel_rfl) (by kernel_rfl) (by kernel_rfl)
      (x := ([.nil, .nil], [], [])) (by kernel_rfl) rfl (by kernel_rfl)) ?_
  intro W base args ds gs before hval hW _ hk _
  have hW' := hW
  obtain ⟨p, q, hA, hV, rfl, _⟩ := hW'
  obtain ⟨rfl, rfl⟩ := trodVars_none hV
  have hk : Rows.uptoBulkAll ds ≤ 1048576 := by rw [List.append_nil] at hk; exact of_decide_eq_true hk
  have hpar : Try.f6.params.toList = [23, 58] := by kernel_rfl
  refine law_contract (n := 8) (tb := 4) (by kernel_rfl) (fun t ht => ?_) (by kernel_rfl) (by kernel_rfl) rfl hval hW ?_ ?_
  · rw [hpar] at ht
    simp only [List.mem_cons, List.not_mem_nil, or_false] at ht
    rcases ht with rfl | rfl
    · exact ⟨by kernel_rfl, by kernel_rfl, of_decide_eq_true (by kernel_rfl)⟩
    · exact ⟨by kernel_rfl, by kernel_rfl, of_decide_eq_true (by kernel_rfl)⟩
  · have hlen := (DataW.TrodAll.len hA).2
    rw [hpar] at hlen
    match ds, hlen with
    | [d1, d2], _ => rfl
  · intro L B xs hN hA
    rw [hpar] at hA
    exact reads_main L B xs ds hN hA hk
theorem wireReads_over : Rows.wireReadsUptoRow.holds Try.pinned (Rows.OpenSpec.upto Rows.wireReadsSpec) :=
  OpenClaim.holds_of_cond 6 Try.f6 rfl rfl rfl rfl rfl rfl rfl ⟨rfl, rfl, rfl, rfl, rfl⟩ rfl rfl rfl rfl rfl (by kernel_rfl) Try.func6 (by kernel_rfl)
    (of_decide_eq_true (by kernel_rfl)) (by unfold Func.isWrapper; first | (rw [if_pos (by decide +kernel)]; kernel_rfl) | (rw [if_neg (by decide +kernel)]; exact ⟨rfl, rfl⟩))
    (fun os started H enc _ F => wireReads_lifted os started H enc F)
theorem wireReadsUpto_proved : Rows.WireReadsUptoSaid := wireReads_over
#print axioms wireReadsUpto_proved
end Go.Proofs.Ytcodkoholbmkkaa
