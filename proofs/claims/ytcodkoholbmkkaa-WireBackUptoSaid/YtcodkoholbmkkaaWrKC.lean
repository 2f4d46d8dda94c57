/-
  WireBack, for what is of bulk at most 1048576: the law returns true: what was written is read as it was, a form cut short is refused, what is read has just the form that was read.
-/
import Derived.Test.YtcodkoholbmkkaaWrK2
import Derived.Test.YtcodkoholbmkkaaWrArg
namespace Go.Proofs.Ytcodkoholbmkkaa
open Go.Am Go.ChangeShapes Go.WideShapes Go.ChangeAt Go.RowKit
set_option maxRecDepth 100000

theorem b8s_of {L : List RoE} {k m : Nat} (h : IntsAt L .u8 k m) : b8s (GL L k) = true := by
  simp only [b8s, List.all_eq_true]
  intro v hv
  obtain ⟨j, hj⟩ := List.getElem?_of_mem hv
  have hlt : j < m := by rw [← h.len]; exact (List.getElem?_eq_some_iff.1 hj).1
  obtain ⟨i, rfl⟩ := h.flat v hv
  have hw := h.wf j hlt
  have e : getI (GL L k) j = i := by simp [getI, hj]
  rw [e] at hw
  have := wf_u8 hw
  simp [b8]; omega
theorem back_main {H : Type} (L : List RoE) (B : Nat) (xs : List AV) (ds : List (DataW H)) (_ : ∀ k, (GL L k).all norw = true) (hA : ArgDs Try.prog L 8 [25, 23] xs ds) (hk : Rows.uptoBulkAll ds ≤ 1048576) :
    ACalls ⟨Try.prog, GL L, B⟩ 4 xs [] fun v _ => v = .bool true := by
  obtain ⟨a, _, d1, _, rfl, rfl, h1, hA⟩ := hA.cons
  obtain ⟨b, _, d2, _, rfl, rfl, h2, hA⟩ := hA.cons
  obtain ⟨rfl, rfl⟩ := hA.nil
  simp only [Rows.uptoBulkAll] at hk
  obtain ⟨n, m, f, k5, n5, hv, hn, hm, hi, hb⟩ := things_arg h1
  have h2 := ArgD.slice (e := 5) (by kernel_rfl) h2
  obtain ⟨k, n7, x, e1, hv2, hi2, hb2⟩ := u8arg h2
  simp only [List.cons.injEq, and_true] at e1
  subst e1
  refine ACalls.weaken (bk_call (GL L) B n m f k5 n5 k n7 hn hm hi.len (b8s_of hi) (by omega) hi2.len (b8s_of hi2) (by omega)) ?_
  intro ρ vs h
  simp only [VRs] at h ⊢
  obtain ⟨v, vs', r1, r2, v2, vs2, r3, r4, r5⟩ := h
  exact ⟨v, vs', r1, hv ρ v r2, v2, vs2, r3, hv2 ρ v2 r4, r5⟩

theorem wireBack_lifted (os : Os) (started : os.Started) (H : Type) (enc : TypeId × Value → H) (F : Stop.Interp) :
    ReturnsInHanded {} Try.checked os 4 .any ((Rows.OpenSpec.upto Rows.wireBackSpec).pre6 enc Try.prog Try.f4 Rows.wireBackUptoRow.domain false) (((Rows.OpenSpec.upto Rows.wireBackSpec).at F).post enc Try.prog Try.f4 false true false false) := by
  refine returnsInHanded_of_cond (C := Try.checked) (s := Rows.OpenSpec.upto Rows.wireBackSpec) (k := Rows.uptoSmall) rfl (by kernel_rfl) started (by kernel_rfl) Try.func4
    (OpenSpec.witness (enc := enc) (C := Try.checked) (s := Rows.OpenSpec.upto Rows.wireBackSpec) (k := Rows.uptoSmall) rfl false ⟨#[], #[(.agg #[.int .u64 0, .int .i64 0, .bool false, .slice none 0 0]), .slice none 0 0], []⟩ 8 (by kernel_rfl) (by kernel_rfl) (by kernel_rfl)
      (x := ([(.agg [.lit (.int .u64 0), .lit (.int .i64 0), .lit (.bool false), .nil]), .nil], [], [])) (by kernel_rfl) rfl (by kernel_rfl)) ?_
  intro W base args ds gs before hval hW _ hk _
  have hW' := hW
  obtain ⟨p, q, hA, hV, rfl, _⟩ := hW'
  obtain ⟨rfl, rfl⟩ := trodVars_none hV
  have hk : Rows.uptoBulkAll ds ≤ 1048576 := by rw [List.append_nil] at hk; exact of_decide_eq_true hk
  have hpar : Try.f4.params.toList = [25, 23] := by kernel_rfl
  refine law_contract (n := 8) (tb := 4) (by kernel_rfl) (fun t ht => ?_) (by kernel_rfl) (by kernel_rfl) rfl hval hW ?_ ?_
  · rw [hpar] at ht
    simp only [List.mem_cons, List.not_mem_nil, or_false] at ht
    rcases ht with rfl | rfl
    · exact ⟨by kernel_rfl, by kernel_rfl, of_decide_eq_true (by kernel_rfl)⟩
    · exact ⟨by kernel_rfl, by kernel_rfl, of_decide_eq_true (by kernel_rfl)⟩
  · have hlen := (DataW.TrodAll.len hA).2
    rw [hpar] at hlen
    match ds, hlen with
    | [d1, d2], _ => rfl
  · intro L B xs hN hA
    rw [hpar] at hA
    exact back_main L B xs ds hN hA hk
theorem wireBack_over : Rows.wireBackUptoRow.holds Try.pinned (Rows.OpenSpec.upto Rows.wireBackSpec) :=
  OpenClaim.holds_of_cond 4 Try.f4 rfl rfl rfl rfl rfl rfl rfl ⟨rfl, rfl, rfl, rfl, rfl⟩ rfl rfl rfl rfl rfl (by kernel_rfl) Try.func4 (by kernel_rfl)
    (of_decide_eq_true (by kernel_rfl)) (by unfold Func.isWrapper; first | (rw [if_pos (by decide +kernel)]; kernel_rfl) | (rw [if_neg (by decide +kernel)]; exact ⟨rfl, rfl⟩))
    (fun os started H enc _ F => wireBack_lifted os started H enc F)
theorem wireBackUpto_proved : Rows.WireBackUptoSaid := wireBack_over
#print axioms wireBackUpto_proved
end Go.Proofs.Ytcodkoholbmkkaa
