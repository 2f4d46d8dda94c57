/-
  ImageOf, for what is of bulk at most 1048576: the law returns true: code, places and noughts make the document's image, or are refused; two images are the same just if all their fields are.
-/
import Derived.Test.YthejjolnlngahaaImArg
import Derived.Test.YthejjolnlngahaaRows
namespace Go.Proofs.Ythejjolnlngahaa
open Go.Am Go.ChangeShapes Go.WideShapes Go.ChangeAt Go.RowKit
set_option maxRecDepth 100000

theorem of_main {H : Type} (L : List RoE) (B : Nat) (xs : List AV) (ds : List (DataW H)) (_ : ∀ k, (GL L k).all norw = true) (hA : ArgDs Try.prog L 8 [37, 23, 38] xs ds) (_ : Rows.uptoBulkAll ds ≤ 1048576) :
    ACalls ⟨Try.prog, GL L, B⟩ 4 xs [] fun v _ => v = .bool true := by
  obtain ⟨a, _, d1, _, rfl, rfl, h1, hA⟩ := hA.cons
  obtain ⟨b, _, d2, _, rfl, rfl, h2, hA⟩ := hA.cons
  obtain ⟨g, _, d3, _, rfl, rfl, h3, hA⟩ := hA.cons
  obtain ⟨rfl, rfl⟩ := hA.nil
  obtain ⟨kc, n, v1, o1, o2⟩ := im_u8 (n := 6) (ArgD.slice (e := 5) (by kernel_rfl) h1)
  obtain ⟨kq, m, v2, o3, o4, o5⟩ := im_pls (n := 5) (ArgD.slice (e := 40) (by kernel_rfl) h2)
  obtain ⟨cs, rfl, h4⟩ := ArgD.array (m := 2) (e := 25) (by kernel_rfl) h3
  obtain ⟨l1, es, l2, l3, l4⟩ := TyD.asArray (m := 2) (e := 25) (by kernel_rfl) h4
  rw [show Try.prog.cellsOf 38 = 6 by kernel_rfl] at l1
  rw [show Try.prog.cellsOf 25 = 3 by kernel_rfl] at l4
  match cs, l1, es, l3 with
  | [c0, c1, c2, c3, c4, c5], _, [e0, e1], _ =>
    obtain ⟨x, k, c, kp, d, w1, i1⟩ := im_img (n := 2) (l4 0 e0 rfl)
    obtain ⟨y, h, e, hp, f, w2, i2⟩ := im_img (n := 2) (l4 1 e1 rfl)
    refine ACalls.weaken (of_call (GL L) B kc n kq m k c kp d h e hp f x y o1 o2 o3 o4 o5 i1 i2) ?_
    intro ρ vs hv
    simp only [VRs, VR] at hv ⊢
    obtain ⟨z1, s1, r1, q1, z2, s2, r2, q2, z3, s3, r3, ⟨us, r4, q3⟩, q4⟩ := hv
    have q1' := v1 ρ z1 q1
    have q2' := v2 ρ z2 q2
    simp only [VR] at q1' q2'
    refine ⟨z1, s1, r1, q1', z2, s2, r2, q2', z3, s3, r3, ⟨us, r4, ?_⟩, q4⟩
    have p0 : VRs ρ [c0, c1, c2, c3, c4, c5] us.toList := by simp only [VRs]; exact q3
    have p1 := VRs_take p0 3
    have p2 := VRs_drop p0 3
    have p3 := VRs_append (w1 ρ _ p1) (w2 ρ _ p2)
    rw [List.take_append_drop] at p3
    simpa only [VRs, VR, List.cons_append, List.nil_append] using p3

theorem imageOf_lifted (os : Os) (started : os.Started) (H : Type) (enc : TypeId × Value → H) (F : Stop.Interp) :
    ReturnsInHanded {} Try.checked os 4 .any ((Rows.OpenSpec.upto Rows.imageOfSpec).pre6 enc Try.prog Try.f4 Rows.imageOfUptoRow.domain false) (((Rows.OpenSpec.upto Rows.imageOfSpec).at F).post enc Try.prog Try.f4 false true false false) := by
  refine returnsInHanded_of_cond (C := Try.checked) (s := Rows.OpenSpec.upto Rows.imageOfSpec) (k := Rows.uptoSmall) rfl (by kernel_rfl) started (by kernel_rfl) Try.func4
    (OpenSpec.witness (enc := enc) (C := Try.checked) (s := Rows.OpenSpec.upto Rows.imageOfSpec) (k := Rows.uptoSmall) rfl false ⟨#[], #[.slice none 0 0, .slice none 0 0, (.agg #[.int .i64 0, .slice none 0 0, .slice none 0 0, .int .i64 0, .slice none 0 0, .slice none 0 0])], []⟩ 8 (by kernel_rfl) (by kernel_rfl) (by kernel_rfl)
      (x := ([.nil, .nil, (.agg [.agg [.lit (.int .i64 0), .nil, .nil], .agg [.lit (.int .i64 0), .nil, .nil]])], [], [])) (by kernel_rfl) rfl (by kernel_rfl)) ?_
  intro W base args ds gs before hval hW _ hk _
  have hW' := hW
  obtain ⟨p, q, hA, hV, rfl, _⟩ := hW'
  obtain ⟨rfl, rfl⟩ := trodVars_none hV
  have hk : Rows.uptoBulkAll ds ≤ 1048576 := by rw [List.append_nil] at hk; exact of_decide_eq_true hk
  have hpar : Try.f4.params.toList = [37, 23, 38] := by kernel_rfl
  refine law_contract (n := 8) (tb := 4) (by kernel_rfl) (fun t ht => ?_) (by kernel_rfl) (by kernel_rfl) rfl hval hW ?_ ?_
  · rw [hpar] at ht
    simp only [List.mem_cons, List.not_mem_nil, or_false] at ht
    rcases ht with rfl | rfl | rfl
    · exact ⟨by kernel_rfl, by kernel_rfl, of_decide_eq_true (by kernel_rfl)⟩
    · exact ⟨by kernel_rfl, by kernel_rfl, of_decide_eq_true (by kernel_rfl)⟩
    · exact ⟨by kernel_rfl, by kernel_rfl, of_decide_eq_true (by kernel_rfl)⟩
  · have hlen := (DataW.TrodAll.len hA).2
    rw [hpar] at hlen
    match ds, hlen with
    | [d1, d2, d3], _ => rfl
  · intro L B xs hN hA
    rw [hpar] at hA
    exact of_main L B xs ds hN hA hk
theorem imageOf_over : Rows.imageOfUptoRow.holds Try.pinned (Rows.OpenSpec.upto Rows.imageOfSpec) :=
  OpenClaim.holds_of_cond 4 Try.f4 rfl rfl rfl rfl rfl rfl rfl ⟨rfl, rfl, rfl, rfl, rfl⟩ rfl rfl rfl rfl rfl (by kernel_rfl) Try.func4 (by kernel_rfl)
    (of_decide_eq_true (by kernel_rfl)) (by unfold Func.isWrapper; first | (rw [if_pos (by decide +kernel)]; kernel_rfl) | (rw [if_neg (by decide +kernel)]; exact ⟨rfl, rfl⟩))
    (fun os started H enc _ F => imageOf_lifted os started H enc F)
theorem imageOfUpto_proved : Rows.ImageOfUptoSaid := imageOf_over
#print axioms imageOfUpto_proved
end Go.Proofs.Ythejjolnlngahaa
