/-
  CrcTells: for every input the law returns true: texts that are as long and differ in one to three bits, or within 32 bits that follow each other, have unlike sums; and sums are linear.
-/
import Derived.Test.YtddhldihemfkcaaCrcLaw4
import Derived.Test.YtddhldihemfkcaaAmArgs
import Derived.Test.YtddhldihemfkcaaRows
namespace Go.Proofs.Ytddhldihemfkcaa
open Go.Am Go.ChangeShapes Go.WideShapes Go.ChangeAt Go.RowKit Crc
set_option maxRecDepth 100000

/-- one of the two texts -/
theorem text_of {H : Type} {L : List RoE} {m : Nat} {v : AV} {d : DataW H} (h : TyD Try.prog L (m + 2) 24 [v] d) :
    ∃ k n, (∀ ρ cv, VR ρ v cv → VR ρ (.slice true (.ro k) 0 n) cv) ∧ GL L k = bl (ints (GL L k) 0 n) ∧ okI .u8 (GL L k) 0 n = true ∧ ∀ j, j < n → 0 ≤ getI (GL L k) j ∧ getI (GL L k) j < 256 := by
  rcases TyD.asInts (kd := .u8) (e := 5) (by kernel_rfl) (by kernel_rfl) (by kernel_rfl) h with ⟨g1, rfl⟩ | ⟨k, ds, sp, g1, rfl, g3, g4⟩
  · simp only [List.cons.injEq, and_true] at g1
    subst g1
    exact ⟨L.length, 0, fun ρ cv hv => VR_nils _ _ hv, by rw [GL_out (Nat.le_refl _)]; rfl, rfl, fun j hj => by omega⟩
  · simp only [List.cons.injEq, and_true] at g1
    subst g1
    refine ⟨k, ds.length, fun ρ cv hv => VR_may hv, bl_eq g4.ok g4.len, g4.ok, fun j hj => ?_⟩
    have := wf_u8 (g4.wf j hj)
    omega

theorem tells_main {H : Type} (L : List RoE) (B : Nat) (xs : List AV) (ds : List (DataW H)) (hA : ArgDs Try.prog L 8 [32, 33, 23] xs ds) :
    ACalls ⟨Try.prog, GL L, B⟩ 4 xs [] fun v _ => v = .bool true := by
  obtain ⟨a, _, d1, _, rfl, rfl, h1, hA⟩ := hA.cons
  obtain ⟨b, _, d2, _, rfl, rfl, h2, hA⟩ := hA.cons
  obtain ⟨c, _, d3, _, rfl, rfl, h3, hA⟩ := hA.cons
  obtain ⟨rfl, rfl⟩ := hA.nil
  obtain ⟨cs, rfl, k1⟩ := ArgD.array (m := 2) (e := 24) (by kernel_rfl) h1
  obtain ⟨at_, rfl, kk⟩ := ArgD.array (m := 3) (e := 3) (by kernel_rfl) h2
  have h3 := ArgD.int (k := .u32) (by kernel_rfl) h3
  obtain ⟨s, e3, w3, rfl⟩ := TyD.asInt (k := .u32) (by kernel_rfl) h3
  simp only [List.cons.injEq, and_true] at e3
  subst e3
  have ws := wf_u32 w3
  rw [← u_w32 ws]
  have c24 : Try.prog.cellsOf 24 = 1 := by kernel_rfl
  have c3 : Try.prog.cellsOf 3 = 1 := by kernel_rfl
  obtain ⟨l1, e1, rfl, m1, q1⟩ := TyD.asArray (m := 2) (e := 24) (by kernel_rfl) k1
  obtain ⟨l2, e2, rfl, m2, q2⟩ := TyD.asArray (m := 3) (e := 3) (by kernel_rfl) kk
  rw [show Try.prog.cellsOf 32 = 2 by kernel_rfl] at l1
  rw [show Try.prog.cellsOf 33 = 3 by kernel_rfl] at l2
  rw [c24] at q1
  rw [c3] at q2
  match cs, l1, e1, m1, at_, l2, e2, m2 with
  | [v0, v1], _, [x0, x1], _, [t0, t1, t2], _, [y0, y1, y2], _ =>
    have g0 := q1 0 x0 rfl
    have g1 := q1 1 x1 rfl
    simp only [Nat.zero_mul, Nat.one_mul, List.drop_zero, List.take_succ_cons, List.take_zero, List.drop_succ_cons] at g0 g1
    obtain ⟨k, n, a1, a2, a3, a4⟩ := text_of g0
    obtain ⟨k2, n2, b1, b2, b3, b4⟩ := text_of g1
    have p0 := q2 0 y0 rfl
    have p1 := q2 1 y1 rfl
    have p2 := q2 2 y2 rfl
    simp only [Nat.mul_one, List.drop_zero, List.take_succ_cons, List.take_zero, List.drop_succ_cons] at p0 p1 p2
    obtain ⟨i0, r0, _, _⟩ := TyD.asInt (k := .i64) (by kernel_rfl) p0
    obtain ⟨i1, r1, _, _⟩ := TyD.asInt (k := .i64) (by kernel_rfl) p1
    obtain ⟨i2, r2, _, _⟩ := TyD.asInt (k := .i64) (by kernel_rfl) p2
    simp only [List.cons.injEq, and_true] at r0 r1 r2
    subst r0 r1 r2
    refine ACalls.weaken (law2 (GL L) B k n k2 n2 i0 i1 i2 (w32 s) (ints (GL L k) 0 n) (fun _ => a2) (fun _ => ⟨ints_length _ _ _, fun c hc => ?_⟩) b3 b4) ?_
    · simp only [ints, List.mem_map, List.mem_range] at hc
      obtain ⟨j, hj, rfl⟩ := hc
      rw [Nat.zero_add]
      exact a4 j hj
    · intro ρ vs hv
      simp only [VRs, VR] at hv ⊢
      obtain ⟨v, vs', r1, ⟨ca, rfl, x, xs, r3, r4, y, ys, r5, r6, r7⟩, r8⟩ := hv
      have s0 := a1 ρ x r4
      have s1 := b1 ρ y r6
      simp only [VR] at s0 s1
      exact ⟨_, vs', r1, ⟨ca, rfl, x, xs, r3, s0, y, ys, r5, s1, r7⟩, r8⟩

theorem tells_lifted (os : Os) (started : os.Started) (H : Type) (enc : TypeId × Value → H) :
    ReturnsInHanded {} Try.checked os 4 .any (Rows.crcTellsSpec.pre6 enc Try.prog Try.f4 Rows.crcTellsRow.domain false) (Rows.crcTellsSpec.post enc Try.prog Try.f4 false true false false) := by
  refine returnsInHanded_of_change (C := Try.checked) (by kernel_rfl) started (by kernel_rfl) Try.func4
    (ChangeSpec.witness6 (enc := enc) (C := Try.checked) false ⟨#[], #[.agg #[.slice none 0 0, .slice none 0 0], .agg #[.int .i64 0, .int .i64 0, .int .i64 0], .int .u32 0], []⟩ 8 (by kernel_rfl) (by kernel_rfl) (by kernel_rfl) (by kernel_rfl)) ?_
  intro W base args ds gs before hval hW hcnd _
  have hpar : Try.f4.params.toList = [32, 33, 23] := by kernel_rfl
  have hW' := hW
  obtain ⟨p, q, hA, _⟩ := hW'
  refine law_contract (n := 8) (tb := 4) (by kernel_rfl) (fun t ht => ?_) (by kernel_rfl) (by kernel_rfl) rfl hval hW ?_ ?_
  · rw [hpar] at ht
    simp only [List.mem_cons, List.not_mem_nil, or_false] at ht
    rcases ht with rfl | rfl | rfl
    · exact ⟨by kernel_rfl, by kernel_rfl, of_decide_eq_true (by kernel_rfl)⟩
    · exact ⟨by kernel_rfl, by kernel_rfl, of_decide_eq_true (by kernel_rfl)⟩
    · exact ⟨by kernel_rfl, by kernel_rfl, of_decide_eq_true (by kernel_rfl)⟩
  · have hlen := (DataW.TrodAll.len hA).2
    rw [hpar] at hlen
    match ds, hlen with
    | [d1, d2, d3], _ => rfl
  · intro L B xs _ hA
    rw [hpar] at hA
    exact tells_main L B xs ds hA

theorem tells_over : Rows.crcTellsRow.holds Try.pinned (OpenSpec.ofChange Rows.crcTellsSpec) :=
  OpenClaim.holds_of_wide 4 Try.f4 rfl rfl rfl rfl rfl rfl rfl ⟨rfl, rfl, rfl, rfl, rfl⟩ rfl rfl rfl rfl rfl (by kernel_rfl) Try.func4 (by kernel_rfl)
    (of_decide_eq_true (by kernel_rfl)) (by unfold Func.isWrapper; first | (rw [if_pos (by decide +kernel)]; kernel_rfl) | (rw [if_neg (by decide +kernel)]; exact ⟨rfl, rfl⟩))
    (fun os started H enc _ => tells_lifted os started H enc)
theorem crcTells_proved : Rows.CrcTellsSaid := tells_over
#print axioms crcTells_proved
end Go.Proofs.Ytddhldihemfkcaa
