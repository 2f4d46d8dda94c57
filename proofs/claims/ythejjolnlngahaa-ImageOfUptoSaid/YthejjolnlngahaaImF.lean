/-
  Images: which may be: the loops' laws.
-/
import Derived.Test.YthejjolnlngahaaImE
namespace Go.Am
open Go.Proofs
set_option maxRecDepth 100000
theorem hit_eq {cs : List AV} {x : Int} {h : Bool} {k : Nat} (hs : secT cs k = true) (hx : 0 ≤ x ∧ x ≤ 9223372036854775807) : hitB cs x h k = hitR cs x h k := by
  have hs := secB_iff.1 hs
  have hw : 2 ≤ wdF h ∧ wdF h ≤ 4 := by unfold wdF; split <;> omega
  unfold hitB hitR
  by_cases h1 : sA cs k ≤ x
  · rw [decide_eq_true h1, Bool.true_and, Bool.true_and, i64_in (n := x - sA cs k) (by omega), i64_in (n := (sN cs k : Int) - wdF h) (by omega), i64_in (n := sA cs k + (sN cs k : Int)) (by omega)]
    by_cases h2 : x ≤ 8192
    · rw [decide_eq_true h2, Bool.true_and, i64_in (n := x + wdF h) (by omega), Bool.eq_iff_iff, decide_eq_true_iff, decide_eq_true_iff]; omega
    · rw [decide_eq_false h2, Bool.false_and]; exact decide_eq_false (by omega)
  · rw [decide_eq_false h1, Bool.false_and, Bool.false_and]
theorem fstF_congr {p q : Nat → Bool} {n : Nat} (h : ∀ j, j < n → p j = q j) : fstF p n = fstF q n := by
  obtain ⟨a1, a2, a3⟩ := fstF_spec (p := p) (k := n)
  obtain ⟨b1, b2, b3⟩ := fstF_spec (p := q) (k := n)
  rcases Nat.lt_trichotomy (fstF p n) (fstF q n) with h1 | h1 | h1
  · have := a2 (by omega); rw [h _ (by omega), b3 _ h1] at this; simp at this
  · exact h1
  · have := b2 (by omega); rw [← h _ (by omega), a3 _ h1] at this; simp at this
theorem dat_in {cs : List AV} {n : Nat} {x : Int} {h : Bool} (hs : allTo (okS cs) n = true) (hx : 0 ≤ x ∧ x ≤ 9223372036854775807) : datN cs n x h = inN cs n x h := fstF_congr fun j hj => hit_eq (by have := allTo_iff.1 hs j hj; unfold okS at this; rw [Bool.and_eq_true] at this; exact this.1) hx
theorem dat_le {cs : List AV} {n : Nat} {x : Int} {h : Bool} (hs : allTo (okS cs) n = true) (hx : 0 ≤ x ∧ x ≤ 9223372036854775807) (hd : datN cs n x h < n) : x ≤ 8192 := by
  rw [dat_in hs hx] at hd
  have := (fstF_spec (p := hitR cs x h) (k := n)).2.1 hd
  unfold hitR at this
  simp only [Bool.and_eq_true, decide_eq_true_eq] at this
  exact this.2.1
theorem pv_in {cs ps : List AV} {n m i : Nat} (hs : allTo (okS cs) n = true) (hp : plsOk ps m = true) : i ≤ m → (∀ j, j < i → okP cs n ps j = true) → 0 ≤ pvP ps i ∧ pvP ps i ≤ 8200 := by
  induction i with
  | zero => intro _ _; exact ⟨Int.le_refl _, by show (0 : Int) ≤ 8200; omega⟩
  | succ i ih =>
    intro hi h
    have ih := ih (by omega) fun j hj => h j (by omega)
    have := h i (by omega)
    unfold okP at this
    simp only [Bool.and_eq_true, decide_eq_true_eq] at this
    have hx := (plsOk_at hp (j := i) (by omega)).2.2
    have := dat_le hs (by omega) this.2
    have hw : 2 ≤ wdF (hP ps i) ∧ wdF (hP ps i) ≤ 4 := by unfold wdF; split <;> omega
    show 0 ≤ xP ps i + wdF (hP ps i) ∧ xP ps i + wdF (hP ps i) ≤ 8200
    omega
theorem szE {cs : List AV} {i : Nat} (h : secT cs i = true) : IntKind.wrap .i64 (sA cs i + szF (sN cs i) (sZ cs i)) = sE cs i := by
  have := secB_iff.1 h
  have e : szF (sN cs i) (sZ cs i) = (sN cs i : Int) + sZ cs i := i64_in (by omega)
  rw [e, i64_in (by omega)]
  unfold sE; omega
theorem rszE {cs : List AV} {i : Nat} (h : secT cs i = true) : IntKind.wrap .i64 (sA cs i + rszF (sN cs i) (sZ cs i)) = sE cs i := by
  have := secB_iff.1 h
  have e : rszF (sN cs i) (sZ cs i) = (sN cs i : Int) + sZ cs i := if_pos ⟨by omega, by omega, by omega⟩
  rw [e, i64_in (by omega)]
  unfold sE; omega
theorem ckL_ok (G : Nat → List AV) (B : Nat) (ks n kp m : Nat) (s : Int) : DLoopOk (⟨Try.prog, G, B⟩ : Ctx) 1 (loopN Try.f20 0) (DLat 1714 (ckQ G ks n kp m s) 0 98 [1, 2, 3, 4, 31, 32, 33] (ckO ks n kp m s)) := by
  refine DLat_ok rfl fun hc => ?_
  obtain ⟨hk, hn⟩ := secsU_iff.1 hc
  refine scan (fstF (fun j => !okS (G ks) j) n) (fun i => [.ptr (.rw 0) 0, .int .i64 0, .bool (exS (G ks) s i), .int .i64 (pvE (G ks) i), .slice true (.ro ks) 0 n, .int .i64 (n : Int), .int .i64 (i : Int)]) (fun _ => [some ⟨1, [.int .i64 s, .slice true (.ro ks) 0 n, .slice true (.ro kp) 0 m]⟩]) fun i hi => ?_
  have hle : fstF (fun j => !okS (G ks) j) n ≤ n := fstF_spec.1
  refine dloop_ok (C := (⟨Try.prog, G, B⟩ : Ctx)) (by rw [show loopsOf (loopN Try.f20 0) = [] by kernel_rfl]; exact dgood (inl := []) (ls := []) (M := 1) (mixI G B) (by kernel_rfl) (progIb_ok G B) .nil) (fuel := 300) (n0 := 20) (m := 1) (c := loopN Try.f20 0) (vs := [.ptr (.rw 0) (.lit 0), .int .i64 (.lit 0), .bool (.var 9 (exS (G ks) s i)), .int .i64 (.var 10 (pvE (G ks) i)), .slice true (.ro (.var 2 ks)) (.lit 0) (.var 3 n), .int .i64 (.ofN (.var 3 n)), .int .i64 (.ofN (.var 8 i))]) (H := [some ⟨1, .of [.int .i64 (.var 1 s), .slice true (.ro (.var 2 ks)) (.lit 0) (.var 3 n), .slice true (.ro (.var 4 kp)) (.lit 0) (.var 5 m)]⟩]) (by simp) ?_
  rw [ck_b]
  have fb : hpB 1 [some ⟨1, [.int .i64 s, .slice true (.ro ks) 0 n, .slice true (.ro kp) 0 m]⟩] = true := by simp [hpB, bnds, bnd]
  refine ⟨fun h1 => ?_, fun h1 => ?_⟩
  · have h1' := of_decide_eq_true h1
    have hin : i < n := by omega
    rw [i64_in (n := (i : Int) + 1) (by omega), secU_eq, szU_eq]
    have no : okS (G ks) i = false → ¬ rowsU [.agg (G ks), .int .i64 (n : Int)] = true := fun h => by
      rw [rowsU_eq, allTo_false hin h]; simp
    have nof : okS (G ks) i = false → rowsU [.agg (G ks), .int .i64 (n : Int)] = false := fun h => by
      rw [rowsU_eq, allTo_false hin h]
    refine ⟨decide_eq_true (by omega), h1, secsOk_at hk hin, fun h2 => ?_, fun h2 => ?_⟩
    · have h2' : secT (G ks) i = true := h2
      have e := szE h2'
      unfold sA sN sZ at e
      rw [e]
      refine ⟨fun h3 => ?_, fun h3 => ?_⟩
      · refine .inr ⟨nof ?_, rfl, .inr (View.same (H := [some ⟨1, [.int .i64 s, .slice true (.ro ks) 0 n, .slice true (.ro kp) 0 m]⟩]) (by simp) fb (by simp [fv, bnd, vVs, vV, vI]))⟩
        have h3 : getI (G ks) (i * 4) < pvE (G ks) i := of_decide_eq_true h3
        unfold okS; rw [h2', decide_eq_false (by unfold sA; omega)]; rfl
      · have h3 : ¬ getI (G ks) (i * 4) < pvE (G ks) i := of_decide_eq_false h3
        have lt := fst_nx hi hin (by unfold okS; rw [h2', decide_eq_true (by unfold sA; omega)]; rfl)
        refine ⟨fun w1 => ?_, fun w1 => ⟨fun g1 => ?_, fun g1 => ⟨fun g2 => ?_, fun g2 => ?_⟩⟩⟩
        · exact ⟨lt, .inr (View.same (H := [some ⟨1, [.int .i64 s, .slice true (.ro ks) 0 n, .slice true (.ro kp) 0 m]⟩]) (by simp) fb (by simp [fv, bnd, bnds, exS_1 w1, pvE]))⟩
        · exact ⟨lt, .inr (View.same (H := [some ⟨1, [.int .i64 s, .slice true (.ro ks) 0 n, .slice true (.ro kp) 0 m]⟩]) (by simp) fb (by simp [fv, bnd, bnds, exS_2 w1 g1, pvE]))⟩
        · exact ⟨lt, .inr (View.same (H := [some ⟨1, [.int .i64 s, .slice true (.ro ks) 0 n, .slice true (.ro kp) 0 m]⟩]) (by simp) fb (by simp [fv, bnd, bnds, exS_3 w1 g1 g2, pvE]))⟩
        · exact ⟨lt, .inr (View.same (H := [some ⟨1, [.int .i64 s, .slice true (.ro ks) 0 n, .slice true (.ro kp) 0 m]⟩]) (by simp) fb (by simp [fv, bnd, bnds, exS_4 w1 g1 g2, pvE]))⟩
    · refine .inr ⟨nof ?_, rfl, .inr (View.same (H := [some ⟨1, [.int .i64 s, .slice true (.ro ks) 0 n, .slice true (.ro kp) 0 m]⟩]) (by simp) fb (by simp [fv, bnd, vVs, vV, vI]))⟩
      have h2' : secT (G ks) i = false := h2
      unfold okS; rw [h2']; rfl
  · have h1' := of_decide_eq_false h1
    have e : i = n := by omega
    refine .inl ⟨?_, rfl, .inl ⟨?_, rfl⟩⟩
    · show rowsU [.agg (G ks), .int .i64 (n : Int)] = true
      rw [rowsU_eq]; exact fst_all hi (by omega)
    · show wk [.ptr (.rw 0) 0, .int .i64 0, .bool (exU [.agg (G ks), .int .i64 (n : Int), .int .i64 s]), .undef, .undef, .undef, .undef] _
      rw [exU_eq, ← e]; simp [wk]
end Go.Am
