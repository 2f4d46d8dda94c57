/-
  Images: which may be: the other loops' laws, and both functions.
-/
import Derived.Test.YthejjolnlngahaaImF
namespace Go.Am
open Go.Proofs
set_option maxRecDepth 100000
theorem maL_ok (G : Nat → List AV) (B : Nat) (ks n kp m : Nat) (s : Int) : DLoopOk (⟨Try.prog, G, B⟩ : Ctx) 1 (loopN Try.f21 0) (DLat 1716 (maQ G ks n kp m s) 0 130 [1, 2, 3, 4] (maO ks n kp m s)) := by
  refine DLat_ok rfl fun hc => ?_
  obtain ⟨hk, hn⟩ := secsU_iff.1 hc
  refine scan (fstF (fun j => !okS (G ks) j) n) (fun i => [.ptr (.rw 0) 0, .bool false, .bool (exS (G ks) s i), .int .i64 (i : Int)]) (fun _ => [some ⟨1, [.int .i64 s, .slice true (.ro ks) 0 n, .slice true (.ro kp) 0 m]⟩]) fun i hi => ?_
  have hle : fstF (fun j => !okS (G ks) j) n ≤ n := fstF_spec.1
  refine dloop_ok (C := (⟨Try.prog, G, B⟩ : Ctx)) (by rw [show loopsOf (loopN Try.f21 0) = [] by kernel_rfl]; exact dgood (inl := []) (ls := []) (M := 1) (mixI G B) (by kernel_rfl) (progIb_ok G B) .nil) (fuel := 300) (n0 := 20) (m := 1) (c := loopN Try.f21 0) (vs := [.ptr (.rw 0) (.lit 0), .bool (.lit false), .bool (.var 9 (exS (G ks) s i)), .int .i64 (.ofN (.var 8 i))]) (H := [some ⟨1, .of [.int .i64 (.var 1 s), .slice true (.ro (.var 2 ks)) (.lit 0) (.var 3 n), .slice true (.ro (.var 4 kp)) (.lit 0) (.var 5 m)]⟩]) (by simp) ?_
  rw [ma_b]
  have fb : hpB 1 [some ⟨1, [.int .i64 s, .slice true (.ro ks) 0 n, .slice true (.ro kp) 0 m]⟩] = true := by simp [hpB, bnds, bnd]
  have hb := fst_no hi
  refine ⟨fun h1 => ?_, fun h1 => ?_⟩
  · have h1' := of_decide_eq_true h1
    have hin : i < n := by omega
    rw [i64_in (n := (i : Int) + 1) (by omega), secU_eq, rszU_eq]
    have nof : okS (G ks) i = false → rowsU [.agg (G ks), .int .i64 (n : Int)] = false := fun h => by
      rw [rowsU_eq, allTo_false hin h]
    refine ⟨decide_eq_true (by omega), h1, secsOk_at hk hin, fun h2 => ?_, fun h2 => ?_⟩
    · have h2' : secT (G ks) i = true := h2
      have h2s := secB_iff.1 h2'
      have e := rszE h2'
      unfold sA sN sZ at e
      rw [e]
      refine ⟨fun h3 => ?_, fun h3 => ?_⟩
      · have h3 : (i : Int) > 0 := of_decide_eq_true h3
        obtain ⟨k, rfl⟩ : ∃ k, i = k + 1 := ⟨i - 1, by omega⟩
        rw [i64_in (n := ((k + 1 : Nat) : Int) - 1) (by omega), show ((k + 1 : Nat) : Int) - 1 = (k : Int) by omega, int_nat, upU_eq]
        have hbk := hb k (by omega)
        unfold okS at hbk
        rw [Bool.and_eq_true] at hbk
        have hu := up_val hbk.1
        have hks := secB_iff.1 hbk.1
        simp only [sA, sR, sN, sZ] at hu hks
        rw [hu]
        refine ⟨decide_eq_true (by omega), decide_eq_true (by omega), secsOk_at hk (by omega), fun h4 => ?_, fun h4 => ?_⟩
        · refine .inr ⟨nof ?_, rfl, .inr (View.same (H := [some ⟨1, [.int .i64 s, .slice true (.ro ks) 0 n, .slice true (.ro kp) 0 m]⟩]) (by simp) fb (by simp [fv, bnd, vVs, vV, vB]))⟩
          have h4 : getI (G ks) ((k + 1) * 4) < (getI (G ks) (k * 4) + (roN (G ks) (k * 4 + 2) : Int) + getI (G ks) (k * 4 + 3) + 255) / 256 * 256 := of_decide_eq_true h4
          unfold okS; rw [h2', decide_eq_false]; rfl
          unfold sA sN sZ at h2s
          show ¬ getI (G ks) (k * 4) + (roN (G ks) (k * 4 + 2) : Int) + getI (G ks) (k * 4 + 3) ≤ getI (G ks) ((k + 1) * 4)
          omega
        · have h4 : ¬ getI (G ks) ((k + 1) * 4) < (getI (G ks) (k * 4) + (roN (G ks) (k * 4 + 2) : Int) + getI (G ks) (k * 4 + 3) + 255) / 256 * 256 := of_decide_eq_false h4
          have lt := fst_nx hi hin (by
            unfold okS; rw [h2', decide_eq_true]; rfl
            show getI (G ks) (k * 4) + (roN (G ks) (k * 4 + 2) : Int) + getI (G ks) (k * 4 + 3) ≤ getI (G ks) ((k + 1) * 4)
            omega)
          refine ⟨fun w1 => ?_, fun w1 => ⟨fun g1 => ?_, fun g1 => ⟨fun g2 => ?_, fun g2 => ?_⟩⟩⟩
          · exact ⟨lt, .inr (View.same (H := [some ⟨1, [.int .i64 s, .slice true (.ro ks) 0 n, .slice true (.ro kp) 0 m]⟩]) (by simp) fb (by simp [fv, bnd, bnds, exS_1 w1]))⟩
          · exact ⟨lt, .inr (View.same (H := [some ⟨1, [.int .i64 s, .slice true (.ro ks) 0 n, .slice true (.ro kp) 0 m]⟩]) (by simp) fb (by simp [fv, bnd, bnds, exS_2 w1 g1]))⟩
          · exact ⟨lt, .inr (View.same (H := [some ⟨1, [.int .i64 s, .slice true (.ro ks) 0 n, .slice true (.ro kp) 0 m]⟩]) (by simp) fb (by simp [fv, bnd, bnds, exS_3 w1 g1 g2]))⟩
          · exact ⟨lt, .inr (View.same (H := [some ⟨1, [.int .i64 s, .slice true (.ro ks) 0 n, .slice true (.ro kp) 0 m]⟩]) (by simp) fb (by simp [fv, bnd, bnds, exS_4 w1 g1 g2]))⟩
      · have h3 : ¬ (i : Int) > 0 := of_decide_eq_false h3
        obtain rfl : i = 0 := by omega
        have lt := fst_nx hi hin (by
          unfold okS; rw [h2', decide_eq_true]; rfl
          unfold sA at h2s
          show (0 : Int) ≤ sA (G ks) 0
          unfold sA; omega)
        refine ⟨fun w1 => ?_, fun w1 => ⟨fun g1 => ?_, fun g1 => ⟨fun g2 => ?_, fun g2 => ?_⟩⟩⟩
        · exact ⟨lt, .inr (View.same (H := [some ⟨1, [.int .i64 s, .slice true (.ro ks) 0 n, .slice true (.ro kp) 0 m]⟩]) (by simp) fb (by simp [fv, bnd, bnds, exS_1 w1]))⟩
        · exact ⟨lt, .inr (View.same (H := [some ⟨1, [.int .i64 s, .slice true (.ro ks) 0 n, .slice true (.ro kp) 0 m]⟩]) (by simp) fb (by simp [fv, bnd, bnds, exS_2 w1 g1]))⟩
        · exact ⟨lt, .inr (View.same (H := [some ⟨1, [.int .i64 s, .slice true (.ro ks) 0 n, .slice true (.ro kp) 0 m]⟩]) (by simp) fb (by simp [fv, bnd, bnds, exS_3 w1 g1 g2]))⟩
        · exact ⟨lt, .inr (View.same (H := [some ⟨1, [.int .i64 s, .slice true (.ro ks) 0 n, .slice true (.ro kp) 0 m]⟩]) (by simp) fb (by simp [fv, bnd, bnds, exS_4 w1 g1 g2]))⟩
    · refine .inr ⟨nof ?_, rfl, .inr (View.same (H := [some ⟨1, [.int .i64 s, .slice true (.ro ks) 0 n, .slice true (.ro kp) 0 m]⟩]) (by simp) fb (by simp [fv, bnd, vVs, vV, vB]))⟩
      have h2' : secT (G ks) i = false := h2
      unfold okS; rw [h2']; rfl
  · have h1' := of_decide_eq_false h1
    have e : i = n := by omega
    refine .inl ⟨?_, rfl, .inl ⟨?_, rfl⟩⟩
    · show rowsU [.agg (G ks), .int .i64 (n : Int)] = true
      rw [rowsU_eq]; exact fst_all hi (by omega)
    · show wk [.ptr (.rw 0) 0, .bool false, .bool (exU [.agg (G ks), .int .i64 (n : Int), .int .i64 s]), .undef] _
      rw [exU_eq, ← e]; simp [wk]
theorem cond2_iff {cs ps : List AV} {n m : Nat} : cond2 cs n ps m = true ↔ (secsOk cs n = true ∧ n ≤ 1000000) ∧ (plsOk ps m = true ∧ m ≤ 1000000) ∧ allTo (okS cs) n = true := by
  unfold cond2; rw [Bool.and_eq_true, Bool.and_eq_true, secsU_iff, plsU_iff]
theorem cdL_ok (G : Nat → List AV) (B : Nat) (ks n kp m : Nat) (s : Int) : DLoopOk (⟨Try.prog, G, B⟩ : Ctx) 1 (loopN Try.f20 1) (DLat 1715 (cdQ G ks n kp m s) 2 98 [1, 2, 3, 4, 73, 74, 75] (cdO ks n kp m s)) := by
  refine DLat_ok rfl fun hc => ?_
  obtain ⟨hk, ⟨hp, hm⟩, hs⟩ := cond2_iff.1 hc
  have hk' := secsU_iff.2 hk
  refine scan (fstF (fun j => !okP (G ks) n (G kp) j) m) (fun i => [.ptr (.rw 0) 0, .int .i64 0, .bool (exU [.agg (G ks), .int .i64 (n : Int), .int .i64 s]), .int .i64 (pvP (G kp) i), .slice true (.ro kp) 0 m, .int .i64 (m : Int), .int .i64 (i : Int)]) (fun _ => [some ⟨1, [.int .i64 s, .slice true (.ro ks) 0 n, .slice true (.ro kp) 0 m]⟩]) fun i hi => ?_
  have hle : fstF (fun j => !okP (G ks) n (G kp) j) m ≤ m := fstF_spec.1
  refine dloop_ok (C := (⟨Try.prog, G, B⟩ : Ctx)) (by rw [show loopsOf (loopN Try.f20 1) = [] by kernel_rfl]; exact dgood (inl := []) (ls := []) (M := 1) (mixI G B) (by kernel_rfl) (progIc_ok G B) .nil) (fuel := 300) (n0 := 20) (m := 1) (c := loopN Try.f20 1) (vs := [.ptr (.rw 0) (.lit 0), .int .i64 (.lit 0), .bool (.var 9 (exU [.agg (G ks), .int .i64 (n : Int), .int .i64 s])), .int .i64 (.var 10 (pvP (G kp) i)), .slice true (.ro (.var 4 kp)) (.lit 0) (.var 5 m), .int .i64 (.ofN (.var 5 m)), .int .i64 (.ofN (.var 8 i))]) (H := [some ⟨1, .of [.int .i64 (.var 1 s), .slice true (.ro (.var 2 ks)) (.lit 0) (.var 3 n), .slice true (.ro (.var 4 kp)) (.lit 0) (.var 5 m)]⟩]) (by simp) ?_
  rw [ck_d]
  have fb : hpB 1 [some ⟨1, [.int .i64 s, .slice true (.ro ks) 0 n, .slice true (.ro kp) 0 m]⟩] = true := by simp [hpB, bnds, bnd]
  have pv := pv_in hs hp (by omega) (fst_no hi)
  refine ⟨fun h1 => ?_, fun h1 => ?_⟩
  · have h1' := of_decide_eq_true h1
    have hin : i < m := by omega
    have hx := (plsOk_at hp hin).2.2
    rw [i64_in (n := (i : Int) + 1) (by omega), datU_eq]
    have nof : okP (G ks) n (G kp) i = false → plaU [.agg (G ks), .int .i64 (n : Int), .agg (G kp), .int .i64 (m : Int)] = false := fun h => by
      rw [plaU_eq, allTo_false hin h]
    refine ⟨decide_eq_true (by omega), h1, (plsOk_at hp hin).1, fun h2 => ?_, fun h2 => ⟨hk', fun h3 => ?_, fun h3 => ?_⟩⟩
    · refine .inr ⟨nof ?_, rfl, .inr (View.same (H := [some ⟨1, [.int .i64 s, .slice true (.ro ks) 0 n, .slice true (.ro kp) 0 m]⟩]) (by simp) fb (by simp [fv, bnd, vVs, vV, vI]))⟩
      have h2 : getI (G kp) (i * 2) < pvP (G kp) i := of_decide_eq_true h2
      unfold okP; rw [decide_eq_false (by unfold xP; omega)]; rfl
    · have h2 : ¬ getI (G kp) (i * 2) < pvP (G kp) i := of_decide_eq_false h2
      have h3 : ((datN (G ks) n (xP (G kp) i) (hP (G kp) i) : Nat) : Int) < (n : Int) := of_decide_eq_true h3
      have lt := fst_nx hi hin (by unfold okP; rw [decide_eq_true (by unfold xP; omega), decide_eq_true (by omega)]; rfl)
      have hx2 := dat_le (h := hP (G kp) i) hs (x := xP (G kp) i) (by unfold xP at hx ⊢; omega) (by omega)
      have hw : 2 ≤ wdF (hP (G kp) i) ∧ wdF (hP (G kp) i) ≤ 4 := by unfold wdF; split <;> omega
      have e : IntKind.wrap .i64 (getI (G kp) (i * 2) + wdU [.bool (getB (G kp) (i * 2 + 1))]) = pvP (G kp) (i + 1) := by
        show IntKind.wrap .i64 (xP (G kp) i + wdF (hP (G kp) i)) = xP (G kp) i + wdF (hP (G kp) i)
        exact i64_in (by unfold xP at *; omega)
      rw [e]
      exact ⟨lt, .inr (View.same (H := [some ⟨1, [.int .i64 s, .slice true (.ro ks) 0 n, .slice true (.ro kp) 0 m]⟩]) (by simp) fb (by simp [fv, bnd, bnds]))⟩
    · refine .inr ⟨nof ?_, rfl, .inr (View.same (H := [some ⟨1, [.int .i64 s, .slice true (.ro ks) 0 n, .slice true (.ro kp) 0 m]⟩]) (by simp) fb (by simp [fv, bnd, vVs, vV, vI]))⟩
      have h3 : ¬ ((datN (G ks) n (xP (G kp) i) (hP (G kp) i) : Nat) : Int) < (n : Int) := of_decide_eq_false h3
      unfold okP; rw [decide_eq_false (p := datN (G ks) n (xP (G kp) i) (hP (G kp) i) < n) (by omega), Bool.and_false]
  · have h1' := of_decide_eq_false h1
    refine .inl ⟨?_, rfl, .inl ⟨?_, rfl⟩⟩
    · show plaU [.agg (G ks), .int .i64 (n : Int), .agg (G kp), .int .i64 (m : Int)] = true
      rw [plaU_eq]; exact fst_all hi (by omega)
    · show wk [.ptr (.rw 0) 0, .int .i64 0, .bool (exU [.agg (G ks), .int .i64 (n : Int), .int .i64 s]), .undef, .undef, .undef, .undef] _
      simp [wk]
theorem mdL_ok (G : Nat → List AV) (B : Nat) (ks n kp m : Nat) (s : Int) : DLoopOk (⟨Try.prog, G, B⟩ : Ctx) 1 (loopN Try.f21 1) (DLat 1717 (mdQ G ks n kp m s) 2 130 [1, 2, 3, 6] (mdO ks n kp m s)) := by
  refine DLat_ok rfl fun hc => ?_
  obtain ⟨hk, ⟨hp, hm⟩, hs⟩ := cond2_iff.1 hc
  have hk' := secsU_iff.2 hk
  refine scan (fstF (fun j => !okP (G ks) n (G kp) j) m) (fun i => [.ptr (.rw 0) 0, .bool false, .bool (exU [.agg (G ks), .int .i64 (n : Int), .int .i64 s]), .int .i64 (i : Int)]) (fun _ => [some ⟨1, [.int .i64 s, .slice true (.ro ks) 0 n, .slice true (.ro kp) 0 m]⟩]) fun i hi => ?_
  have hle : fstF (fun j => !okP (G ks) n (G kp) j) m ≤ m := fstF_spec.1
  refine dloop_ok (C := (⟨Try.prog, G, B⟩ : Ctx)) (by rw [show loopsOf (loopN Try.f21 1) = [] by kernel_rfl]; exact dgood (inl := []) (ls := []) (M := 1) (mixI G B) (by kernel_rfl) (progIc_ok G B) .nil) (fuel := 300) (n0 := 20) (m := 1) (c := loopN Try.f21 1) (vs := [.ptr (.rw 0) (.lit 0), .bool (.lit false), .bool (.var 9 (exU [.agg (G ks), .int .i64 (n : Int), .int .i64 s])), .int .i64 (.ofN (.var 8 i))]) (H := [some ⟨1, .of [.int .i64 (.var 1 s), .slice true (.ro (.var 2 ks)) (.lit 0) (.var 3 n), .slice true (.ro (.var 4 kp)) (.lit 0) (.var 5 m)]⟩]) (by simp) ?_
  rw [ma_d]
  have fb : hpB 1 [some ⟨1, [.int .i64 s, .slice true (.ro ks) 0 n, .slice true (.ro kp) 0 m]⟩] = true := by simp [hpB, bnds, bnd]
  have pv := pv_in hs hp (by omega) (fst_no hi)
  refine ⟨fun h1 => ?_, fun h1 => ?_⟩
  · have h1' := of_decide_eq_true h1
    have hin : i < m := by omega
    have hx := (plsOk_at hp hin).2.2
    rw [i64_in (n := (i : Int) + 1) (by omega), inU_eq]
    have nof : okP (G ks) n (G kp) i = false → plaU [.agg (G ks), .int .i64 (n : Int), .agg (G kp), .int .i64 (m : Int)] = false := fun h => by
      rw [plaU_eq, allTo_false hin h]
    refine ⟨decide_eq_true (by omega), h1, (plsOk_at hp hin).1, fun h2 => ?_, fun h2 => ⟨hk', fun h3 => ?_, fun h3 => ?_⟩⟩
    · refine .inr ⟨nof ?_, rfl, .inr (View.same (H := [some ⟨1, [.int .i64 s, .slice true (.ro ks) 0 n, .slice true (.ro kp) 0 m]⟩]) (by simp) fb (by simp [fv, bnd, vVs, vV, vB]))⟩
      have h2 : getI (G kp) (i * 2) < 0 := of_decide_eq_true h2
      unfold okP; rw [decide_eq_false (by unfold xP; omega)]; rfl
    · have h2 : ¬ xP (G kp) i < 0 := of_decide_eq_false h2
      have h3 : inF (G ks) n (xP (G kp) i) (hP (G kp) i) < 0 := of_decide_eq_true h3
      refine .inr ⟨nof ?_, rfl, .inr (View.same (H := [some ⟨1, [.int .i64 s, .slice true (.ro ks) 0 n, .slice true (.ro kp) 0 m]⟩]) (by simp) fb (by simp [fv, bnd, vVs, vV, vB]))⟩
      unfold okP; rw [dat_in hs (by omega), decide_eq_false (p := inN (G ks) n (xP (G kp) i) (hP (G kp) i) < n) (by unfold inF at h3; split at h3 <;> omega), Bool.and_false]
    · have h2 : ¬ xP (G kp) i < 0 := of_decide_eq_false h2
      have h3 : ¬ inF (G ks) n (xP (G kp) i) (hP (G kp) i) < 0 := of_decide_eq_false h3
      have hd : datN (G ks) n (xP (G kp) i) (hP (G kp) i) < n := by
        rw [dat_in hs (by omega)]; unfold inF at h3; split at h3 <;> omega
      refine ⟨fun h4 => ?_, fun h4 => ?_⟩
      · have h4 : (i : Int) > 0 := of_decide_eq_true h4
        obtain ⟨k, rfl⟩ : ∃ k, i = k + 1 := ⟨i - 1, by omega⟩
        rw [i64_in (n := ((k + 1 : Nat) : Int) - 1) (by omega), show ((k + 1 : Nat) : Int) - 1 = (k : Int) by omega, int_nat]
        have e : IntKind.wrap .i64 (getI (G kp) (k * 2) + wdU [.bool (getB (G kp) (k * 2 + 1))]) = pvP (G kp) (k + 1) := i64_in (by
          have : pvP (G kp) (k + 1) = getI (G kp) (k * 2) + wdU [.bool (getB (G kp) (k * 2 + 1))] := rfl
          omega)
        rw [e]
        refine ⟨decide_eq_true (by omega), decide_eq_true (by omega), (plsOk_at hp (by omega)).2.1, decide_eq_true (by omega), decide_eq_true (by omega), (plsOk_at hp (by omega)).1, fun h5 => ?_, fun h5 => ?_⟩
        · refine .inr ⟨nof ?_, rfl, .inr (View.same (H := [some ⟨1, [.int .i64 s, .slice true (.ro ks) 0 n, .slice true (.ro kp) 0 m]⟩]) (by simp) fb (by simp [fv, bnd, vVs, vV, vB]))⟩
          have h5 : pvP (G kp) (k + 1) > xP (G kp) (k + 1) := of_decide_eq_true h5
          unfold okP; rw [decide_eq_false (by omega)]; rfl
        · have h5 : ¬ pvP (G kp) (k + 1) > xP (G kp) (k + 1) := of_decide_eq_false h5
          have lt := fst_nx hi hin (by unfold okP; rw [decide_eq_true (by omega), decide_eq_true hd]; rfl)
          exact ⟨lt, .inr (View.same (H := [some ⟨1, [.int .i64 s, .slice true (.ro ks) 0 n, .slice true (.ro kp) 0 m]⟩]) (by simp) fb (by simp [fv, bnd, bnds]))⟩
      · have h4 : ¬ (i : Int) > 0 := of_decide_eq_false h4
        obtain rfl : i = 0 := by omega
        have lt := fst_nx hi hin (by unfold okP; rw [decide_eq_true (by show (0 : Int) ≤ _; omega), decide_eq_true hd]; rfl)
        exact ⟨lt, .inr (View.same (H := [some ⟨1, [.int .i64 s, .slice true (.ro ks) 0 n, .slice true (.ro kp) 0 m]⟩]) (by simp) fb (by simp [fv, bnd, bnds]))⟩
  · have h1' := of_decide_eq_false h1
    refine .inl ⟨?_, rfl, .inl ⟨?_, rfl⟩⟩
    · show plaU [.agg (G ks), .int .i64 (n : Int), .agg (G kp), .int .i64 (m : Int)] = true
      rw [plaU_eq]; exact fst_all hi (by omega)
    · show wk [.ptr (.rw 0) 0, .bool false, .bool (exU [.agg (G ks), .int .i64 (n : Int), .int .i64 s]), .undef] _
      simp [wk]
/-- which may be -/
def mayI (s : Int) (cs : List AV) (n : Nat) (ps : List AV) (m : Nat) : Bool := (decide (n ≤ 8) && decide (m ≤ 512)) && ((decide (0 ≤ s) && decide (s % 4 = 0)) && (allTo (okS cs) n && (allTo (okP cs n ps) m && exS cs s n)))
def chkI (s : Int) (cs : List AV) (n : Nat) (ps : List AV) (m : Nat) : Int := if mayI s cs n ps m then 0 else 2
theorem tmod4 {a : Int} (h : 0 ≤ a) : ((Int.tmod a 4 : Int) == 0) = decide (a % 4 = 0) := by
  rw [Int.tmod_eq_emod_of_nonneg h, Bool.eq_iff_iff, beq_iff_eq, decide_eq_true_iff]
theorem check_call (G : Nat → List AV) (B : Nat) (ks n kp m : Nat) (s : Int) (hk : secsU [.agg (G ks), .int .i64 (n : Int)] = true) (hp : plsU [.agg (G kp), .int .i64 (m : Int)] = true) : ACalls (⟨Try.prog, G, B⟩ : Ctx) 20 [.agg [.int .i64 s, .slice true (.ro ks) 0 n, .slice true (.ro kp) 0 m]] [] fun v _ => v = .int .i64 (chkI s (G ks) n (G kp) m) := by
  have := dcall_ok (C := (⟨Try.prog, G, B⟩ : Ctx)) (fuel := 300) (n0 := 20) (f := 20) (fn := Try.f20) (args := [.agg (.of [.int .i64 (.var 1 s), .slice true (.ro (.var 2 ks)) (.lit 0) (.var 3 n), .slice true (.ro (.var 4 kp)) (.lit 0) (.var 5 m)])]) (H := []) (keep := 0)
    (R := fun v _ => v = .int .i64 (chkI s (G ks) n (G kp) m)) (dgood (inl := []) (ls := [(DLat 1714 (ckQ G ks n kp m s) 0 98 [1, 2, 3, 4, 31, 32, 33] (ckO ks n kp m s)), (DLat 1715 (cdQ G ks n kp m s) 2 98 [1, 2, 3, 4, 73, 74, 75] (cdO ks n kp m s))]) (M := 1) (mixI G B) (by kernel_rfl) (progIc_ok G B) (.cast (.cons (i := 0) (by kernel_rfl) rfl (ckL_ok G B ks n kp m s) (.cons (i := 2) (by kernel_rfl) rfl (cdL_ok G B ks n kp m s) .nil)) (by kernel_rfl))) (by kernel_rfl) (by kernel_rfl) (by kernel_rfl) (by
    rw [t20, rowsU_eq, plaU_eq, exU_eq]
    have no : mayI s (G ks) n (G kp) m = false → chkI s (G ks) n (G kp) m = 2 := fun h => by unfold chkI; rw [h]; rfl
    refine ⟨fun h1 => ?_, fun h1 => ⟨fun h2 => ?_, fun h2 => ⟨fun h3 => ?_, fun h3 => ⟨fun h4 => ?_, fun h4 => ?_⟩⟩⟩⟩
    · have h1 : (n : Int) > 8 := of_decide_eq_true h1
      rw [no (by unfold mayI; rw [decide_eq_false (p := n ≤ 8) (by omega)]; rfl)]
    · have h2 : (m : Int) > 512 := of_decide_eq_true h2
      rw [no (by unfold mayI; rw [decide_eq_false (p := m ≤ 512) (by omega), Bool.and_false]; rfl)]
    · have h3 : s < 0 := of_decide_eq_true h3
      rw [no (by unfold mayI; rw [decide_eq_false (p := 0 ≤ s) (by omega), Bool.false_and, Bool.false_and, Bool.and_false])]
    · have h1 : ¬ (n : Int) > 8 := of_decide_eq_false h1
      have h2 : ¬ (m : Int) > 512 := of_decide_eq_false h2
      have h3 : ¬ s < 0 := of_decide_eq_false h3
      rw [tmod4 (by omega)] at h4
      have h4 := of_decide_eq_true h4
      have em : mayI s (G ks) n (G kp) m = (allTo (okS (G ks)) n && (allTo (okP (G ks) n (G kp)) m && exS (G ks) s n)) := by
        unfold mayI; rw [decide_eq_true (p := n ≤ 8) (by omega), decide_eq_true (p := m ≤ 512) (by omega), decide_eq_true (p := 0 ≤ s) (by omega), decide_eq_true h4]; rfl
      refine ⟨stQ_refl hk rfl rfl, fun e1 => ⟨stQ_refl (by rw [cond2_iff]; exact ⟨secsU_iff.1 hk, plsU_iff.1 hp, e1⟩) rfl rfl, fun e2 => ⟨fun e3 => ?_, fun e3 => ?_⟩, fun e2 => ?_⟩, fun e1 => ?_⟩
      · unfold chkI; rw [em, e1, e2, e3]; rfl
      · rw [no (by rw [em, e3, Bool.and_false, Bool.and_false])]
      · rw [no (by rw [em, e2, Bool.false_and, Bool.and_false])]
      · rw [no (by rw [em, e1, Bool.false_and])]
    · have h3 : ¬ s < 0 := of_decide_eq_false h3
      rw [tmod4 (by omega)] at h4
      rw [no (by unfold mayI; rw [h4, Bool.and_false, Bool.false_and, Bool.and_false])])
  exact this.monoK fun v H h => h
theorem may_call (G : Nat → List AV) (B : Nat) (ks n kp m : Nat) (s : Int) (hk : secsU [.agg (G ks), .int .i64 (n : Int)] = true) (hp : plsU [.agg (G kp), .int .i64 (m : Int)] = true) : ACalls (⟨Try.prog, G, B⟩ : Ctx) 21 [.agg [.int .i64 s, .slice true (.ro ks) 0 n, .slice true (.ro kp) 0 m]] [] fun v _ => v = .bool (mayI s (G ks) n (G kp) m) := by
  have := dcall_ok (C := (⟨Try.prog, G, B⟩ : Ctx)) (fuel := 300) (n0 := 20) (f := 21) (fn := Try.f21) (args := [.agg (.of [.int .i64 (.var 1 s), .slice true (.ro (.var 2 ks)) (.lit 0) (.var 3 n), .slice true (.ro (.var 4 kp)) (.lit 0) (.var 5 m)])]) (H := []) (keep := 0)
    (R := fun v _ => v = .bool (mayI s (G ks) n (G kp) m)) (dgood (inl := []) (ls := [(DLat 1716 (maQ G ks n kp m s) 0 130 [1, 2, 3, 4] (maO ks n kp m s)), (DLat 1717 (mdQ G ks n kp m s) 2 130 [1, 2, 3, 6] (mdO ks n kp m s))]) (M := 1) (mixI G B) (by kernel_rfl) (progIc_ok G B) (.cast (.cons (i := 0) (by kernel_rfl) rfl (maL_ok G B ks n kp m s) (.cons (i := 2) (by kernel_rfl) rfl (mdL_ok G B ks n kp m s) .nil)) (by kernel_rfl))) (by kernel_rfl) (by kernel_rfl) (by kernel_rfl) (by
    rw [t21, rowsU_eq, plaU_eq, exU_eq]
    refine ⟨fun h1 => ?_, fun h1 => ⟨fun h2 => ?_, fun h2 => ⟨fun h3 => ?_, fun h3 => ⟨fun h4 => ?_, fun h4 => ?_⟩⟩⟩⟩
    · have h1 : (n : Int) > 8 := of_decide_eq_true h1
      rw [(by unfold mayI; rw [decide_eq_false (p := n ≤ 8) (by omega)]; rfl : mayI s (G ks) n (G kp) m = false)]
    · have h2 : (m : Int) > 512 := of_decide_eq_true h2
      rw [(by unfold mayI; rw [decide_eq_false (p := m ≤ 512) (by omega), Bool.and_false]; rfl : mayI s (G ks) n (G kp) m = false)]
    · have h3 : s < 0 := of_decide_eq_true h3
      rw [(by unfold mayI; rw [decide_eq_false (p := 0 ≤ s) (by omega), Bool.false_and, Bool.false_and, Bool.and_false] : mayI s (G ks) n (G kp) m = false)]
    · have h1 : ¬ (n : Int) > 8 := of_decide_eq_false h1
      have h2 : ¬ (m : Int) > 512 := of_decide_eq_false h2
      have h3 : ¬ s < 0 := of_decide_eq_false h3
      rw [tmod4 (by omega)] at h4
      have h4 := of_decide_eq_true h4
      have em : mayI s (G ks) n (G kp) m = (allTo (okS (G ks)) n && (allTo (okP (G ks) n (G kp)) m && exS (G ks) s n)) := by
        unfold mayI; rw [decide_eq_true (p := n ≤ 8) (by omega), decide_eq_true (p := m ≤ 512) (by omega), decide_eq_true (p := 0 ≤ s) (by omega), decide_eq_true h4]; rfl
      refine ⟨stQ_refl hk rfl rfl, fun e1 => ⟨stQ_refl (by rw [cond2_iff]; exact ⟨secsU_iff.1 hk, plsU_iff.1 hp, e1⟩) rfl rfl, fun e2 => ?_, fun e2 => ?_⟩, fun e1 => ?_⟩
      · rw [em, e1, e2]; rfl
      · rw [em, e2, Bool.false_and, Bool.and_false]
      · rw [em, e1, Bool.false_and]
    · have h3 : ¬ s < 0 := of_decide_eq_false h3
      rw [tmod4 (by omega)] at h4
      rw [(by unfold mayI; rw [h4, Bool.and_false, Bool.false_and, Bool.and_false] : mayI s (G ks) n (G kp) m = false)])
  exact this.monoK fun v H h => h
end Go.Am
