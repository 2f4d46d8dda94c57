/-
  Slices: the document's Open, Close; Copy, Same.
-/
import Derived.Test.YtfalglcagngbnaaSlQ
import Derived.Test.YtfalglcagngbnaaBase6
namespace Go.Am
open Go.Proofs
set_option maxRecDepth 100000
def openLU : List AV → List AV := fun ys => match ys with
  | [.agg cs, .int _ a] => openL cs a
  | _ => []
theorem ro_loop (G : Nat → List AV) (B : Nat) (ds : List AV) (a : Int) (hs : okS (Tt ds) = true) :
    AWp (⟨Try.prog, G, B⟩ : Ctx) 1 (.loop (loopN Try.f32 0)) (fl 44 [0, 1, 6, 4, 5] [.ptr (.rw 0) 0, .int .i64 a, .int .i64 0, .int .i64 0, .int .i64 0]) [some ⟨1, ds⟩]
      (lv 44 [0, 1, 6, 4, 5] fun e vs H => (oN (Tt ds) < 32 → e = .ret ∧ wk [.ptr (.rw 0) 0, .int .i64 a, .undef, .int .i64 (oN (Tt ds) : Int), .int .i64 0] vs ∧ H = [some ⟨1, tl (openL (Tt ds) a)⟩]) ∧ (¬ oN (Tt ds) < 32 → e = .exit 0 ∧ wk [.ptr (.rw 0) 0, .int .i64 a, .undef, .undef, .undef] vs ∧ H = [some ⟨1, ds⟩])) := by
  refine aloop_lv (fun j vs H => ∃ i : Nat, i ≤ 32 ∧ j = 32 - i ∧ vs = [.ptr (.rw 0) 0, .int .i64 a, .int .i64 (i : Int), .int .i64 0, .int .i64 0] ∧ H = [some ⟨1, ds⟩] ∧ ∀ k, k < i → getB (Tt ds) (k + 1) = true) 32 ⟨0, by omega, rfl, rfl, rfl, fun k hk => by omega⟩ ?_
  rintro j vs H ⟨i, hi, rfl, rfl, rfl, ha⟩
  refine dloop_ok (C := (⟨Try.prog, G, B⟩ : Ctx)) (dg4 G B) (fuel := 300) (n0 := 20) (m := 1) (c := loopN Try.f32 0) (vs := [.ptr (.rw 0) (.lit 0), .int .i64 (.var 7 a), .int .i64 (.var 6 (i : Int)), .int .i64 (.lit 0), .int .i64 (.lit 0)]) (H := [some ⟨1, .var 8 ds⟩]) (by simp) ?_
  rw [ro_b]
  have hl := dLen hs
  refine ⟨fun h => ?_, fun h => ?_⟩
  · have h32 := of_decide_eq_true h
    have hi' : i < 32 := by omega
    rw [Int.toNat_natCast]
    refine ⟨decide_eq_true (by omega), h, dB hs hi', fun hb => ?_, fun hb => ?_⟩
    · refine ⟨32 - (i + 1), by omega, .inl ⟨i + 1, by omega, rfl, by rw [i64_in (by omega)]; rfl, rfl, fun k hk => ?_⟩⟩
      by_cases hki : k = i
      · subst hki; exact hb
      · exact ha k (by omega)
    · have eN : oN (Tt ds) = i := oN_eq (Tt ds) ha hi fun _ => hb
      have e1 : setPart ds i (.bool true) = ds.set i (.bool true) := rfl
      have o1 : okS (Tt (ds.set i (.bool true))) = true := okS_setB (cs := Tt ds) hs hi' true
      have l1 := dLen o1
      rw [e1]
      refine ⟨decide_eq_true (by omega), h, leB_iff.2 (by omega), dI o1 (by omega) (by omega), decide_eq_true (by omega), h, leB_iff.2 (by omega), fun hlt => ?_, fun hn => absurd (by omega) hn⟩
      rw [eN]
      refine ⟨rfl, by simp [wk], ?_⟩
      have e2 : getI (ds.set i (.bool true)) 256 = getI (Tt ds) 257 := by
        have : getI ((Tt ds).set (i + 1) (.bool true)) 257 = getI (Tt ds) 257 := getI_b (by have := okS_len hs; omega) (by omega)
        rw [← this]; rfl
      unfold openL
      rw [eN, T_set, show i * 7 + 33 = (i * 7 + 32) + 1 from rfl, T_setP, tl_T]
      unfold slotA
      rw [← e2]
  · have : i = 32 := by have := of_decide_eq_false h; omega
    subst this
    have eN : oN (Tt ds) = 32 := oN_eq (Tt ds) ha (Nat.le_refl _) fun h => by omega
    exact ⟨fun hlt => by omega, fun _ => ⟨rfl, by simp [wk], rfl⟩⟩
def rOL : DL := ⟨0, 44, [0, 1, 6, 4, 5], fun vs H => match vs, H with
  | [.ptr (.rw 0) (.lit 0), .int .i64 a, .int .i64 (.lit 0), .int .i64 (.lit 0), .int .i64 (.lit 0)], [some ⟨1, l⟩] =>
    some (.chk (.uf 1300 okSU [.agg (.app (.of [.bool (.lit true)]) l)]) (.tst (.cmp .lss (.ofN (.uf 1302 oNU [.agg (.app (.of [.bool (.lit true)]) l)])) (.lit 32)) (.one .ret [.ptr (.rw 0) (.lit 0), .int .i64 a, .undef, .int .i64 (.ofN (.uf 1302 oNU [.agg (.app (.of [.bool (.lit true)]) l)])), .int .i64 (.lit 0)] [some ⟨1, .uf 1501 tlU [.agg (.uf 1502 openLU [.agg (.app (.of [.bool (.lit true)]) l), .int .i64 a])]⟩])
      (.one (.exit 0) [.ptr (.rw 0) (.lit 0), .int .i64 a, .undef, .undef, .undef] [some ⟨1, l⟩])))
  | _, _ => none⟩
theorem rOL_ok (G : Nat → List AV) (B : Nat) : DLoopOk (⟨Try.prog, G, B⟩ : Ctx) 1 (loopN Try.f32 0) rOL := by
  refine .of fun vs H o ho n Q hQ => ?_
  simp only [rOL] at ho
  split at ho
  · rename_i a l
    simp only [Option.some.injEq] at ho
    subst ho
    obtain ⟨h1, h2, h3⟩ := hQ
    have h1 : okS (Tt (vL G l)) = true := h1
    simp only [rOL, vVs, vV, vR, vN, vI, vHp, List.map_cons, List.map_nil, Option.map_some, vBlk]
    refine (ro_loop G B _ _ h1).lmono ?_
    rintro e vs'' H'' ⟨g1, g2⟩
    by_cases hlt : oN (Tt (vL G l)) < 32
    · obtain ⟨rfl, q1, rfl⟩ := g1 hlt
      refine .inl ⟨_, q1, ?_⟩
      exact h2 (decide_eq_true (show ((oN (Tt (vL G l)) : Nat) : Int) < 32 by omega))
    · obtain ⟨rfl, q1, rfl⟩ := g2 hlt
      refine .inl ⟨_, q1, ?_⟩
      exact h3 (decide_eq_false (show ¬ ((oN (Tt (vL G l)) : Nat) : Int) < 32 by omega))
  · simp at ho
theorem dg32 (G : Nat → List AV) (B : Nat) : DGood (⟨Try.prog, G, B⟩ : Ctx) (Dc Try.prog [45] [] [rOL] 1) (loopsOf (bodyOf Try.f32)) := dgood (mix G B) (by kernel_rfl) .nil (.cast (.cons (i := 0) (by kernel_rfl) rfl (rOL_ok G B) .nil) (by kernel_rfl))
theorem t32 (G : Nat → List AV) (ds : List AV) (a : Int) (Q : Ex → List AV → Hp → Prop) (R : AV → Hp → Prop) : vT G Q R (dcall (Dc Try.prog [45] [] [rOL] 1) 300 20 Try.f32 [.ptr (.rw 0) (.lit 0), .int .i64 (.var 2 a)] [some ⟨1, .var 8 ds⟩] 1) = (
    (decide ((a : Int) < 0) = true →
      R (.tup [.int .i64 (0), .int .i64 (2)]) [some ⟨1, ds⟩]) ∧
    (decide ((a : Int) < 0) = false →
      (decide ((a : Int) ≥ 8) = true →
        R (.tup [.int .i64 (0), .int .i64 (2)]) [some ⟨1, ds⟩]) ∧
      (decide ((a : Int) ≥ 8) = false →
        okSU [.agg (([.bool (true)] : List AV) ++ ds)] = true ∧
        (decide ((((oNU [.agg (([.bool (true)] : List AV) ++ ds)] : Nat) : Int) : Int) < 32) = true →
          R (.tup [.int .i64 (((oNU [.agg (([.bool (true)] : List AV) ++ ds)] : Nat) : Int)), .int .i64 (0)]) [some ⟨1, (tlU [.agg (openLU [.agg (([.bool (true)] : List AV) ++ ds), .int .i64 (a)])])⟩]) ∧
        (decide ((((oNU [.agg (([.bool (true)] : List AV) ++ ds)] : Nat) : Int) : Int) < 32) = false →
          R (.tup [.int .i64 (0), .int .i64 (5)]) [some ⟨1, ds⟩])))) := by kernel_rfl
theorem r_open (G : Nat → List AV) (B : Nat) (ds : List AV) (a : Int) (hs : okS (Tt ds) = true) : ACalls (⟨Try.prog, G, B⟩ : Ctx) 32 [.ptr (.rw 0) 0, .int .i64 a] [some ⟨1, ds⟩] fun v H => v = .tup [.int .i64 (openN (Tt ds) a), .int .i64 (openE (Tt ds) a)] ∧ H.take 1 = [some ⟨1, tl (openR (Tt ds) a)⟩] := by
  have := dcall_ok (C := (⟨Try.prog, G, B⟩ : Ctx)) (fuel := 300) (n0 := 20) (f := 32) (fn := Try.f32) (args := [.ptr (.rw 0) (.lit 0), .int .i64 (.var 2 a)]) (H := [some ⟨1, .var 8 ds⟩]) (keep := 1)
    (R := fun v H => v = .tup [.int .i64 (openN (Tt ds) a), .int .i64 (openE (Tt ds) a)] ∧ H = [some ⟨1, tl (openR (Tt ds) a)⟩]) (dg32 G B) (by kernel_rfl) (by kernel_rfl) (by kernel_rfl) (by
    rw [t32]
    refine ⟨fun h0 => ?_, fun h0 => ⟨fun h1 => ?_, fun h1 => ⟨hs, fun h2 => ?_, fun h2 => ?_⟩⟩⟩
    · have h0 := of_decide_eq_true h0
      have e : opens (Tt ds) a = false := by simp only [opens, Bool.and_eq_false_iff, decide_eq_false_iff_not]; omega
      have e2 : (decide (0 ≤ a) && decide (a < 8)) = false := by simp only [Bool.and_eq_false_iff, decide_eq_false_iff_not]; omega
      simp only [openN, openE, openR, e, e2, Bool.false_eq_true, if_false]
      exact ⟨trivial, rfl⟩
    · have h1 := of_decide_eq_true h1
      have e : opens (Tt ds) a = false := by simp only [opens, Bool.and_eq_false_iff, decide_eq_false_iff_not]; omega
      have e2 : (decide (0 ≤ a) && decide (a < 8)) = false := by simp only [Bool.and_eq_false_iff, decide_eq_false_iff_not]; omega
      simp only [openN, openE, openR, e, e2, Bool.false_eq_true, if_false]
      exact ⟨trivial, rfl⟩
    · have h0 := of_decide_eq_false h0
      have h1 := of_decide_eq_false h1
      have h2 : ((oN (Tt ds) : Nat) : Int) < 32 := of_decide_eq_true h2
      have e : opens (Tt ds) a = true := by simp only [opens, Bool.and_eq_true, decide_eq_true_eq]; omega
      simp only [openN, openE, openR, e, if_true]
      exact ⟨rfl, rfl⟩
    · have h0 := of_decide_eq_false h0
      have h1 := of_decide_eq_false h1
      have h2 : ¬ ((oN (Tt ds) : Nat) : Int) < 32 := of_decide_eq_false h2
      have e : opens (Tt ds) a = false := by simp only [opens, Bool.and_eq_false_iff, decide_eq_false_iff_not]; omega
      have e2 : (decide (0 ≤ a) && decide (a < 8)) = true := by simp only [Bool.and_eq_true, decide_eq_true_eq]; omega
      simp only [openN, openE, openR, e, e2, Bool.false_eq_true, if_false, if_true]
      exact ⟨trivial, rfl⟩)
  simp only [vVs, vV, vR, vN, vI, vHp, List.map_cons, List.map_nil, Option.map_some, vBlk, vL] at this
  exact this
/-! ### Close -/
theorem rc_loop (G : Nat → List AV) (B : Nat) (ds : List AV) (a : Int) (hs : okS (Tt ds) = true) (hN : okN (Tt ds)) :
    AWp (⟨Try.prog, G, B⟩ : Ctx) 1 (.loop (loopN Try.f33 0)) (fl 50 [0, 1, 5] [.ptr (.rw 0) 0, .int .i64 a, .int .i64 0]) [some ⟨1, ds⟩]
      (lv 50 [0, 1, 5] fun e vs H => e = .exit 0 ∧ wk [.undef, .undef, .undef] vs ∧ H = [some ⟨1, tl (clF (Tt ds) a 32)⟩]) := by
  refine aloop_lv (fun j vs H => ∃ i : Nat, i ≤ 32 ∧ j = 32 - i ∧ vs = [.ptr (.rw 0) 0, .int .i64 a, .int .i64 (i : Int)] ∧ H = [some ⟨1, tl (clF (Tt ds) a i)⟩]) 32 ⟨0, by omega, rfl, rfl, rfl⟩ ?_
  rintro j vs H ⟨i, hi, rfl, rfl, rfl⟩
  have ho := (clF_ok hs hN a i hi).1
  obtain ⟨x, hx⟩ : ∃ x, x = tl (clF (Tt ds) a i) := ⟨_, rfl⟩
  have ex : Tt x = clF (Tt ds) a i := by rw [hx, T_tl ho]
  rw [← hx]
  refine dloop_ok (C := (⟨Try.prog, G, B⟩ : Ctx)) (dg4 G B) (fuel := 300) (n0 := 20) (m := 1) (c := loopN Try.f33 0) (vs := [.ptr (.rw 0) (.lit 0), .int .i64 (.var 7 a), .int .i64 (.var 6 (i : Int))]) (H := [some ⟨1, .var 8 x⟩]) (by simp) ?_
  rw [rc_b]
  have hs' : okS (Tt x) = true := by rw [ex]; exact ho
  have hl := dLen hs'
  have nx : i < 32 → ∀ y, Tt y = clF (Tt ds) a (i + 1) → ∃ k', k' < 32 - i ∧ ((∃ i' : Nat, i' ≤ 32 ∧ k' = 32 - i' ∧ [AV.ptr (.rw 0) 0, .int .i64 a, .int .i64 (IntKind.wrap .i64 ((i : Int) + 1))] = [.ptr (.rw 0) 0, .int .i64 a, .int .i64 (i' : Int)] ∧ ([some ⟨1, y⟩] : Hp) = [some ⟨1, tl (clF (Tt ds) a i')⟩]) ∨
      ∃ vs'' H'', (∃ i' : Nat, i' ≤ 32 ∧ k' = 32 - i' ∧ vs'' = [.ptr (.rw 0) 0, .int .i64 a, .int .i64 (i' : Int)] ∧ H'' = [some ⟨1, tl (clF (Tt ds) a i')⟩]) ∧ View 1 vs'' H'' [AV.ptr (.rw 0) 0, .int .i64 a, .int .i64 (IntKind.wrap .i64 ((i : Int) + 1))] [some ⟨1, y⟩]) := fun h y e =>
    ⟨32 - (i + 1), by omega, .inl ⟨i + 1, by omega, rfl, by rw [i64_in (by omega)]; rfl, by rw [← e, tl_T]⟩⟩
  have eO : sO (clF (Tt ds) a i) i = getB x i := by rw [← ex]; rfl
  have eG : sG (clF (Tt ds) a i) i = getI x (i * 7 + 34) := by rw [← ex]; rfl
  refine ⟨fun h => ?_, fun h => ?_⟩
  · have h32 := of_decide_eq_true h
    rw [Int.toNat_natCast]
    refine ⟨decide_eq_true (by omega), h, dB hs' (by omega), fun hb => ⟨decide_eq_true (by omega), h, dI hs' (by omega) (by omega), fun hg => ⟨decide_eq_true (by omega), h, leB_iff.2 (by omega), ?_⟩, fun hg => ?_⟩, fun hb => ?_⟩
    · refine nx (by omega) _ ?_
      simp only [clF, eO, hb, eG, hg, Bool.and_self, if_true]
      rw [← ex]; rfl
    · refine nx (by omega) _ ?_
      simp only [clF, eO, hb, eG, hg, Bool.and_false, Bool.false_eq_true, if_false]
      exact ex
    · refine nx (by omega) _ ?_
      simp only [clF, eO, hb, Bool.false_and, Bool.false_eq_true, if_false]
      exact ex
  · have : i = 32 := by have := of_decide_eq_false h; omega
    subst this
    exact ⟨rfl, by simp [wk], by rw [hx]⟩
def rcL : DL := ⟨0, 50, [0, 1, 5], fun vs H => match vs, H with
  | [.ptr (.rw 0) (.lit 0), .int .i64 a, .int .i64 (.lit 0)], [some ⟨1, l⟩] =>
    some (.chk (.uf 1435 okNU [.agg (.app (.of [.bool (.lit true)]) l)]) (.one (.exit 0) [.undef, .undef, .undef] [some ⟨1, .uf 1501 tlU [.agg (.uf 1436 clFU [.agg (.app (.of [.bool (.lit true)]) l), .int .i64 a])]⟩]))
  | _, _ => none⟩
theorem rcL_ok (G : Nat → List AV) (B : Nat) : DLoopOk (⟨Try.prog, G, B⟩ : Ctx) 1 (loopN Try.f33 0) rcL := by
  refine .of fun vs H o ho n Q hQ => ?_
  simp only [rcL] at ho
  split at ho
  · rename_i a l
    simp only [Option.some.injEq] at ho
    subst ho
    obtain ⟨h1, h2⟩ := hQ
    have h1 : okNU [.agg (Tt (vL G l))] = true := h1
    obtain ⟨g1, g2⟩ := okNU_iff.1 h1
    simp only [rcL, vVs, vV, vR, vN, vI, vHp, List.map_cons, List.map_nil, Option.map_some, vBlk]
    refine (rc_loop G B _ _ g1 g2).lmono ?_
    rintro e vs'' H'' ⟨rfl, q1, rfl⟩
    exact .inl ⟨_, q1, h2⟩
  · simp at ho
theorem dg33 (G : Nat → List AV) (B : Nat) : DGood (⟨Try.prog, G, B⟩ : Ctx) (Dc Try.prog [45] [] [rcL] 1) (loopsOf (bodyOf Try.f33)) := dgood (mix G B) (by kernel_rfl) .nil (.cast (.cons (i := 0) (by kernel_rfl) rfl (rcL_ok G B) .nil) (by kernel_rfl))
theorem t33 (G : Nat → List AV) (ds : List AV) (a : Int) (Q : Ex → List AV → Hp → Prop) (R : AV → Hp → Prop) : vT G Q R (dcall (Dc Try.prog [45] [] [rcL] 1) 300 20 Try.f33 [.ptr (.rw 0) (.lit 0), .int .i64 (.var 2 a)] [some ⟨1, .var 8 ds⟩] 1) = (
    (decide ((a : Int) ≥ 0) = true →
      (decide ((a : Int) < 32) = true →
        decide ((0 : Int) ≤ a) = true ∧
        decide ((a : Int) < 32) = true ∧
        isB ds (Int.toNat (a)) = true ∧
        (getB ds (Int.toNat (a)) = true →
          decide ((0 : Int) ≤ a) = true ∧
          decide ((a : Int) < 32) = true ∧
          leB (Int.toNat (a) + 1) (List.length ds) = true ∧
          decide ((0 : Int) ≤ a) = true ∧
          decide ((a : Int) < 32) = true ∧
          leB ((Int.toNat (a)) * 7 + 39) (List.length (setPart ds (Int.toNat (a)) (.bool (false)))) = true ∧
          okNU [.agg (([.bool (true)] : List AV) ++ (setPart (setPart ds (Int.toNat (a)) (.bool (false))) ((Int.toNat (a)) * 7 + 32) (.agg ([.int .i64 (0), .int .i64 (0), .int .i64 (0), .int .i64 (0), .int .i64 (0), .int .i64 (0), .int .i64 (0)] : List AV))))] = true ∧
          R (.int .i64 (0)) [some ⟨1, (tlU [.agg (clFU [.agg (([.bool (true)] : List AV) ++ (setPart (setPart ds (Int.toNat (a)) (.bool (false))) ((Int.toNat (a)) * 7 + 32) (.agg ([.int .i64 (0), .int .i64 (0), .int .i64 (0), .int .i64 (0), .int .i64 (0), .int .i64 (0), .int .i64 (0)] : List AV)))), .int .i64 (a)])])⟩]) ∧
        (getB ds (Int.toNat (a)) = false →
          R (.int .i64 (6)) [some ⟨1, ds⟩])) ∧
      (decide ((a : Int) < 32) = false →
        R (.int .i64 (6)) [some ⟨1, ds⟩])) ∧
    (decide ((a : Int) ≥ 0) = false →
      R (.int .i64 (6)) [some ⟨1, ds⟩])) := by kernel_rfl
theorem r_close (G : Nat → List AV) (B : Nat) (ds : List AV) (a : Int) (h : okC (Tt ds)) : ACalls (⟨Try.prog, G, B⟩ : Ctx) 33 [.ptr (.rw 0) 0, .int .i64 a] [some ⟨1, ds⟩] fun v H => v = .int .i64 (closeE (Tt ds) a) ∧ H.take 1 = [some ⟨1, tl (closeR (Tt ds) a)⟩] := by
  have hs := (okT_iff.1 h.1).1
  have hl := dLen hs
  have := dcall_ok (C := (⟨Try.prog, G, B⟩ : Ctx)) (fuel := 300) (n0 := 20) (f := 33) (fn := Try.f33) (args := [.ptr (.rw 0) (.lit 0), .int .i64 (.var 2 a)]) (H := [some ⟨1, .var 8 ds⟩]) (keep := 1)
    (R := fun v H => v = .int .i64 (closeE (Tt ds) a) ∧ H = [some ⟨1, tl (closeR (Tt ds) a)⟩]) (dg33 G B) (by kernel_rfl) (by kernel_rfl) (by kernel_rfl) (by
    rw [t33]
    have no : isO (Tt ds) a = false → AV.int .i64 6 = .int .i64 (closeE (Tt ds) a) ∧ ([some ⟨1, ds⟩] : Hp) = [some ⟨1, tl (closeR (Tt ds) a)⟩] := fun h => by
      simp only [closeE, closeR, h, Bool.false_eq_true, if_false]
      exact ⟨trivial, rfl⟩
    refine ⟨fun a0 => ⟨fun a1 => ?_, fun a1 => no (isO_no1 a1)⟩, fun a0 => no (isO_no0 a0)⟩
    have a0' := of_decide_eq_true a0
    have a1' := of_decide_eq_true a1
    have hn : a.toNat < 32 := by omega
    refine ⟨a0, a1, dB hs hn, fun ha => ?_, fun ha => no (by rw [isO_T a0 a1]; exact ha)⟩
    have oa : isO (Tt ds) a = true := by rw [isO_T a0 a1]; exact ha
    have e1 : setPart ds a.toNat (.bool false) = ds.set a.toNat (.bool false) := rfl
    have e2 : Tt (setPart (ds.set a.toNat (.bool false)) (a.toNat * 7 + 32) (.agg [.int .i64 0, .int .i64 0, .int .i64 0, .int .i64 0, .int .i64 0, .int .i64 0, .int .i64 0])) = cls (Tt ds) a.toNat := by
      unfold cls
      rw [T_set, show a.toNat * 7 + 33 = (a.toNat * 7 + 32) + 1 from rfl, T_setP]; rfl
    rw [e1]
    refine ⟨a0, a1, leB_iff.2 (by omega), a0, a1, leB_iff.2 (by rw [List.length_set]; omega), ?_, ?_⟩
    · show okNU [.agg (Tt (setPart (ds.set a.toNat (.bool false)) (a.toNat * 7 + 32) (.agg [.int .i64 0, .int .i64 0, .int .i64 0, .int .i64 0, .int .i64 0, .int .i64 0, .int .i64 0])))] = true
      rw [e2]
      exact okNU_iff.2 ⟨cls_ok hs hn, cls_N hs h.2 hn⟩
    · simp only [closeE, closeR, oa, if_true]
      refine ⟨trivial, ?_⟩
      show [some (⟨1, tl (clF (Tt (setPart (ds.set a.toNat (.bool false)) (a.toNat * 7 + 32) (.agg [.int .i64 0, .int .i64 0, .int .i64 0, .int .i64 0, .int .i64 0, .int .i64 0, .int .i64 0]))) a 32)⟩ : Blk)] = _
      rw [e2])
  simp only [vVs, vV, vR, vN, vI, vHp, List.map_cons, List.map_nil, Option.map_some, vBlk, vL] at this
  exact this
theorem t36 (G : Nat → List AV) (cs : List AV) (Q : Ex → List AV → Hp → Prop) (R : AV → Hp → Prop) : vT G Q R (dcall (Dc Try.prog [26] [] [] 0) 300 20 Try.f36 [.ptr (.rw 0) (.lit 0)] [some ⟨1, .var 8 cs⟩] 2) = (
    isB cs (0) = true ∧
    (getB cs (0) = true →
      leB (258) (List.length cs) = true ∧
      cellsB (subL cs (0) (258)) = true ∧
      Nat.beq (List.length (subL cs (0) (258))) (258) = true ∧
      R (.ptr (.rw 1) (0)) [some ⟨1, cs⟩, some ⟨1, (subL cs (0) (258))⟩]) ∧
    (getB cs (0) = false →
      R (.nilp) [some ⟨1, cs⟩])) := by kernel_rfl
theorem t21 (G : Nat → List AV) (cs ds : List AV) (Q : Ex → List AV → Hp → Prop) (R : AV → Hp → Prop) : vT G Q R (dcall (Dc Try.prog [26] [] [] 0) 300 20 Try.f21 [.ptr (.rw 0) (.lit 0), .ptr (.rw 1) (.lit 0)] [some ⟨1, .var 8 cs⟩, some ⟨1, .var 9 ds⟩] 2) = (
    isB cs (0) = true ∧
    (getB cs (0) = true →
      isB ds (0) = true ∧
      (getB ds (0) = true →
        leB (258) (List.length cs) = true ∧
        leB (258) (List.length ds) = true ∧
        eqA1 Try.prog 58 [.agg (subL cs (0) (258)), .agg (subL ds (0) (258))] = true ∧
        R (.bool (eqA2 Try.prog 58 [.agg (subL cs (0) (258)), .agg (subL ds (0) (258))])) [some ⟨1, cs⟩, some ⟨1, ds⟩]) ∧
      (getB ds (0) = false →
        isB cs (0) = true ∧
        isB ds (0) = true ∧
        R (.bool (((getB cs (0) : Bool) == getB ds (0)))) [some ⟨1, cs⟩, some ⟨1, ds⟩])) ∧
    (getB cs (0) = false →
      isB cs (0) = true ∧
      isB ds (0) = true ∧
      R (.bool (((getB cs (0) : Bool) == getB ds (0)))) [some ⟨1, cs⟩, some ⟨1, ds⟩])) := by kernel_rfl
theorem t21s (G : Nat → List AV) (cs : List AV) (Q : Ex → List AV → Hp → Prop) (R : AV → Hp → Prop) : vT G Q R (dcall (Dc Try.prog [26] [] [] 0) 300 20 Try.f21 [.ptr (.rw 0) (.lit 0), .ptr (.rw 0) (.lit 0)] [some ⟨1, .var 8 cs⟩] 1) = (
    isB cs (0) = true ∧
    (getB cs (0) = true →
      isB cs (0) = true ∧
      getB cs (0) = true ∧
      leB (258) (List.length cs) = true ∧
      leB (258) (List.length cs) = true ∧
      eqA1 Try.prog 58 [.agg (subL cs (0) (258)), .agg (subL cs (0) (258))] = true ∧
      R (.bool (eqA2 Try.prog 58 [.agg (subL cs (0) (258)), .agg (subL cs (0) (258))])) [some ⟨1, cs⟩]) ∧
    (getB cs (0) = false →
      isB cs (0) = true ∧
      isB cs (0) = true ∧
      R (.bool (((getB cs (0) : Bool) == getB cs (0)))) [some ⟨1, cs⟩])) := by kernel_rfl
theorem t22 (G : Nat → List AV) (cs ds : List AV) (Q : Ex → List AV → Hp → Prop) (R : AV → Hp → Prop) : vT G Q R (dcall (Dc Try.prog [] [] [] 0) 300 20 Try.f22 [.ptr (.rw 0) (.lit 0), .ptr (.rw 1) (.lit 0)] [some ⟨1, .var 8 cs⟩, some ⟨1, .var 9 ds⟩] 2) = (
    leB (257) (List.length cs) = true ∧
    leB (257) (List.length ds) = true ∧
    eqA1 Try.prog 65 [.agg (subL cs (0) (257)), .agg (subL ds (0) (257))] = true ∧
    R (.bool (eqA2 Try.prog 65 [.agg (subL cs (0) (257)), .agg (subL ds (0) (257))])) [some ⟨1, cs⟩, some ⟨1, ds⟩]) := by kernel_rfl
/-! ### the document's calls, told -/
def rOpenS : DSum := fun args H => match args with
  | [.ptr (.rw i) (.lit 0), .int .i64 a] => match H[i]? with
    | some (some ⟨1, l⟩) => some (.chk (.uf 1437 okCU [.agg (.app (.of [.bool (.lit true)]) l)]) (.one (.tup [.int .i64 (.uf 1303 openNU [.agg (.app (.of [.bool (.lit true)]) l), .int .i64 a]), .int .i64 (.uf 1304 openEU [.agg (.app (.of [.bool (.lit true)]) l), .int .i64 a])]) [.set i ⟨1, .uf 1501 tlU [.agg (.uf 1305 openRU [.agg (.app (.of [.bool (.lit true)]) l), .int .i64 a])]⟩]))
    | _ => none
  | _ => none
theorem tl_flat {cs : List AV} (hs : okS cs = true) : bnds 0 (tl cs) = true := by
  have h := okS_flat hs 0
  cases cs with
  | nil => rfl
  | cons x l => simp only [bnds, Bool.and_eq_true] at h; exact h.2
theorem d_flat {ds : List AV} (hs : okS (Tt ds) = true) : bnds 0 ds = true := tl_flat hs
theorem rOpenS_ok (G : Nat → List AV) (B : Nat) : DSumOk (⟨Try.prog, G, B⟩ : Ctx) 32 rOpenS := by
  intro args H o ho
  unfold rOpenS at ho
  split at ho
  · rename_i i a
    split at ho
    · rename_i l hi
      simp only [Option.some.injEq] at ho
      subst ho
      intro h1
      have h1 : okC (Tt (vL G l)) := okCU_iff.1 h1
      have hs := (okT_iff.1 h1.1).1
      have key := r_open G B (vL G l) (vI G a) hs
      refine DOut.set1 (C := (⟨Try.prog, G, B⟩ : Ctx)) hi key (d_flat hs) (tl_flat (okS_openR hs _)) (by simp [vVs, vV, bnds, bnd]) (by simp [vV, vVs, bnd, bnds]) (by simp [vV])
    · simp at ho
  · simp at ho
def rGiveS : DSum := fun args H => match args with
  | [.ptr (.rw i) (.lit 0), .int .i64 a, .int .i64 b] => match H[i]? with
    | some (some ⟨1, l⟩) => some (.chk (.uf 1437 okCU [.agg (.app (.of [.bool (.lit true)]) l)]) (.one (.int .i64 (.uf 1306 giveEU [.agg (.app (.of [.bool (.lit true)]) l), .int .i64 a, .int .i64 b])) [.set i ⟨1, .uf 1501 tlU [.agg (.uf 1307 giveRU [.agg (.app (.of [.bool (.lit true)]) l), .int .i64 a, .int .i64 b])]⟩]))
    | _ => none
  | _ => none
theorem rGiveS_ok (G : Nat → List AV) (B : Nat) : DSumOk (⟨Try.prog, G, B⟩ : Ctx) 34 rGiveS := by
  intro args H o ho
  unfold rGiveS at ho
  split at ho
  · rename_i i a b
    split at ho
    · rename_i l hi
      simp only [Option.some.injEq] at ho
      subst ho
      intro h1
      have h1 : okC (Tt (vL G l)) := okCU_iff.1 h1
      have hs := (okT_iff.1 h1.1).1
      have key := r_give G B (vL G l) (vI G a) (vI G b) hs
      refine DOut.set1 (C := (⟨Try.prog, G, B⟩ : Ctx)) hi key (d_flat hs) (tl_flat (okS_giveR hs _ _)) (by simp [vVs, vV, bnds, bnd]) (by simp [vV, bnd]) (by simp [vV])
    · simp at ho
  · simp at ho
def rPickS : DSum := fun args H => match args with
  | [.ptr (.rw i) (.lit 0), .int .i64 a] => match H[i]? with
    | some (some ⟨1, l⟩) => some (.chk (.uf 1437 okCU [.agg (.app (.of [.bool (.lit true)]) l)]) (.one (.tup [.int .i64 (.uf 1309 pickNU [.agg (.app (.of [.bool (.lit true)]) l), .int .i64 a]), .int .i64 (.uf 1310 pickEU [.agg (.app (.of [.bool (.lit true)]) l), .int .i64 a])]) [.set i ⟨1, .uf 1501 tlU [.agg (.uf 1311 pickRU [.agg (.app (.of [.bool (.lit true)]) l), .int .i64 a])]⟩]))
    | _ => none
  | _ => none
theorem rPickS_ok (G : Nat → List AV) (B : Nat) : DSumOk (⟨Try.prog, G, B⟩ : Ctx) 35 rPickS := by
  intro args H o ho
  unfold rPickS at ho
  split at ho
  · rename_i i a
    split at ho
    · rename_i l hi
      simp only [Option.some.injEq] at ho
      subst ho
      intro h1
      have h1 : okC (Tt (vL G l)) := okCU_iff.1 h1
      have hs := (okT_iff.1 h1.1).1
      have key := r_pick G B (vL G l) (vI G a) h1.1
      refine DOut.set1 (C := (⟨Try.prog, G, B⟩ : Ctx)) hi key (d_flat hs) (tl_flat (okT_iff.1 (okT_pickR h1.1 _)).1) (by simp [vVs, vV, bnds, bnd]) (by simp [vV, vVs, bnd, bnds]) (by simp [vV])
    · simp at ho
  · simp at ho
def rCloseS : DSum := fun args H => match args with
  | [.ptr (.rw i) (.lit 0), .int .i64 a] => match H[i]? with
    | some (some ⟨1, l⟩) => some (.chk (.uf 1437 okCU [.agg (.app (.of [.bool (.lit true)]) l)]) (.one (.int .i64 (.uf 1439 closeEU [.agg (.app (.of [.bool (.lit true)]) l), .int .i64 a])) [.set i ⟨1, .uf 1501 tlU [.agg (.uf 1438 closeRU [.agg (.app (.of [.bool (.lit true)]) l), .int .i64 a])]⟩]))
    | _ => none
  | _ => none
theorem rCloseS_ok (G : Nat → List AV) (B : Nat) : DSumOk (⟨Try.prog, G, B⟩ : Ctx) 33 rCloseS := by
  intro args H o ho
  unfold rCloseS at ho
  split at ho
  · rename_i i a
    split at ho
    · rename_i l hi
      simp only [Option.some.injEq] at ho
      subst ho
      intro h1
      have h1 : okC (Tt (vL G l)) := okCU_iff.1 h1
      have hs := (okT_iff.1 h1.1).1
      have key := r_close G B (vL G l) (vI G a) h1
      refine DOut.set1 (C := (⟨Try.prog, G, B⟩ : Ctx)) hi key (d_flat hs) (tl_flat (okT_iff.1 (okC_close h1 _).1).1) (by simp [vVs, vV, bnds, bnd]) (by simp [vV, bnd]) (by simp [vV])
    · simp at ho
  · simp at ho
/-! ### Copy -/
theorem p_copy (G : Nat → List AV) (B : Nat) (cs : List AV) (hs : okS cs = true) : ACalls (⟨Try.prog, G, B⟩ : Ctx) 36 [.ptr (.rw 0) 0] [some ⟨1, cs⟩] fun v H => v = .ptr (.rw 1) 0 ∧ H = [some ⟨1, cs⟩, some ⟨1, cs⟩] := by
  have hl := okS_len hs
  have e : subL cs 0 258 = cs := subL_all hl
  have := dcall_ok (C := (⟨Try.prog, G, B⟩ : Ctx)) (fuel := 300) (n0 := 20) (f := 36) (fn := Try.f36) (args := [.ptr (.rw 0) (.lit 0)]) (H := [some ⟨1, .var 8 cs⟩]) (keep := 2)
    (R := fun v H => v = .ptr (.rw 1) 0 ∧ H = [some ⟨1, cs⟩, some ⟨1, cs⟩]) (by rw [show loopsOf (bodyOf Try.f36) = [] by kernel_rfl]; exact dgood (inl := [26]) (ls := []) (M := 0) (mix G B) (by kernel_rfl) .nil .nil) (by kernel_rfl) (by kernel_rfl) (by kernel_rfl) (by
    rw [t36, e]
    refine ⟨okS_0 hs, fun _ => ⟨leB_iff.2 (by omega), ?_, by rw [hl]; rfl, rfl, rfl⟩, fun h => by rw [okS_made hs] at h; cases h⟩
    unfold cellsB
    rw [List.all_eq_true]
    intro v hv
    have h := okS_flat hs 0
    obtain ⟨i, hi⟩ := List.getElem?_of_mem hv
    have hlt : i < 258 := by rw [← hl]; exact (List.getElem?_eq_some_iff.1 hi).1
    by_cases h33 : i < 33
    · have hb : isB cs i = true := by
        by_cases h0 : i = 0
        · subst h0; exact okS_0 hs
        · have := okS_open hs (i := i - 1) (by omega)
          rwa [show i - 1 + 1 = i by omega] at this
      unfold isB at hb
      rw [hi] at hb
      cases v <;> simp_all [isCell]
    · have hb := okS_isF hs (o := i) (by omega) hlt
      unfold isI at hb
      rw [hi] at hb
      cases v <;> simp_all [isCell])
  refine ACalls.keep (k := 2) this (by simp) ?_ rfl (by simp)
  simp only [hpB, okS_flat hs, Bool.and_self]
def copyS : DSum := fun args H => match args with
  | [.ptr (.rw i) (.lit 0)] => match H[i]? with
    | some (some ⟨1, l⟩) => some (.chk (.uf 1300 okSU [.agg l]) (.one (.ptr (.rw H.length) (.lit 0)) [.new ⟨1, l⟩]))
    | _ => none
  | _ => none
theorem copyS_ok (G : Nat → List AV) (B : Nat) : DSumOk (⟨Try.prog, G, B⟩ : Ctx) 36 copyS := by
  intro args H o ho
  unfold copyS at ho
  split at ho
  · rename_i i
    split at ho
    · rename_i l hi
      simp only [Option.some.injEq] at ho
      subst ho
      intro h1
      have h1 : okS (vL G l) = true := h1
      have key := p_copy G B (vL G l) h1
      exact DOut.new1 (C := (⟨Try.prog, G, B⟩ : Ctx)) (v0 := .ptr (.rw 1) 0) hi key (okS_flat h1 0) (okS_flat h1 0) (by simp [vVs, bnds]) (by simp [bnd]) (by simp [vV, vR, vN, ren, List.getD])
    · simp at ho
  · simp at ho
/-! ### Same -/
def s7 (xs ys : List AV) (k : Nat) : Bool := getI xs k == getI ys k && (getI xs (k + 1) == getI ys (k + 1) && (getI xs (k + 2) == getI ys (k + 2) && (getI xs (k + 3) == getI ys (k + 3) && (getI xs (k + 4) == getI ys (k + 4) && (getI xs (k + 5) == getI ys (k + 5) && (getI xs (k + 6) == getI ys (k + 6) && true))))))
def sameB (cs ds : List AV) : Bool := (List.range 32).all (fun i => getB cs (i + 1) == getB ds (i + 1)) && ((List.range 32).all (fun i => s7 cs ds (i * 7 + 33)) && (getI cs 257 == getI ds 257 && true))
theorem sameB_refl (cs : List AV) : sameB cs cs = true := by
  simp [sameB, s7]
def sameU : List AV → Bool := fun ys => match ys with
  | [.agg cs, .agg ds] => sameB cs ds
  | _ => false
theorem eq_slot (x0 x1 x2 x3 x4 x5 x6 y0 y1 y2 y3 y4 y5 y6 : Int) : eqV Try.prog 8 32 (.agg (l7 x0 x1 x2 x3 x4 x5 x6)) (.agg (l7 y0 y1 y2 y3 y4 y5 y6)) = some (true, x0 == y0 && (x1 == y1 && (x2 == y2 && (x3 == y3 && (x4 == y4 && (x5 == y5 && (x6 == y6 && true))))))) := by kernel_rfl
end Go.Am
