/-
  Filters: May, the document's Match, IndexFunc with Match's question, Match; the summaries.
-/
import Derived.Test.YtnkcfoicbkobbaaFlB
namespace Go.Am
open Go.Proofs
set_option maxRecDepth 100000
/-! ### May -/
theorem may_loop (G : Nat → List AV) (B : Nat) (k n : Nat) (hk : okI .i64 (G k) 0 (n * 3) = true) (hn : n ≤ 1000000) :
    AWp (⟨Try.prog, G, B⟩ : Ctx) 0 (.loop (loopN Try.f10 0)) (fl 59 [0, 2, 3] [.slice true (.ro k) 0 n, .bool false, .int .i64 0]) []
      (lv 59 [0, 2, 3] fun e vs H => H = [] ∧ ((allTo (okTst (G k)) n = true ∧ e = .exit 0 ∧ wk [.slice true (.ro k) 0 n, .undef, .undef] vs) ∨ (allTo (okTst (G k)) n = false ∧ e = .ret ∧ wk [.undef, .bool false, .undef] vs))) := by
  refine aloop_lv (fun j vs H => ∃ i : Nat, i ≤ n ∧ j = n - i ∧ vs = [.slice true (.ro k) 0 n, .bool false, .int .i64 (i : Int)] ∧ H = [] ∧ ∀ l, l < i → okTst (G k) l = true) n ⟨0, by omega, rfl, rfl, rfl, fun l h => by omega⟩ ?_
  rintro j vs H ⟨i, hi, rfl, rfl, rfl, hall⟩
  refine dloop_ok (C := (⟨Try.prog, G, B⟩ : Ctx)) (dgF G B) (fuel := 300) (n0 := 20) (m := 0) (c := loopN Try.f10 0) (vs := [.slice true (.ro (.var 1 k)) (.lit 0) (.var 2 n), .bool (.lit false), .int .i64 (.var 6 (i : Int))]) (H := []) (by simp) ?_
  rw [may_b]
  simp only [Int.toNat_natCast]
  refine ⟨fun h => ?_, fun h => ⟨by first | rfl | trivial, .inl ⟨allTo_iff.2 fun l hl => hall l (by have := of_decide_eq_false h; omega), by first | rfl | trivial, by simp [wk]⟩⟩⟩
  have hin : i < n := by have := of_decide_eq_true h; omega
  have h0 : decide ((0 : Int) ≤ (i : Int)) = true := decide_eq_true (by omega)
  obtain ⟨e0, e1, e2⟩ := tst_isI hk hin
  have bad : ¬ ((0 ≤ tA (G k) i ∧ tA (G k) i < 64) ∧ (0 ≤ tM (G k) i ∧ tM (G k) i ≤ 255) ∧ (0 ≤ tV (G k) i ∧ tV (G k) i ≤ 255)) → allTo (okTst (G k)) n = false := fun hb => allTo_false hin (by
    cases e : okTst (G k) i with
    | false => rfl
    | true => exact absurd (okTst_iff.1 e) hb)
  refine ⟨h0, h, e0, fun h1 => ?_, fun h1 => ⟨h0, h, e0, fun h2 => ?_, fun h2 => ⟨h0, h, e1, fun h3 => ?_, fun h3 => ⟨h0, h, e1, fun h4 => ?_, fun h4 => ⟨h0, h, e2, fun h5 => ?_, fun h5 => ⟨h0, h, e2, fun h6 => ?_, fun h6 => ?_⟩⟩⟩⟩⟩⟩
  all_goals try have g1 := of_decide_eq_false h1
  all_goals try have g2 := of_decide_eq_false h2
  all_goals try have g3 := of_decide_eq_false h3
  all_goals try have g4 := of_decide_eq_false h4
  all_goals try have g5 := of_decide_eq_false h5
  · have := of_decide_eq_true h1
    exact ⟨by first | rfl | trivial, .inr ⟨bad (by unfold tA; omega), by first | rfl | trivial, by simp [wk]⟩⟩
  · have := of_decide_eq_true h2
    exact ⟨by first | rfl | trivial, .inr ⟨bad (by unfold tA; omega), by first | rfl | trivial, by simp [wk]⟩⟩
  · have := of_decide_eq_true h3
    exact ⟨by first | rfl | trivial, .inr ⟨bad (by unfold tM; omega), by first | rfl | trivial, by simp [wk]⟩⟩
  · have := of_decide_eq_true h4
    exact ⟨by first | rfl | trivial, .inr ⟨bad (by unfold tM; omega), by first | rfl | trivial, by simp [wk]⟩⟩
  · have := of_decide_eq_true h5
    exact ⟨by first | rfl | trivial, .inr ⟨bad (by unfold tV; omega), by first | rfl | trivial, by simp [wk]⟩⟩
  · have := of_decide_eq_true h6
    exact ⟨by first | rfl | trivial, .inr ⟨bad (by unfold tV; omega), by first | rfl | trivial, by simp [wk]⟩⟩
  · have g6 := of_decide_eq_false h6
    have ok : okTst (G k) i = true := okTst_iff.2 (by unfold tA tM tV; omega)
    rw [i64_in (by omega)]
    refine ⟨n - (i + 1), by omega, .inl ⟨i + 1, by omega, by first | rfl | trivial, by first | rfl | trivial, by first | rfl | trivial, fun l hl => ?_⟩⟩
    by_cases e : l = i
    · subst e; exact ok
    · exact hall l (by omega)
def mayL : DL := ⟨0, 59, [0, 2, 3], fun vs H => match vs, H with
  | [.slice true (.ro k) (.lit 0) n, .bool (.lit false), .int .i64 (.lit 0)], [] =>
    some (.chk (.leN n (.lit 1000000)) (.chk (.uf 1601 rowsU [.agg (.ro k), .int .i64 (.ofN n)]) (.tst (.uf 1602 allTU [.agg (.ro k), .int .i64 (.ofN n)]) (.one (.exit 0) [.slice true (.ro k) (.lit 0) n, .undef, .undef] []) (.one .ret [.undef, .bool (.lit false), .undef] []))))
  | _, _ => none⟩
theorem mayL_ok (G : Nat → List AV) (B : Nat) : DLoopOk (⟨Try.prog, G, B⟩ : Ctx) 0 (loopN Try.f10 0) mayL := by
  refine .of fun vs H o ho n Q hQ => ?_
  simp only [mayL] at ho
  split at ho
  · rename_i k n
    simp only [Option.some.injEq] at ho
    subst ho
    obtain ⟨h2, h3, h4, h5⟩ := hQ
    have h2 : vN G n ≤ 1000000 := leB_iff.1 h2
    have h3 : okI .i64 (G (vN G k)) 0 (vN G n * 3) = true := h3
    simp only [mayL, vVs, vV, vR, vN, vI, vB, vHp, List.map_nil] at h4 h5 ⊢
    refine (may_loop G B _ _ h3 h2).lmono ?_
    rintro e vs'' H'' ⟨rfl, (⟨q1, rfl, q⟩ | ⟨q1, rfl, q⟩)⟩
    · exact .inl ⟨_, q, h4 q1⟩
    · exact .inl ⟨_, q, h5 q1⟩
  · simp at ho
theorem t10F (G : Nat → List AV) (k n : Nat) (Q : Ex → List AV → Hp → Prop) (R : AV → Hp → Prop) : vT G Q R (dcall (Dc Try.prog [] [] [mayL] 0) 300 20 Try.f10 [.slice true (.ro (.var 1 k)) (.lit 0) (.var 2 n)] [] 0) = (
    (decide ((((n : Nat) : Int) : Int) > 8) = true →
      R (.bool (false)) []) ∧
    (decide ((((n : Nat) : Int) : Int) > 8) = false →
      leB (n) (1000000) = true ∧
      rowsU [.agg (G (k)), .int .i64 (((n : Nat) : Int))] = true ∧
      (allTU [.agg (G (k)), .int .i64 (((n : Nat) : Int))] = true →
        R (.bool (true)) []) ∧
      (allTU [.agg (G (k)), .int .i64 (((n : Nat) : Int))] = false →
        R (.bool (false)) []))) := by kernel_rfl
theorem may_call (G : Nat → List AV) (B : Nat) (k n : Nat) (hk : okI .i64 (G k) 0 (n * 3) = true) : ACalls (⟨Try.prog, G, B⟩ : Ctx) 10 [.slice true (.ro k) 0 n] [] fun v _ => v = .bool (mayB (G k) n) := by
  have := dcall_ok (C := (⟨Try.prog, G, B⟩ : Ctx)) (fuel := 300) (n0 := 20) (f := 10) (fn := Try.f10) (args := [.slice true (.ro (.var 1 k)) (.lit 0) (.var 2 n)]) (H := []) (keep := 0)
    (R := fun v _ => v = .bool (mayB (G k) n)) (dgood (mixF G B) (by kernel_rfl) .nil (.cast (.cons (i := 0) (by kernel_rfl) rfl (mayL_ok G B) .nil) (by kernel_rfl))) (by kernel_rfl) (by kernel_rfl) (by kernel_rfl) (by
    rw [t10F]
    refine ⟨fun h => ?_, fun h => ?_⟩
    · have := of_decide_eq_true h
      have e : mayB (G k) n = false := by unfold mayB; rw [decide_eq_false (by omega)]; rfl
      rw [e]
    · have hn : n ≤ 8 := by have := of_decide_eq_false h; omega
      refine ⟨leB_iff.2 (by omega), hk, fun h1 => ?_, fun h1 => ?_⟩
      · have h1 : allTo (okTst (G k)) n = true := h1
        unfold mayB; rw [h1, decide_eq_true hn]; rfl
      · have h1 : allTo (okTst (G k)) n = false := h1
        unfold mayB; rw [h1, Bool.and_false])
  exact this.monoK fun v H' h => h
/-! ### the summaries -/
def checkS : DSum := fun args H => match args with
  | [x] => match rdT H x with
    | some (l, n) => some (.chk (.uf 1601 rowsU [.agg l, .int .i64 (.ofN n)]) (.one (.int .i64 (.uf 1603 chkU [.agg l, .int .i64 (.ofN n)])) []))
    | none => none
  | _ => none
theorem checkS_ok (G : Nat → List AV) (B : Nat) : DSumOk (⟨Try.prog, G, B⟩ : Ctx) 9 checkS := by
  intro args H o ho
  unfold checkS at ho
  split at ho
  · rename_i x
    split at ho
    · rename_i l n hx
      simp only [Option.some.injEq] at ho
      subst ho
      intro h1
      have h1 : okI .i64 (vL G l) 0 (vN G n * 3) = true := h1
      refine DOut.rd1 (C := (⟨Try.prog, G, B⟩ : Ctx)) (vN G n * 3) hx (okI_flatN h1) ⟨rfl, rfl⟩ (fun G' B' e => ?_) ⟨by simp [vV, bnd], by simp [vV, noro]⟩
      have h := ck_call G' B' 0 (vN G n) (by rw [e, okI_take]; exact h1)
      rw [e, mayB_take] at h
      exact h
    · simp at ho
  · simp at ho
def mayS : DSum := fun args H => match args with
  | [x] => match rdT H x with
    | some (l, n) => some (.chk (.uf 1601 rowsU [.agg l, .int .i64 (.ofN n)]) (.one (.bool (.uf 1604 mayU [.agg l, .int .i64 (.ofN n)])) []))
    | none => none
  | _ => none
theorem mayS_ok (G : Nat → List AV) (B : Nat) : DSumOk (⟨Try.prog, G, B⟩ : Ctx) 10 mayS := by
  intro args H o ho
  unfold mayS at ho
  split at ho
  · rename_i x
    split at ho
    · rename_i l n hx
      simp only [Option.some.injEq] at ho
      subst ho
      intro h1
      have h1 : okI .i64 (vL G l) 0 (vN G n * 3) = true := h1
      refine DOut.rd1 (C := (⟨Try.prog, G, B⟩ : Ctx)) (vN G n * 3) hx (okI_flatN h1) ⟨rfl, rfl⟩ (fun G' B' e => ?_) ⟨by simp [vV, bnd], by simp [vV, noro]⟩
      have h := may_call G' B' 0 (vN G n) (by rw [e, okI_take]; exact h1)
      rw [e, mayB_take] at h
      exact h
    · simp at ho
  · simp at ho
/-! ### the document's Match -/
theorem ma_loop (G : Nat → List AV) (B : Nat) (k n k2 m : Nat) (hk : okI .i64 (G k) 0 (n * 3) = true) (hp : okI .u8 (G k2) 0 m = true) (hm : mayB (G k) n = true) :
    AWp (⟨Try.prog, G, B⟩ : Ctx) 0 (.loop (loopN Try.f12 0)) (fl 51 [0, 1, 4, 5] [.slice true (.ro k) 0 n, .slice true (.ro k2) 0 m, .bool false, .int .i64 0]) []
      (lv 51 [0, 1, 4, 5] fun e vs H => H = [] ∧ ((allTo (pasB (G k) (G k2) m) n = true ∧ e = .exit 0 ∧ wk [.undef, .undef, .undef, .undef] vs) ∨ (allTo (pasB (G k) (G k2) m) n = false ∧ e = .ret ∧ wk [.undef, .undef, .bool false, .undef] vs))) := by
  obtain ⟨hn, hok⟩ := mayB_iff.1 hm
  refine aloop_lv (fun j vs H => ∃ i : Nat, i ≤ n ∧ j = n - i ∧ vs = [.slice true (.ro k) 0 n, .slice true (.ro k2) 0 m, .bool false, .int .i64 (i : Int)] ∧ H = [] ∧ ∀ l, l < i → pasB (G k) (G k2) m l = true) n ⟨0, by omega, rfl, rfl, rfl, fun l h => by omega⟩ ?_
  rintro j vs H ⟨i, hi, rfl, rfl, rfl, hall⟩
  refine dloop_ok (C := (⟨Try.prog, G, B⟩ : Ctx)) (dgF G B) (fuel := 300) (n0 := 20) (m := 0) (c := loopN Try.f12 0) (vs := [.slice true (.ro (.var 1 k)) (.lit 0) (.var 2 n), .slice true (.ro (.var 3 k2)) (.lit 0) (.var 4 m), .bool (.lit false), .int .i64 (.var 6 (i : Int))]) (H := []) (by simp) ?_
  rw [ma_b]
  simp only [Int.toNat_natCast]
  refine ⟨fun h => ?_, fun h => ⟨by first | rfl | trivial, .inl ⟨allTo_iff.2 fun l hl => hall l (by have := of_decide_eq_false h; omega), by first | rfl | trivial, by simp [wk]⟩⟩⟩
  have hin : i < n := by have := of_decide_eq_true h; omega
  have h0 : decide ((0 : Int) ≤ (i : Int)) = true := decide_eq_true (by omega)
  obtain ⟨e0, e1, e2⟩ := tst_isI hk hin
  obtain ⟨⟨a0, a1⟩, _, _⟩ := okTst_iff.1 (hok i hin)
  unfold tA at a0 a1
  refine ⟨h0, h, e0, fun h1 => ?_, fun h1 => ⟨h0, h, e0, decide_eq_true a0, ?_, ?_, h0, h, e1, h0, h, e2, fun h2 => ?_, fun h2 => ?_⟩⟩
  · have := of_decide_eq_true h1
    refine ⟨by first | rfl | trivial, .inr ⟨allTo_false hin ?_, by first | rfl | trivial, by simp [wk]⟩⟩
    unfold pasB tA; rw [decide_eq_false (by omega), Bool.false_and]
  · have := of_decide_eq_false h1
    exact decide_eq_true (by omega)
  · have := of_decide_eq_false h1
    have := okI_get hp (j := (getI (G k) (i * 3)).toNat) (by omega)
    rwa [Nat.zero_add] at this
  · have g1 := of_decide_eq_false h1
    rw [i64_in (n := (i : Int) + 1) (by omega)]
    refine ⟨n - (i + 1), by omega, .inl ⟨i + 1, by omega, by first | rfl | trivial, by first | rfl | trivial, by first | rfl | trivial, fun l hl => ?_⟩⟩
    by_cases e : l = i
    · subst e
      unfold pasB tA tM tV; rw [decide_eq_true (by omega), Bool.true_and]; exact h2
    · exact hall l (by omega)
  · refine ⟨by first | rfl | trivial, .inr ⟨allTo_false hin ?_, by first | rfl | trivial, by simp [wk]⟩⟩
    unfold pasB tA tM tV; rw [h2, Bool.and_false]
def passU : List AV → Bool := fun xs => match xs with
  | [.agg cs, .int _ n, .agg ps, .int _ m] => allTo (pasB cs ps m.toNat) n.toNat
  | _ => false
def maL : DL := ⟨0, 51, [0, 1, 4, 5], fun vs H => match vs, H with
  | [.slice true (.ro k) (.lit 0) n, .slice true (.ro k2) (.lit 0) m, .bool (.lit false), .int .i64 (.lit 0)], [] =>
    some (.chk (.uf 1601 rowsU [.agg (.ro k), .int .i64 (.ofN n)]) (.chk (.uf 1605 bytesU [.agg (.ro k2), .int .i64 (.ofN m)]) (.chk (.uf 1604 mayU [.agg (.ro k), .int .i64 (.ofN n)]) (.tst (.uf 1606 passU [.agg (.ro k), .int .i64 (.ofN n), .agg (.ro k2), .int .i64 (.ofN m)]) (.one (.exit 0) [.undef, .undef, .undef, .undef] []) (.one .ret [.undef, .undef, .bool (.lit false), .undef] [])))))
  | _, _ => none⟩
theorem maL_ok (G : Nat → List AV) (B : Nat) : DLoopOk (⟨Try.prog, G, B⟩ : Ctx) 0 (loopN Try.f12 0) maL := by
  refine .of fun vs H o ho n Q hQ => ?_
  simp only [maL] at ho
  split at ho
  · rename_i k n k2 m
    simp only [Option.some.injEq] at ho
    subst ho
    obtain ⟨h1, h2, h3, h4, h5⟩ := hQ
    have h1 : okI .i64 (G (vN G k)) 0 (vN G n * 3) = true := h1
    have h2 : okI .u8 (G (vN G k2)) 0 (vN G m) = true := h2
    have h3 : mayB (G (vN G k)) (vN G n) = true := h3
    simp only [maL, vVs, vV, vR, vN, vI, vB, vHp, List.map_nil] at h4 h5 ⊢
    refine (ma_loop G B _ _ _ _ h1 h2 h3).lmono ?_
    rintro e vs'' H'' ⟨rfl, (⟨q1, rfl, q⟩ | ⟨q1, rfl, q⟩)⟩
    · exact .inl ⟨_, q, h4 q1⟩
    · exact .inl ⟨_, q, h5 q1⟩
  · simp at ho
def progFa : List (Nat × DSum) := [(9, checkS), (10, mayS)]
theorem progFa_ok (G : Nat → List AV) (B : Nat) : DSumsOk (⟨Try.prog, G, B⟩ : Ctx) progFa := .cons (checkS_ok G B) (.cons (mayS_ok G B) .nil)
theorem t12F (G : Nat → List AV) (k n k2 m : Nat) (Q : Ex → List AV → Hp → Prop) (R : AV → Hp → Prop) : vT G Q R (dcall (Dc Try.prog [] progFa [maL] 0) 300 20 Try.f12 [.slice true (.ro (.var 1 k)) (.lit 0) (.var 2 n), .slice true (.ro (.var 3 k2)) (.lit 0) (.var 4 m)] [] 0) = (
    rowsU [.agg (G (k)), .int .i64 (((n : Nat) : Int))] = true ∧
    (mayU [.agg (G (k)), .int .i64 (((n : Nat) : Int))] = true →
      (decide ((((m : Nat) : Int) : Int) > 64) = true →
        R (.bool (false)) []) ∧
      (decide ((((m : Nat) : Int) : Int) > 64) = false →
        rowsU [.agg (G (k)), .int .i64 (((n : Nat) : Int))] = true ∧
        bytesU [.agg (G (k2)), .int .i64 (((m : Nat) : Int))] = true ∧
        mayU [.agg (G (k)), .int .i64 (((n : Nat) : Int))] = true ∧
        (passU [.agg (G (k)), .int .i64 (((n : Nat) : Int)), .agg (G (k2)), .int .i64 (((m : Nat) : Int))] = true →
          R (.bool (true)) []) ∧
        (passU [.agg (G (k)), .int .i64 (((n : Nat) : Int)), .agg (G (k2)), .int .i64 (((m : Nat) : Int))] = false →
          R (.bool (false)) []))) ∧
    (mayU [.agg (G (k)), .int .i64 (((n : Nat) : Int))] = false →
      R (.bool (false)) [])) := by kernel_rfl
theorem ma_call (G : Nat → List AV) (B : Nat) (k n k2 m : Nat) (hk : okI .i64 (G k) 0 (n * 3) = true) (hp : okI .u8 (G k2) 0 m = true) : ACalls (⟨Try.prog, G, B⟩ : Ctx) 12 [.slice true (.ro k) 0 n, .slice true (.ro k2) 0 m] [] fun v _ => v = .bool (matchB (G k) n (G k2) m) := by
  have := dcall_ok (C := (⟨Try.prog, G, B⟩ : Ctx)) (fuel := 300) (n0 := 20) (f := 12) (fn := Try.f12) (args := [.slice true (.ro (.var 1 k)) (.lit 0) (.var 2 n), .slice true (.ro (.var 3 k2)) (.lit 0) (.var 4 m)]) (H := []) (keep := 0)
    (R := fun v _ => v = .bool (matchB (G k) n (G k2) m)) (dgood (mixF G B) (by kernel_rfl) (progFa_ok G B) (.cast (.cons (i := 0) (by kernel_rfl) rfl (maL_ok G B) .nil) (by kernel_rfl))) (by kernel_rfl) (by kernel_rfl) (by kernel_rfl) (by
    rw [t12F]
    refine ⟨hk, fun h1 => ⟨fun h2 => ?_, fun h2 => ⟨hk, hp, h1, fun h3 => ?_, fun h3 => ?_⟩⟩, fun h1 => ?_⟩
    · have := of_decide_eq_true h2
      unfold matchB; rw [decide_eq_false (show ¬ m ≤ 64 by omega), Bool.false_and, Bool.and_false]
    · have := of_decide_eq_false h2
      have h1 : mayB (G k) n = true := h1
      have h3 : allTo (pasB (G k) (G k2) m) n = true := h3
      unfold matchB; rw [decide_eq_true (show m ≤ 64 by omega), h1, h3]; rfl
    · have h3 : allTo (pasB (G k) (G k2) m) n = false := h3
      unfold matchB; rw [h3, Bool.and_false, Bool.and_false]
    · have h1 : mayB (G k) n = false := h1
      unfold matchB; rw [h1, Bool.false_and])
  exact this.monoK fun v H' h => h
def matchS : DSum := fun args H => match args with
  | [x, y] => match rdT H x, rdT H y with
    | some (l, n), some (l2, m) => some (.chk (.uf 1601 rowsU [.agg l, .int .i64 (.ofN n)]) (.chk (.uf 1605 bytesU [.agg l2, .int .i64 (.ofN m)]) (.one (.bool (.uf 1607 matchU [.agg l, .int .i64 (.ofN n), .agg l2, .int .i64 (.ofN m)])) [])))
    | _, _ => none
  | _ => none
theorem matchS_of (G : Nat → List AV) (B : Nat) {f : Nat} (h : ∀ (G : Nat → List AV) (B : Nat) (k n k2 m : Nat) (_ : okI .i64 (G k) 0 (n * 3) = true) (_ : okI .u8 (G k2) 0 m = true), ACalls (⟨Try.prog, G, B⟩ : Ctx) f [.slice true (.ro k) 0 n, .slice true (.ro k2) 0 m] [] fun v _ => v = .bool (matchB (G k) n (G k2) m)) : DSumOk (⟨Try.prog, G, B⟩ : Ctx) f matchS := by
  intro args H o ho
  unfold matchS at ho
  split at ho
  · rename_i x y
    split at ho
    · rename_i l n l2 m hx hy
      simp only [Option.some.injEq] at ho
      subst ho
      intro h1 h2
      have h1 : okI .i64 (vL G l) 0 (vN G n * 3) = true := h1
      have h2 : okI .u8 (vL G l2) 0 (vN G m) = true := h2
      refine DOut.rd2 (C := (⟨Try.prog, G, B⟩ : Ctx)) (vN G n * 3) (vN G m) hx hy (okI_flatN h1) (okI_flatN h2) ⟨rfl, rfl⟩ (fun G' B' e e' => ?_) ⟨by simp [vV, bnd], by simp [vV, noro]⟩
      have h := h G' B' 0 (vN G n) 1 (vN G m) (by rw [e, okI_take]; exact h1) (by rw [e', okI_take]; exact h2)
      rw [e, e', matchB_take] at h
      exact h
    · simp at ho
  · simp at ho
/-! ### IndexFunc with Match's question -/
/-- the first test that lets the packet not by; -1: none -/
def ixF (cs ps : List AV) (m : Nat) : Nat → Int
  | 0 => -1
  | n + 1 => if ixF cs ps m n = -1 then (if pasB cs ps m n then -1 else (n : Int)) else ixF cs ps m n
theorem ixF_iff {cs ps : List AV} {m : Nat} : ∀ {n : Nat}, (ixF cs ps m n = -1 ↔ allTo (pasB cs ps m) n = true) ∧ -1 ≤ ixF cs ps m n ∧ ixF cs ps m n < (n : Int)
  | 0 => by simp [ixF, allTo]
  | n + 1 => by
    obtain ⟨h1, h2, h3⟩ := ixF_iff (cs := cs) (ps := ps) (m := m) (n := n)
    simp only [ixF, allTo, Bool.and_eq_true]
    split
    · rename_i h
      split
      · rename_i hp; exact ⟨⟨fun _ => ⟨h1.1 h, hp⟩, fun _ => rfl⟩, by omega, by omega⟩
      · rename_i hp; exact ⟨⟨fun q => by omega, fun q => absurd q.2 hp⟩, by omega, by omega⟩
    · rename_i h
      exact ⟨⟨fun q => absurd q h, fun q => absurd (h1.2 q.1) h⟩, by omega, by omega⟩
theorem ixF_at {cs ps : List AV} {m n i : Nat} (hi : i < n) (hall : ∀ l, l < i → pasB cs ps m l = true) (hb : pasB cs ps m i = false) : ixF cs ps m n = (i : Int) := by
  have e0 : ixF cs ps m i = -1 := ixF_iff.1.2 (allTo_iff.2 hall)
  have e1 : ixF cs ps m (i + 1) = (i : Int) := by simp only [ixF, e0, hb]; simp
  have key : ∀ d, ixF cs ps m (i + 1 + d) = (i : Int) := by
    intro d
    induction d with
    | zero => exact e1
    | succ d ih =>
      rw [show i + 1 + (d + 1) = (i + 1 + d) + 1 by omega, ixF, if_neg (by omega), ih]
  have := key (n - (i + 1))
  rwa [show i + 1 + (n - (i + 1)) = n by omega] at this
theorem ix_loop (G : Nat → List AV) (B : Nat) (k n k2 m : Nat) (hk : okI .i64 (G k) 0 (n * 3) = true) (hp : okI .u8 (G k2) 0 m = true) (hm : mayB (G k) n = true) :
    AWp (⟨Try.prog, G, B⟩ : Ctx) 1 (.loop (loopN Try.f39 0)) (fl 19 [0, 1, 4, 7, 8] [.slice true (.ro k) 0 n, .func 27 [.ptr (.rw 0) 0], .int .i64 0, .int .i64 (n : Int), .int .i64 0]) [some ⟨1, [.slice true (.ro k2) 0 m]⟩]
      (lv 19 [0, 1, 4, 7, 8] fun e vs H => (∃ Gx, H = [some ⟨1, [.slice true (.ro k2) 0 m]⟩] ++ Gx) ∧ ((ixF (G k) (G k2) m n = -1 ∧ e = .exit 0 ∧ ∃ a b c d x, vs = [a, b, c, d, x]) ∨ (ixF (G k) (G k2) m n ≠ -1 ∧ e = .ret ∧ ∃ a b c d, vs = [a, b, .int .i64 (ixF (G k) (G k2) m n), c, d]))) := by
  obtain ⟨hn, hok⟩ := mayB_iff.1 hm
  refine aloop_lv (fun j vs H => ∃ i : Nat, i ≤ n ∧ j = n - i ∧ vs = [.slice true (.ro k) 0 n, .func 27 [.ptr (.rw 0) 0], .int .i64 0, .int .i64 (n : Int), .int .i64 (i : Int)] ∧ H = [some ⟨1, [.slice true (.ro k2) 0 m]⟩] ∧ ∀ l, l < i → pasB (G k) (G k2) m l = true) n ⟨0, by omega, rfl, rfl, rfl, fun l h => by omega⟩ ?_
  rintro j vs H ⟨i, hi, rfl, rfl, rfl, hall⟩
  refine dloop_ok (C := (⟨Try.prog, G, B⟩ : Ctx)) (dgood (inl := [27]) (ls := []) (M := 0) (mixF G B) (by kernel_rfl) .nil .nil) (fuel := 300) (n0 := 20) (m := 1) (c := loopN Try.f39 0) (vs := [.slice true (.ro (.var 1 k)) (.lit 0) (.var 2 n), .func 27 [.ptr (.rw 0) (.lit 0)], .int .i64 (.lit 0), .int .i64 (.ofN (.var 2 n)), .int .i64 (.var 6 (i : Int))]) (H := [some ⟨1, .of [.slice true (.ro (.var 3 k2)) (.lit 0) (.var 4 m)]⟩]) (by simp) ?_
  rw [ix_b]
  simp only [Int.toNat_natCast]
  refine ⟨fun h => ?_, fun h => ⟨⟨[], rfl⟩, .inl ⟨ixF_iff.1.2 (allTo_iff.2 fun l hl => hall l (by have := of_decide_eq_false h; omega)), by first | rfl | trivial, _, _, _, _, _, rfl⟩⟩⟩
  have hin : i < n := by have := of_decide_eq_true h; omega
  obtain ⟨⟨a0, a1⟩, _, _⟩ := okTst_iff.1 (hok i hin)
  unfold tA at a0 a1
  refine ⟨decide_eq_true (by omega), h, leafs3F hk hin, fun h1 => ?_, fun h1 => ⟨decide_eq_true a0, ?_, ?_, fun h2 => ?_, fun h2 => ?_⟩⟩
  · have := of_decide_eq_true h1
    have e := ixF_at hin hall (by unfold pasB tA; rw [decide_eq_false (by omega), Bool.false_and])
    rw [e]
    exact ⟨⟨_, rfl⟩, .inr ⟨by omega, by first | rfl | trivial, _, _, _, _, rfl⟩⟩
  · have := of_decide_eq_false h1
    exact decide_eq_true (by omega)
  · have := of_decide_eq_false h1
    have := okI_get hp (j := (getI (G k) (i * 3)).toNat) (by omega)
    rwa [Nat.zero_add] at this
  · have g1 := of_decide_eq_false h1
    rw [i64_in (n := (i : Int) + 1) (by omega)]
    refine ⟨n - (i + 1), by omega, .inr ⟨[.slice true (.ro k) 0 n, .func 27 [.ptr (.rw 0) 0], .int .i64 0, .int .i64 (n : Int), .int .i64 ((i + 1 : Nat) : Int)], [some ⟨1, [.slice true (.ro k2) 0 m]⟩], ⟨i + 1, by omega, rfl, rfl, rfl, fun l hl => ?_⟩, View.same (by simp) (by simp [hpB, bnds, bnd]) (by simp [fv, bnd, bnds])⟩⟩
    by_cases e : l = i
    · subst e
      unfold pasB tA tM tV; rw [decide_eq_true (by omega), Bool.true_and]; exact h2
    · exact hall l (by omega)
  · have e := ixF_at hin hall (by unfold pasB tA tM tV; rw [h2, Bool.and_false])
    rw [e]
    exact ⟨⟨_, rfl⟩, .inr ⟨by omega, by first | rfl | trivial, _, _, _, _, rfl⟩⟩
def ixU : List AV → Int := fun xs => match xs with
  | [.agg cs, .int _ n, .agg ps, .int _ m] => ixF cs ps m.toNat n.toNat
  | _ => 0
def ixL : DL := ⟨0, 19, [0, 1, 4, 7, 8], fun vs H => match vs, H with
  | [.slice true (.ro k) (.lit 0) n, .func 27 [.ptr (.rw 0) (.lit 0)], .int .i64 (.lit 0), .int .i64 (.ofN n'), .int .i64 (.lit 0)], [some ⟨1, .of [.slice true (.ro k2) (.lit 0) m]⟩] =>
    some (.chk (.eqN n n') (.chk (.uf 1601 rowsU [.agg (.ro k), .int .i64 (.ofN n)]) (.chk (.uf 1605 bytesU [.agg (.ro k2), .int .i64 (.ofN m)]) (.chk (.uf 1604 mayU [.agg (.ro k), .int .i64 (.ofN n)])
      (.tst (.cmp .eql (.uf 1608 ixU [.agg (.ro k), .int .i64 (.ofN n), .agg (.ro k2), .int .i64 (.ofN m)]) (.lit (-1))) (.one (.exit 0) [.undef, .undef, .undef, .undef, .undef] [some ⟨1, .of [.slice true (.ro k2) (.lit 0) m]⟩])
        (.one .ret [.undef, .undef, .int .i64 (.uf 1608 ixU [.agg (.ro k), .int .i64 (.ofN n), .agg (.ro k2), .int .i64 (.ofN m)]), .undef, .undef] [some ⟨1, .of [.slice true (.ro k2) (.lit 0) m]⟩]))))))
  | _, _ => none⟩
theorem ixL_ok (G : Nat → List AV) (B : Nat) : DLoopOk (⟨Try.prog, G, B⟩ : Ctx) 1 (loopN Try.f39 0) ixL := by
  refine .of fun vs H o ho n Q hQ => ?_
  simp only [ixL] at ho
  split at ho
  · rename_i k n n' k2 m
    simp only [Option.some.injEq] at ho
    subst ho
    obtain ⟨h0, h1, h2, h3, h4, h5⟩ := hQ
    have h0 : vN G n = vN G n' := Nat.eq_of_beq_eq_true h0
    have h1 : okI .i64 (G (vN G k)) 0 (vN G n * 3) = true := h1
    have h2 : okI .u8 (G (vN G k2)) 0 (vN G m) = true := h2
    have h3 : mayB (G (vN G k)) (vN G n) = true := h3
    simp only [ixL, vVs, vV, vR, vN, vI, vB, vHp, List.map_cons, List.map_nil, Option.map_some, vBlk, vL, cmpI] at h4 h5 ⊢
    rw [← h0]
    refine (ix_loop G B _ _ _ _ h1 h2 h3).lmono ?_
    rintro e vs'' H'' ⟨⟨Gx, rfl⟩, (⟨q1, rfl, a, b, c, d, x, rfl⟩ | ⟨q1, rfl, a, b, c, d, rfl⟩)⟩
    · exact .inr ⟨_, _, View.same (G := Gx) (by simp) (by simp [hpB, bnds, bnd]) (by show fv 1 [.undef, .undef, .undef, .undef, .undef] [a, b, c, d, x]; simp [fv]), h4 (by show (ixF _ _ _ _ == (-1 : Int)) = true; rw [show ((vN G m : Int)).toNat = vN G m from Int.toNat_natCast _, show ((vN G n : Int)).toNat = vN G n from Int.toNat_natCast _, q1]; rfl)⟩
    · exact .inr ⟨_, _, View.same (G := Gx) (by simp) (by simp [hpB, bnds, bnd]) (by show fv 1 [.undef, .undef, .int .i64 (ixF (G (vN G k)) (G (vN G k2)) (vN G m) (vN G n)), .undef, .undef] [a, b, .int .i64 (ixF (G (vN G k)) (G (vN G k2)) (vN G m) (vN G n)), c, d]; simp [fv, bnd]), h5 (by show (ixF _ _ _ _ == (-1 : Int)) = false; rw [show ((vN G m : Int)).toNat = vN G m from Int.toNat_natCast _, show ((vN G n : Int)).toNat = vN G n from Int.toNat_natCast _]; simpa using q1)⟩
  · simp at ho
theorem t39F (G : Nat → List AV) (k n k2 m : Nat) (Q : Ex → List AV → Hp → Prop) (R : AV → Hp → Prop) : vT G Q R (dcall (Dc Try.prog [] [] [ixL] 1) 300 20 Try.f39 [.slice true (.ro (.var 1 k)) (.lit 0) (.var 2 n), .func 27 [.ptr (.rw 0) (.lit 0)]] [some ⟨1, .of [.slice true (.ro (.var 3 k2)) (.lit 0) (.var 4 m)]⟩] 1) = (
    Nat.beq (n) (n) = true ∧
    rowsU [.agg (G (k)), .int .i64 (((n : Nat) : Int))] = true ∧
    bytesU [.agg (G (k2)), .int .i64 (((m : Nat) : Int))] = true ∧
    mayU [.agg (G (k)), .int .i64 (((n : Nat) : Int))] = true ∧
    (((ixU [.agg (G (k)), .int .i64 (((n : Nat) : Int)), .agg (G (k2)), .int .i64 (((m : Nat) : Int))] : Int) == (-1)) = true →
      R (.int .i64 ((-1))) [some ⟨1, ([.slice true (.ro (k2)) (0) (m)] : List AV)⟩]) ∧
    (((ixU [.agg (G (k)), .int .i64 (((n : Nat) : Int)), .agg (G (k2)), .int .i64 (((m : Nat) : Int))] : Int) == (-1)) = false →
      R (.int .i64 (ixU [.agg (G (k)), .int .i64 (((n : Nat) : Int)), .agg (G (k2)), .int .i64 (((m : Nat) : Int))])) [some ⟨1, ([.slice true (.ro (k2)) (0) (m)] : List AV)⟩])) := by kernel_rfl
theorem ix_call (G : Nat → List AV) (B : Nat) (k n k2 m : Nat) (hk : okI .i64 (G k) 0 (n * 3) = true) (hp : okI .u8 (G k2) 0 m = true) (hm : mayB (G k) n = true) : ACalls (⟨Try.prog, G, B⟩ : Ctx) 39 [.slice true (.ro k) 0 n, .func 27 [.ptr (.rw 0) 0]] [some ⟨1, [.slice true (.ro k2) 0 m]⟩] fun v H => v = .int .i64 (ixF (G k) (G k2) m n) ∧ H.take 1 = [some ⟨1, [.slice true (.ro k2) 0 m]⟩] := by
  have := dcall_ok (C := (⟨Try.prog, G, B⟩ : Ctx)) (fuel := 300) (n0 := 20) (f := 39) (fn := Try.f39) (args := [.slice true (.ro (.var 1 k)) (.lit 0) (.var 2 n), .func 27 [.ptr (.rw 0) (.lit 0)]]) (H := [some ⟨1, .of [.slice true (.ro (.var 3 k2)) (.lit 0) (.var 4 m)]⟩]) (keep := 1)
    (R := fun v H => v = .int .i64 (ixF (G k) (G k2) m n) ∧ H = [some ⟨1, [.slice true (.ro k2) 0 m]⟩]) (dgood (mixF G B) (by kernel_rfl) .nil (.cast (.cons (i := 0) (by kernel_rfl) rfl (ixL_ok G B) .nil) (by kernel_rfl))) (by kernel_rfl) (by kernel_rfl) (by kernel_rfl) (by
    rw [t39F]
    refine ⟨Nat.beq_refl n, hk, hp, hm, fun h => ⟨?_, rfl⟩, fun h => ⟨rfl, rfl⟩⟩
    have h : (ixF (G k) (G k2) m n == (-1 : Int)) = true := h
    rw [eq_of_beq h])
  exact this
def ixS : DSum := fun args H => match args with
  | [.slice true (.ro k) (.lit 0) n, .func 27 [.ptr (.rw b) (.lit 0)]] => match H[b]? with
    | some (some ⟨1, .of [.slice true (.ro k2) (.lit 0) m]⟩) =>
      some (.chk (.uf 1601 rowsU [.agg (.ro k), .int .i64 (.ofN n)]) (.chk (.uf 1605 bytesU [.agg (.ro k2), .int .i64 (.ofN m)]) (.chk (.uf 1604 mayU [.agg (.ro k), .int .i64 (.ofN n)]) (.one (.int .i64 (.uf 1608 ixU [.agg (.ro k), .int .i64 (.ofN n), .agg (.ro k2), .int .i64 (.ofN m)])) []))))
    | _ => none
  | _ => none
theorem ixS_ok (G : Nat → List AV) (B : Nat) : DSumOk (⟨Try.prog, G, B⟩ : Ctx) 39 ixS := by
  intro args H o ho
  unfold ixS at ho
  split at ho
  · rename_i k n b
    split at ho
    · rename_i k2 m hb
      simp only [Option.some.injEq] at ho
      subst ho
      intro h1 h2 h3
      have key := ix_call G B (vN G k) (vN G n) (vN G k2) (vN G m) h1 h2 h3
      exact DOut.get1g (C := (⟨Try.prog, G, B⟩ : Ctx)) (args0 := [.slice true (.ro (vN G k)) 0 (vN G n), .func 27 [.ptr (.rw 0) 0]]) hb key (by simp [vL, vVs, vV, vR, bnds, bnd]) (by simp [bnds, bnd]) (by simp [vVs, vV, vR, vN, rens, ren]) (by simp [vV, bnd]) (by simp [vV])
    · simp at ho
  · simp at ho
def progFb : List (Nat × DSum) := (12, matchS) :: (39, ixS) :: progFa
theorem progFb_ok (G : Nat → List AV) (B : Nat) : DSumsOk (⟨Try.prog, G, B⟩ : Ctx) progFb := .cons (matchS_of G B fun G B k n k2 m => ma_call G B k n k2 m) (.cons (ixS_ok G B) (progFa_ok G B))
theorem t11F (G : Nat → List AV) (k n k2 m : Nat) (Q : Ex → List AV → Hp → Prop) (R : AV → Hp → Prop) : vT G Q R (dcall (Dc Try.prog [26] progFb [] 0) 300 20 Try.f11 [.slice true (.ro (.var 1 k)) (.lit 0) (.var 2 n), .slice true (.ro (.var 3 k2)) (.lit 0) (.var 4 m)] [] 0) = (
    rowsU [.agg (G (k)), .int .i64 (((n : Nat) : Int))] = true ∧
    (((chkU [.agg (G (k)), .int .i64 (((n : Nat) : Int))] : Int) == 0) = true →
      (decide ((((m : Nat) : Int) : Int) > 64) = true →
        R (.bool (false)) []) ∧
      (decide ((((m : Nat) : Int) : Int) > 64) = false →
        rowsU [.agg (G (k)), .int .i64 (((n : Nat) : Int))] = true ∧
        bytesU [.agg (G (k2)), .int .i64 (((m : Nat) : Int))] = true ∧
        mayU [.agg (G (k)), .int .i64 (((n : Nat) : Int))] = true ∧
        R (.bool ((!(decide ((ixU [.agg (G (k)), .int .i64 (((n : Nat) : Int)), .agg (G (k2)), .int .i64 (((m : Nat) : Int))] : Int) ≥ 0))))) [])) ∧
    (((chkU [.agg (G (k)), .int .i64 (((n : Nat) : Int))] : Int) == 0) = false →
      R (.bool (false)) [])) := by kernel_rfl
end Go.Am
