/-
  Filters: Check, May, the document's Match: their loops and calls.
-/
import Derived.Test.YtnkcfoicbkobbaaFlA
import Derived.Test.YtnkcfoicbkobbaaFlU
namespace Go.Am
open Go.Proofs
set_option maxRecDepth 100000
theorem dgF (G : Nat → List AV) (B : Nat) : DGood (⟨Try.prog, G, B⟩ : Ctx) (Dc Try.prog [] [] [] 0) [] := dgood (mixF G B) (by kernel_rfl) .nil .nil
theorem leafs3F {i : Nat} {n : Nat} {cs : List AV} (hk : okI .i64 cs 0 (n * 3) = true) (h : i < n) : leafsOk cs (i * 3) [.int .i64, .int .i64, .int .i64] = true := by
  have h0 := okI_get hk (j := i * 3) (by omega)
  have h1 := okI_get hk (j := i * 3 + 1) (by omega)
  have h2 := okI_get hk (j := i * 3 + 1 + 1) (by omega)
  rw [Nat.zero_add] at h0 h1 h2
  simp [leafsOk, leafOk, h0, h1, h2]
theorem tst_isI {i : Nat} {n : Nat} {cs : List AV} (hk : okI .i64 cs 0 (n * 3) = true) (h : i < n) : isI .i64 cs (i * 3) = true ∧ isI .i64 cs (i * 3 + 1) = true ∧ isI .i64 cs (i * 3 + 2) = true := by
  have h0 := okI_get hk (j := i * 3) (by omega)
  have h1 := okI_get hk (j := i * 3 + 1) (by omega)
  have h2 := okI_get hk (j := i * 3 + 2) (by omega)
  rw [Nat.zero_add] at h0 h1 h2
  exact ⟨h0, h1, h2⟩
/-! ### Check -/
theorem ck_loop (G : Nat → List AV) (B : Nat) (k n : Nat) (hk : okI .i64 (G k) 0 (n * 3) = true) (hn : n ≤ 1000000) :
    AWp (⟨Try.prog, G, B⟩ : Ctx) 0 (.loop (loopN Try.f9 0)) (fl 35 [2, 8, 9, 10] [.int .i64 0, .slice true (.ro k) 0 n, .int .i64 (n : Int), .int .i64 0]) []
      (lv 35 [2, 8, 9, 10] fun e vs _ => (allTo (okTst (G k)) n = true ∧ e = .exit 0 ∧ ∃ a b c, vs = [.int .i64 0, a, b, c]) ∨ (allTo (okTst (G k)) n = false ∧ e = .ret ∧ ∃ a b c, vs = [.int .i64 2, a, b, c])) := by
  refine aloop_lv (fun j vs H => ∃ i : Nat, i ≤ n ∧ j = n - i ∧ vs = [.int .i64 0, .slice true (.ro k) 0 n, .int .i64 (n : Int), .int .i64 (i : Int)] ∧ H = [] ∧ ∀ l, l < i → okTst (G k) l = true) n ⟨0, by omega, rfl, rfl, rfl, fun l h => by omega⟩ ?_
  rintro j vs H ⟨i, hi, rfl, rfl, rfl, hall⟩
  refine dloop_ok (C := (⟨Try.prog, G, B⟩ : Ctx)) (dgF G B) (fuel := 300) (n0 := 20) (m := 0) (c := loopN Try.f9 0) (vs := [.int .i64 (.lit 0), .slice true (.ro (.var 1 k)) (.lit 0) (.var 2 n), .int .i64 (.ofN (.var 2 n)), .int .i64 (.var 6 (i : Int))]) (H := []) (by simp) ?_
  rw [ck_b]
  simp only [Int.toNat_natCast, shr8]
  refine ⟨fun h => ?_, fun h => .inl ⟨allTo_iff.2 fun l hl => hall l (by have := of_decide_eq_false h; omega), by first | rfl | trivial, _, _, _, rfl⟩⟩
  have hin : i < n := by have := of_decide_eq_true h; omega
  refine ⟨decide_eq_true (by omega), h, leafs3F hk hin, fun h1 => ?_, fun h1 => ⟨fun h2 => ?_, fun h2 => ⟨fun h3 => ⟨fun h4 => ?_, fun h4 => ?_⟩, fun h3 => ?_⟩⟩⟩
  · refine .inr ⟨allTo_false hin ?_, by first | rfl | trivial, _, _, _, rfl⟩
    have := of_decide_eq_true h1
    have e : decide (0 ≤ tA (G k) i) = false := decide_eq_false (by unfold tA; omega)
    unfold okTst; rw [e]; rfl
  · refine .inr ⟨allTo_false hin ?_, by first | rfl | trivial, _, _, _, rfl⟩
    have := of_decide_eq_true h2
    have e : decide (tA (G k) i < 64) = false := decide_eq_false (by unfold tA; omega)
    unfold okTst; rw [e, Bool.and_false]; rfl
  · have g1 := of_decide_eq_false h1
    have g2 := of_decide_eq_false h2
    have ok : okTst (G k) i = true := by
      unfold okTst
      rw [show by8 (tM (G k) i) = true from h3, show by8 (tV (G k) i) = true from h4, decide_eq_true (show 0 ≤ tA (G k) i by unfold tA; omega), decide_eq_true (show tA (G k) i < 64 by unfold tA; omega)]
      rfl
    rw [i64_in (by omega)]
    refine ⟨n - (i + 1), by omega, .inr ⟨[.int .i64 0, .slice true (.ro k) 0 n, .int .i64 (n : Int), .int .i64 ((i + 1 : Nat) : Int)], [], ⟨i + 1, by omega, rfl, rfl, rfl, fun l hl => ?_⟩, View.same (by simp) rfl (by simp [fv, bnd])⟩⟩
    by_cases e : l = i
    · subst e; exact ok
    · exact hall l (by omega)
  · refine .inr ⟨allTo_false hin ?_, by first | rfl | trivial, _, _, _, rfl⟩
    unfold okTst; rw [show by8 (tV (G k) i) = false from h4, Bool.and_false, Bool.and_false]
  · refine .inr ⟨allTo_false hin ?_, by first | rfl | trivial, _, _, _, rfl⟩
    unfold okTst; rw [show by8 (tM (G k) i) = false from h3, Bool.false_and, Bool.and_false]
/-- rows of whole numbers -/
def rowsU : List AV → Bool := fun xs => match xs with
  | [.agg cs, .int _ n] => okI .i64 cs 0 (n.toNat * 3)
  | _ => false
def bytesU : List AV → Bool := fun xs => match xs with
  | [.agg cs, .int _ n] => okI .u8 cs 0 n.toNat
  | _ => false
def mayU : List AV → Bool := fun xs => match xs with
  | [.agg cs, .int _ n] => mayB cs n.toNat
  | _ => false
def allTU : List AV → Bool := fun xs => match xs with
  | [.agg cs, .int _ n] => allTo (okTst cs) n.toNat
  | _ => false
def chkU : List AV → Int := fun xs => match xs with
  | [.agg cs, .int _ n] => if mayB cs n.toNat then 0 else 2
  | _ => 0
def matchU : List AV → Bool := fun xs => match xs with
  | [.agg cs, .int _ n, .agg ps, .int _ m] => matchB cs n.toNat ps m.toNat
  | _ => false
def ckL : DL := ⟨0, 35, [2, 8, 9, 10], fun vs H => match vs, H with
  | [.int .i64 (.lit 0), .slice true (.ro k) (.lit 0) n, .int .i64 (.ofN n'), .int .i64 (.lit 0)], [] =>
    some (.chk (.eqN n n') (.chk (.leN n (.lit 1000000)) (.chk (.uf 1601 rowsU [.agg (.ro k), .int .i64 (.ofN n)]) (.tst (.uf 1602 allTU [.agg (.ro k), .int .i64 (.ofN n)]) (.one (.exit 0) [.int .i64 (.lit 0), .undef, .undef, .undef] []) (.one .ret [.int .i64 (.lit 2), .undef, .undef, .undef] [])))))
  | _, _ => none⟩
theorem ckL_ok (G : Nat → List AV) (B : Nat) : DLoopOk (⟨Try.prog, G, B⟩ : Ctx) 0 (loopN Try.f9 0) ckL := by
  refine .of fun vs H o ho n Q hQ => ?_
  simp only [ckL] at ho
  split at ho
  · rename_i k n n'
    simp only [Option.some.injEq] at ho
    subst ho
    obtain ⟨h1, h2, h3, h4, h5⟩ := hQ
    have h1 : vN G n = vN G n' := Nat.eq_of_beq_eq_true h1
    have h2 : vN G n ≤ 1000000 := leB_iff.1 h2
    have h3 : okI .i64 (G (vN G k)) 0 (vN G n * 3) = true := h3
    simp only [ckL, vVs, vV, vR, vN, vI, vB, vHp, List.map_nil] at h4 h5 ⊢
    rw [← h1]
    refine (ck_loop G B _ _ h3 h2).lmono ?_
    rintro e vs'' H'' (⟨q1, rfl, a, b, c, rfl⟩ | ⟨q1, rfl, a, b, c, rfl⟩)
    · exact .inr ⟨_, [], View.same (G := H'') (by simp) rfl (by simp [fv, bnd, vVs, vV, vI]), h4 q1⟩
    · exact .inr ⟨_, [], View.same (G := H'') (by simp) rfl (by simp [fv, bnd, vVs, vV, vI]), h5 q1⟩
  · simp at ho
theorem t9F (G : Nat → List AV) (k n : Nat) (Q : Ex → List AV → Hp → Prop) (R : AV → Hp → Prop) : vT G Q R (dcall (Dc Try.prog [] [] [ckL] 0) 300 20 Try.f9 [.slice true (.ro (.var 1 k)) (.lit 0) (.var 2 n)] [] 0) = (
    (decide ((((n : Nat) : Int) : Int) > 8) = true →
      R (.int .i64 (2)) []) ∧
    (decide ((((n : Nat) : Int) : Int) > 8) = false →
      Nat.beq (n) (n) = true ∧
      leB (n) (1000000) = true ∧
      rowsU [.agg (G (k)), .int .i64 (((n : Nat) : Int))] = true ∧
      (allTU [.agg (G (k)), .int .i64 (((n : Nat) : Int))] = true →
        R (.int .i64 (0)) []) ∧
      (allTU [.agg (G (k)), .int .i64 (((n : Nat) : Int))] = false →
        R (.int .i64 (2)) []))) := by kernel_rfl
theorem ck_call (G : Nat → List AV) (B : Nat) (k n : Nat) (hk : okI .i64 (G k) 0 (n * 3) = true) : ACalls (⟨Try.prog, G, B⟩ : Ctx) 9 [.slice true (.ro k) 0 n] [] fun v _ => v = .int .i64 (if mayB (G k) n then 0 else 2) := by
  have := dcall_ok (C := (⟨Try.prog, G, B⟩ : Ctx)) (fuel := 300) (n0 := 20) (f := 9) (fn := Try.f9) (args := [.slice true (.ro (.var 1 k)) (.lit 0) (.var 2 n)]) (H := []) (keep := 0)
    (R := fun v _ => v = .int .i64 (if mayB (G k) n then 0 else 2)) (dgood (mixF G B) (by kernel_rfl) .nil (.cast (.cons (i := 0) (by kernel_rfl) rfl (ckL_ok G B) .nil) (by kernel_rfl))) (by kernel_rfl) (by kernel_rfl) (by kernel_rfl) (by
    rw [t9F]
    refine ⟨fun h => ?_, fun h => ?_⟩
    · have := of_decide_eq_true h
      rw [if_neg (by rw [mayB_iff]; omega)]
    · have hn : n ≤ 8 := by have := of_decide_eq_false h; omega
      refine ⟨Nat.beq_refl n, leB_iff.2 (by omega), hk, fun h1 => ?_, fun h1 => ?_⟩
      · have h1 : allTo (okTst (G k)) n = true := h1
        rw [if_pos (by unfold mayB; rw [h1, decide_eq_true hn]; rfl)]
      · have h1 : allTo (okTst (G k)) n = false := h1
        rw [if_neg (by unfold mayB; rw [h1, Bool.and_false]; simp)])
  exact this.monoK fun v H' h => h
end Go.Am
