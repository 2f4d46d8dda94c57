/-
  ProcsOnce: the loop, the run.
-/
import Derived.Test.YtkabjomhnddnoaaPrOc
namespace Go.Am
open Go.Proofs Crc
set_option maxRecDepth 100000
open Classical in
noncomputable def isSt2 (vs0 : List AV) (H0 : Hp) : List AV → Bool := fun xs => decide (∃ l1 l2, bnds 0 l1 = true ∧ bnds 0 l2 = true ∧ xs = [.agg vs0, .agg (encHB (H0 ++ [some ⟨1, l1⟩, some ⟨1, l2⟩]))])
theorem isSt2_iff {vs0 : List AV} {H0 : Hp} {xs : List AV} : isSt2 vs0 H0 xs = true ↔ ∃ l1 l2, bnds 0 l1 = true ∧ bnds 0 l2 = true ∧ xs = [.agg vs0, .agg (encHB (H0 ++ [some ⟨1, l1⟩, some ⟨1, l2⟩]))] := by
  unfold isSt2
  simp only [decide_eq_true_eq]
theorem DLat_ok2 {C : Ctx} {M : Nat} {c : Code} {j : Nat} {ex N : Nat} {live : List Nat} {o : LOut} {vs0 : List AV} {H0 : Hp}
    (h : ∀ l1 l2, bnds 0 l1 = true → bnds 0 l2 = true → AWp C M (.loop c) (fl N live vs0) (H0 ++ [some ⟨1, l1⟩, some ⟨1, l2⟩]) (lv N live (o.post C.G M))) : DLoopOk C M c (DLat j (isSt2 vs0 H0) ex N live o) := by
  refine .of fun vs H o' ho n Q hQ => ?_
  simp only [DLat, Option.some.injEq] at ho
  subst ho
  obtain ⟨h1, h2⟩ := hQ
  simp only [vB, vVs, vV, vL, encH_ok] at h1
  obtain ⟨l1, l2, b1, b2, e⟩ := isSt2_iff.1 h1
  simp only [List.cons.injEq, AV.agg.injEq, and_true] at e
  obtain ⟨e1, e2⟩ := e
  rw [e1, encH_inj _ _ e2]
  exact (h l1 l2 b1 b2).lmono fun e vs H hp => post_holds o n h2 hp
theorem DLat_no {C : Ctx} {M : Nat} {c : Code} {j ex N : Nat} {live : List Nat} {o : LOut} : DLoopOk C M c (DLat j (fun _ => false) ex N live o) := by
  refine .of fun vs H o' ho n Q hQ => ?_
  simp only [DLat, Option.some.injEq] at ho
  subst ho
  exact absurd hQ.1 (by simp [vB])
theorem lo_round (G : Nat → List AV) (B : Nat) {s : Ptb} (hw : Wf s) (k n i : Nat) (hk : okI .i64 (G k) 0 (n * 4) = true) (hi : i ≤ n ∧ i ≤ 200) :
    AWp (⟨Try.prog, G, B⟩ : Ctx) 0 (loopN Try.f3 0) (fl 146 [0, 2, 3, 4] [.slice true (.ro k) 0 n, .bool false, .ptr (.rw 0) 0, .int .i64 (i : Int)]) (can tsP s) (lv 146 [0, 2, 3, 4] (LoQ k n i)) := by
  by_cases hc : waitE s (getI (G k) (i * 4 + 1)) (getI (G k) (i * 4 + 2)) = 0 ∧ waitW s (getI (G k) (i * 4 + 1)) (getI (G k) (i * 4 + 2)) = false
  · have y := wait_ok hw hc.1 hc.2
    have hw2 : Wf (waitX s (getI (G k) (i * 4 + 1)) (getI (G k) (i * 4 + 2))) := hw.waitX _ _
    have hle := y.le
    have h1 := (isP_iff.1 y.is).1
    refine lo_rd G B hw k n i hk hi (isSt2 [.slice true (.ro k) 0 n, .bool false, .ptr (.rw 0) 0, .int .i64 (i : Int), .ptr (.rw 14) 0, .ptr (.rw 15) 0, .int .i64 (waitC s (getI (G k) (i * 4 + 1)) (getI (G k) (i * 4 + 2))), .int .i64 1] (vHp G (objD 1 (.var 5 (encX (waitX s (getI (G k) (i * 4 + 1)) (getI (G k) (i * 4 + 2))))) ++ ([some ⟨1, .of [.int .i64 (.var 10 (getI (G k) (i * 4))), .int .i64 (.var 11 (getI (G k) (i * 4 + 1))), .int .i64 (.var 12 (getI (G k) (i * 4 + 2))), .int .i64 (.var 13 (getI (G k) (i * 4 + 3)))]⟩] : DHp) ++ objD 16 (.var 1 (encX s))))) (DLat_ok2 fun l1 l2 b1 b2 => ?_) fun _ _ l1 l2 b1 b2 => ?_
    · have := lo_inner G B hw hw2.thin b1 b2 (x := encX s) (y := encX (waitX s (getI (G k) (i * 4 + 1)) (getI (G k) (i * 4 + 2)))) rfl rfl k n i (getI (G k) (i * 4)) (getI (G k) (i * 4 + 1)) (getI (G k) (i * 4 + 2)) (getI (G k) (i * 4 + 3)) (waitC s (getI (G k) (i * 4 + 1)) (getI (G k) (i * 4 + 2))) ⟨h1, hle.2⟩ y.first
      exact this
    · exact isSt2_iff.2 ⟨l1, l2, b1, b2, rfl⟩
  · exact lo_rd G B hw k n i hk hi (fun _ => false) DLat_no fun a b => absurd ⟨a, b⟩ hc
theorem lo_loop (G : Nat → List AV) (B : Nat) (k n : Nat) (hk : okI .i64 (G k) 0 (n * 4) = true) :
    AWp (⟨Try.prog, G, B⟩ : Ctx) 0 (.loop (loopN Try.f3 0)) (fl 146 [0, 2, 3, 4] [.slice true (.ro k) 0 n, .bool false, .ptr (.rw 0) 0, .int .i64 0]) (can tsP new0) (lv 146 [0, 2, 3, 4] (LOut.post G 0 (.one (.exit 0) [.undef, .bool (.lit false), .undef, .undef] []))) := by
  refine aloop_lv (fun j vs H => ∃ (i : Nat) (s : Ptb), Wf s ∧ (i ≤ n ∧ i ≤ 200) ∧ j = 200 - i ∧ vs = [.slice true (.ro k) 0 n, .bool false, .ptr (.rw 0) 0, .int .i64 (i : Int)] ∧ H = can tsP s) 200 ⟨0, new0, new0_wf, ⟨by omega, by omega⟩, rfl, rfl, rfl⟩ ?_
  rintro j vs H ⟨i, s, hw, hi, rfl, rfl, rfl⟩
  refine (lo_round G B hw k n i hk hi).lmono ?_
  intro e vs H hq
  match e, hq with
  | .normal, ⟨⟨h1, h2⟩, s', hw', hv⟩ => exact ⟨200 - (i + 1), by omega, .inr ⟨_, _, ⟨i + 1, s', hw', ⟨by omega, by omega⟩, rfl, rfl, rfl⟩, hv⟩⟩
  | .exit 0, hq =>
    refine ⟨rfl, .inr ?_⟩
    refine View.same (m := 0) (H := []) (G := H) (Nat.le_refl _) rfl ?_
    match vs, hq with
    | [x0, x1, x2, x3], hq => exact ⟨⟨rfl, hq.1⟩, trivial⟩
theorem once_call (G : Nat → List AV) (B : Nat) (k n : Nat) (hk : okI .i64 (G k) 0 (n * 4) = true) : ACalls (⟨Try.prog, G, B⟩ : Ctx) 3 [.slice true (.ro k) 0 n] [] fun v _ => v = .bool true := by
  have := dlaw_ok (C := (⟨Try.prog, G, B⟩ : Ctx)) (K := Dc Try.prog [] ((9, knownS) :: (10, newQ 2101 tsP) :: onceQ (okObj tsP)) [DLat 0x99E (isSt [.slice true (.ro k) 0 n, .bool false, .ptr (.rw 0) 0, .int .i64 0] (objL 1 (new0U []))) 0 146 [0, 2, 3, 4] (.one (.exit 0) [.undef, .bool (.lit false), .undef, .undef] [])] 0) (fuel := 600) (n0 := 20) (f := 3) (fn := Try.f3) (args := [.slice true (.ro (.var 2 k)) (.lit 0) (.var 3 n)]) (H := []) (R := fun v _ => v = .bool true) (by
      rw [show loopsOf (bodyOf Try.f3) = [loopN Try.f3 0, loopN Try.f3 1] by kernel_rfl]
      refine dgood (mix G B) (by kernel_rfl) (.cons (knownS_ok G B) (.cons (newQ_ok tsP_ok (p_new G B)) (onceQ_ok G B))) (.cons (i := 0) (by kernel_rfl) rfl (DLat_okC rfl ?_) (.miss (i := 2) (by kernel_rfl) rfl .nil))
      rw [show objL 1 (new0U []) = can tsP new0 from objL_enc new0_wf.thin 1]
      exact lo_loop G B k n hk) (by kernel_rfl) (by kernel_rfl) (by kernel_rfl) (by
    rw [lo_c]
    exact ⟨isSt_refl, rfl⟩)
  exact this
end Go.Am
