/-
  Filters: Match; FilterMatches.
-/
import Derived.Test.YtnkcfoicbkobbaaFlC
import Derived.Test.YtnkcfoicbkobbaaFlKnown
namespace Go.Am
open Go.Proofs
set_option maxRecDepth 100000
theorem pm_call (G : Nat → List AV) (B : Nat) (k n k2 m : Nat) (hk : okI .i64 (G k) 0 (n * 3) = true) (hp : okI .u8 (G k2) 0 m = true) : ACalls (⟨Try.prog, G, B⟩ : Ctx) 11 [.slice true (.ro k) 0 n, .slice true (.ro k2) 0 m] [] fun v _ => v = .bool (matchB (G k) n (G k2) m) := by
  have := dcall_ok (C := (⟨Try.prog, G, B⟩ : Ctx)) (fuel := 300) (n0 := 20) (f := 11) (fn := Try.f11) (args := [.slice true (.ro (.var 1 k)) (.lit 0) (.var 2 n), .slice true (.ro (.var 3 k2)) (.lit 0) (.var 4 m)]) (H := []) (keep := 0)
    (R := fun v _ => v = .bool (matchB (G k) n (G k2) m)) (by rw [show loopsOf (bodyOf Try.f11) = [] by kernel_rfl]; exact dgood (inl := [26]) (ls := []) (M := 0) (mixF G B) (by kernel_rfl) (progFb_ok G B) .nil) (by kernel_rfl) (by kernel_rfl) (by kernel_rfl) (by
    rw [t11F]
    refine ⟨hk, fun h1 => ⟨fun h2 => ?_, fun h2 => ⟨hk, hp, ?_, ?_⟩⟩, fun h1 => ?_⟩
    · have := of_decide_eq_true h2
      unfold matchB; rw [decide_eq_false (show ¬ m ≤ 64 by omega), Bool.false_and, Bool.and_false]
    all_goals have h1' : ((if mayB (G k) n then 0 else 2 : Int) == 0) = _ := h1
    · show mayB (G k) n = true
      cases e : mayB (G k) n with
      | true => rfl
      | false => rw [e] at h1'; simp at h1'
    · have hm : mayB (G k) n = true := by
        cases e : mayB (G k) n with
        | true => rfl
        | false => rw [e] at h1'; simp at h1'
      have := of_decide_eq_false h2
      obtain ⟨q1, q2, q3⟩ := ixF_iff (cs := G k) (ps := G k2) (m := m) (n := n)
      show AV.bool (!decide (ixF (G k) (G k2) m n ≥ 0)) = AV.bool (matchB (G k) n (G k2) m)
      unfold matchB; rw [hm, decide_eq_true (show m ≤ 64 by omega), Bool.true_and, Bool.true_and]
      cases e : allTo (pasB (G k) (G k2) m) n with
      | true => rw [q1.2 e]; rfl
      | false =>
        have : ixF (G k) (G k2) m n ≠ -1 := fun h => by rw [q1.1 h] at e; cases e
        rw [decide_eq_true (by omega)]; rfl
    · have hm : mayB (G k) n = false := by
        cases e : mayB (G k) n with
        | false => rfl
        | true => rw [e] at h1'; simp at h1'
      unfold matchB; rw [hm, Bool.false_and])
  exact this.monoK fun v H' h => h
def knownS : DSum := fun args _ => match args with
  | [] => some (.one (.bool (.lit true)) [])
  | _ => none
theorem knownS_ok (G : Nat → List AV) (B : Nat) : DSumOk (⟨Try.prog, G, B⟩ : Ctx) 8 knownS := by
  intro args H o ho
  unfold knownS at ho
  split at ho
  · simp only [Option.some.injEq] at ho
    subst ho
    show DOut (⟨Try.prog, G, B⟩ : Ctx) 8 [] H (.bool (.lit true)) []
    refine DOut.rdN (C := (⟨Try.prog, G, B⟩ : Ctx)) (σ := fun _ => (.ro 0, 0)) (G' := fun _ => []) (args0 := []) (fun k => .inl rfl) rfl (fun ρ vs h => h) (fun B' => Go.Proofs.Ytnkcfoicbkobbaa.known_call _ B') ⟨rfl, rfl⟩
  · simp at ho
def progFc : List (Nat × DSum) := (8, knownS) :: (11, matchS) :: progFb
theorem progFc_ok (G : Nat → List AV) (B : Nat) : DSumsOk (⟨Try.prog, G, B⟩ : Ctx) progFc := .cons (knownS_ok G B) (.cons (matchS_of G B fun G B k n k2 m => pm_call G B k n k2 m) (progFb_ok G B))
theorem fm_run (G : Nat → List AV) (k n k2 m : Nat) (Q : Ex → List AV → Hp → Prop) (R : AV → Hp → Prop) : vT G Q R (dlaw (Dc Try.prog [] progFc [] 0) 400 20 Try.f3 [.slice true (.ro (.var 1 k)) (.lit 0) (.var 2 n), .slice true (.ro (.var 3 k2)) (.lit 0) (.var 4 m)] []) = (
    (decide ((((n : Nat) : Int) : Int) > 40) = true →
      R (.bool (true)) []) ∧
    (decide ((((n : Nat) : Int) : Int) > 40) = false →
      (decide ((((m : Nat) : Int) : Int) > 300) = true →
        R (.bool (true)) []) ∧
      (decide ((((m : Nat) : Int) : Int) > 300) = false →
        rowsU [.agg (G (k)), .int .i64 (((n : Nat) : Int))] = true ∧
        rowsU [.agg (G (k)), .int .i64 (((n : Nat) : Int))] = true ∧
        (((chkU [.agg (G (k)), .int .i64 (((n : Nat) : Int))] : Int) == 0) = true →
          (mayU [.agg (G (k)), .int .i64 (((n : Nat) : Int))] = true →
            rowsU [.agg (G (k)), .int .i64 (((n : Nat) : Int))] = true ∧
            ((chkU [.agg (G (k)), .int .i64 (((n : Nat) : Int))] : Int) == 0) = true ∧
            rowsU [.agg (G (k)), .int .i64 (((n : Nat) : Int))] = true ∧
            bytesU [.agg (G (k2)), .int .i64 (((m : Nat) : Int))] = true ∧
            rowsU [.agg (G (k)), .int .i64 (((n : Nat) : Int))] = true ∧
            bytesU [.agg (G (k2)), .int .i64 (((m : Nat) : Int))] = true ∧
            (matchU [.agg (G (k)), .int .i64 (((n : Nat) : Int)), .agg (G (k2)), .int .i64 (((m : Nat) : Int))] = true →
              matchU [.agg (G (k)), .int .i64 (((n : Nat) : Int)), .agg (G (k2)), .int .i64 (((m : Nat) : Int))] = true ∧
              R (.bool (true)) []) ∧
            (matchU [.agg (G (k)), .int .i64 (((n : Nat) : Int)), .agg (G (k2)), .int .i64 (((m : Nat) : Int))] = false →
              (!(matchU [.agg (G (k)), .int .i64 (((n : Nat) : Int)), .agg (G (k2)), .int .i64 (((m : Nat) : Int))])) = true ∧
              R (.bool (true)) [])) ∧
          (mayU [.agg (G (k)), .int .i64 (((n : Nat) : Int))] = false →
            R (.bool (false)) [])) ∧
        (((chkU [.agg (G (k)), .int .i64 (((n : Nat) : Int))] : Int) == 0) = false →
          (mayU [.agg (G (k)), .int .i64 (((n : Nat) : Int))] = true →
            R (.bool (false)) []) ∧
          (mayU [.agg (G (k)), .int .i64 (((n : Nat) : Int))] = false →
            rowsU [.agg (G (k)), .int .i64 (((n : Nat) : Int))] = true ∧
            (!(((chkU [.agg (G (k)), .int .i64 (((n : Nat) : Int))] : Int) == 0))) = true ∧
            rowsU [.agg (G (k)), .int .i64 (((n : Nat) : Int))] = true ∧
            (((chkU [.agg (G (k)), .int .i64 (((n : Nat) : Int))] : Int) == 2) = true →
              rowsU [.agg (G (k)), .int .i64 (((n : Nat) : Int))] = true ∧
              bytesU [.agg (G (k2)), .int .i64 (((m : Nat) : Int))] = true ∧
              rowsU [.agg (G (k)), .int .i64 (((n : Nat) : Int))] = true ∧
              bytesU [.agg (G (k2)), .int .i64 (((m : Nat) : Int))] = true ∧
              (matchU [.agg (G (k)), .int .i64 (((n : Nat) : Int)), .agg (G (k2)), .int .i64 (((m : Nat) : Int))] = true →
                matchU [.agg (G (k)), .int .i64 (((n : Nat) : Int)), .agg (G (k2)), .int .i64 (((m : Nat) : Int))] = true ∧
                R (.bool (true)) []) ∧
              (matchU [.agg (G (k)), .int .i64 (((n : Nat) : Int)), .agg (G (k2)), .int .i64 (((m : Nat) : Int))] = false →
                (!(matchU [.agg (G (k)), .int .i64 (((n : Nat) : Int)), .agg (G (k2)), .int .i64 (((m : Nat) : Int))])) = true ∧
                R (.bool (true)) [])) ∧
            (((chkU [.agg (G (k)), .int .i64 (((n : Nat) : Int))] : Int) == 2) = false →
              R (.bool (false)) [])))))) := by kernel_rfl
theorem chk_eq (cs : List AV) (n : Nat) : (((chkU [.agg cs, .int .i64 (n : Int)] : Int) == 0) = mayU [.agg cs, .int .i64 (n : Int)]) ∧ (((chkU [.agg cs, .int .i64 (n : Int)] : Int) == 2) = !mayU [.agg cs, .int .i64 (n : Int)]) := by
  show (((if mayB cs (n : Int).toNat then 0 else 2 : Int) == 0) = mayB cs (n : Int).toNat) ∧ (((if mayB cs (n : Int).toNat then 0 else 2 : Int) == 2) = !mayB cs (n : Int).toNat)
  cases mayB cs (n : Int).toNat <;> exact ⟨rfl, rfl⟩
theorem fm_call (G : Nat → List AV) (B : Nat) (k n k2 m : Nat) (hk : okI .i64 (G k) 0 (n * 3) = true) (hp : okI .u8 (G k2) 0 m = true) : ACalls (⟨Try.prog, G, B⟩ : Ctx) 3 [.slice true (.ro k) 0 n, .slice true (.ro k2) 0 m] [] fun v _ => v = .bool true := by
  have := dlaw_ok (C := (⟨Try.prog, G, B⟩ : Ctx)) (fuel := 400) (n0 := 20) (f := 3) (fn := Try.f3) (args := [.slice true (.ro (.var 1 k)) (.lit 0) (.var 2 n), .slice true (.ro (.var 3 k2)) (.lit 0) (.var 4 m)]) (H := []) (R := fun v _ => v = .bool true) (by rw [show loopsOf (bodyOf Try.f3) = [] by kernel_rfl]; exact dgood (inl := []) (ls := []) (M := 0) (mixF G B) (by kernel_rfl) (progFc_ok G B) .nil) (by kernel_rfl) (by kernel_rfl) (by kernel_rfl) (by
    rw [fm_run]
    have hk' : rowsU [.agg (G k), .int .i64 (n : Int)] = true := hk
    have hp' : bytesU [.agg (G k2), .int .i64 (m : Int)] = true := hp
    obtain ⟨c1, c2⟩ := chk_eq (G k) n
    rw [c1, c2, hk', hp']
    generalize mayU [.agg (G k), .int .i64 (n : Int)] = x1
    generalize matchU [.agg (G k), .int .i64 (n : Int), .agg (G k2), .int .i64 (m : Int)] = x2
    cases x1 <;> cases x2 <;> simp)
  exact this
end Go.Am
