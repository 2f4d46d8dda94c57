/-
  Slices: the program's loops of their own.
-/
import Derived.Test.YtfalglcagngbnaaSlU
import Derived.Test.YtfalglcagngbnaaBase6
import Derived.Test.YtfalglcagngbnaaProg
namespace Go.Am
open Go.Proofs
set_option maxRecDepth 100000
theorem mix (G : Nat → List AV) (B : Nat) : ((⟨Try.prog, G, B⟩ : Ctx)).P.follows .mixedOrders = true := by kernel_rfl
theorem dg0 (G : Nat → List AV) (B : Nat) : DGood (⟨Try.prog, G, B⟩ : Ctx) (Dc Try.prog [26, 28] [] [] 0) [] := dgood (mix G B) (by kernel_rfl) .nil .nil
theorem ask_b (G : Nat → List AV) (cs ds : List AV) (n : Nat) (i : Int) (Q : Ex → List AV → Hp → Prop) (R : AV → Hp → Prop) : vT G Q R (dloop (Dc Try.prog [26, 28] [] [] 0) 300 20 2 (loopN Try.f27 0) 21 [0, 4, 10, 11, 12] [.ptr (.rw 0) (.lit 0), .int .i64 (.lit 0), .slice false (.rw 1) (.lit 0) (.var 2 n), .int .i64 (.ofN (.var 2 n)), .int .i64 (.var 6 i)] [some ⟨1, .var 8 cs⟩, some ⟨1, .var 9 ds⟩]) = (
    (decide ((i : Int) < ((n : Nat) : Int)) = true →
      decide ((0 : Int) ≤ i) = true ∧
      decide ((i : Int) < ((n : Nat) : Int)) = true ∧
      isI .i64 ds (Int.toNat (i)) = true ∧
      isB cs (0) = true ∧
      (getB cs (0) = true →
        (decide ((getI ds (Int.toNat (i)) : Int) ≥ 0) = true →
          (decide ((getI ds (Int.toNat (i)) : Int) < 32) = true →
            decide ((0 : Int) ≤ getI ds (Int.toNat (i))) = true ∧
            decide ((getI ds (Int.toNat (i)) : Int) < 32) = true ∧
            isB cs (Int.toNat (getI ds (Int.toNat (i))) + 1) = true ∧
            (getB cs (Int.toNat (getI ds (Int.toNat (i))) + 1) = true →
              Q .normal [.ptr (.rw 0) (0), .int .i64 (0), .slice false (.rw 1) (0) (n), .int .i64 (((n : Nat) : Int)), .int .i64 (IntKind.wrap .i64 (i + 1))] [some ⟨1, cs⟩, some ⟨1, ds⟩]) ∧
            (getB cs (Int.toNat (getI ds (Int.toNat (i))) + 1) = false →
              Q .ret [.ptr (.rw 0) (0), .int .i64 (6), .slice false (.rw 1) (0) (n), .int .i64 (((n : Nat) : Int)), .int .i64 (i)] [some ⟨1, cs⟩, some ⟨1, ds⟩])) ∧
          (decide ((getI ds (Int.toNat (i)) : Int) < 32) = false →
            Q .ret [.ptr (.rw 0) (0), .int .i64 (6), .slice false (.rw 1) (0) (n), .int .i64 (((n : Nat) : Int)), .int .i64 (i)] [some ⟨1, cs⟩, some ⟨1, ds⟩])) ∧
        (decide ((getI ds (Int.toNat (i)) : Int) ≥ 0) = false →
          Q .ret [.ptr (.rw 0) (0), .int .i64 (6), .slice false (.rw 1) (0) (n), .int .i64 (((n : Nat) : Int)), .int .i64 (i)] [some ⟨1, cs⟩, some ⟨1, ds⟩])) ∧
      (getB cs (0) = false →
        Q .ret [.ptr (.rw 0) (0), .int .i64 (6), .slice false (.rw 1) (0) (n), .int .i64 (((n : Nat) : Int)), .int .i64 (i)] [some ⟨1, cs⟩, some ⟨1, ds⟩])) ∧
    (decide ((i : Int) < ((n : Nat) : Int)) = false →
      Q (.exit 0) [.ptr (.rw 0) (0), .int .i64 (0), .slice false (.rw 1) (0) (n), .int .i64 (((n : Nat) : Int)), .int .i64 (i)] [some ⟨1, cs⟩, some ⟨1, ds⟩])) := by kernel_rfl
theorem op_b (G : Nat → List AV) (cs : List AV) (a i : Int) (Q : Ex → List AV → Hp → Prop) (R : AV → Hp → Prop) : vT G Q R (dloop (Dc Try.prog [26, 28] [] [] 0) 300 20 1 (loopN Try.f10 0) 49 [0, 1, 6] [.ptr (.rw 0) (.lit 0), .int .i64 (.var 7 a), .int .i64 (.var 6 i)] [some ⟨1, .var 8 cs⟩]) = (
    (decide ((i : Int) < 32) = true →
      decide ((0 : Int) ≤ i) = true ∧
      decide ((i : Int) < 32) = true ∧
      isB cs (Int.toNat (i) + 1) = true ∧
      (getB cs (Int.toNat (i) + 1) = true →
        Q .normal [.ptr (.rw 0) (0), .int .i64 (a), .int .i64 (IntKind.wrap .i64 (i + 1))] [some ⟨1, cs⟩]) ∧
      (getB cs (Int.toNat (i) + 1) = false →
        Q (.exit 1) [.ptr (.rw 0) (0), .int .i64 (a), .int .i64 (i)] [some ⟨1, cs⟩])) ∧
    (decide ((i : Int) < 32) = false →
      Q (.exit 1) [.ptr (.rw 0) (0), .int .i64 (a), .int .i64 (i)] [some ⟨1, cs⟩])) := by kernel_rfl
theorem t13 (G : Nat → List AV) (cs : List AV) (a : Int) (Q : Ex → List AV → Hp → Prop) (R : AV → Hp → Prop) : vT G Q R (dcall (Dc Try.prog [26, 28] [] [] 0) 300 20 Try.f13 [.ptr (.rw 0) (.lit 0), .int .i64 (.var 7 a)] [some ⟨1, .var 8 cs⟩] 1) = (
    isB cs (0) = true ∧
    (getB cs (0) = true →
      (decide ((a : Int) ≥ 0) = true →
        (decide ((a : Int) < 32) = true →
          decide ((0 : Int) ≤ a) = true ∧
          decide ((a : Int) < 32) = true ∧
          isB cs (Int.toNat (a) + 1) = true ∧
          (getB cs (Int.toNat (a) + 1) = true →
            decide ((0 : Int) ≤ a) = true ∧
            decide ((a : Int) < 32) = true ∧
            leB ((Int.toNat (a)) * 7 + 40) (List.length cs) = true ∧
            cellsB (subL cs ((Int.toNat (a)) * 7 + 33) (7)) = true ∧
            Nat.beq (List.length (subL cs ((Int.toNat (a)) * 7 + 33) (7))) (7) = true ∧
            leB (7) (List.length (subL cs ((Int.toNat (a)) * 7 + 33) (7))) = true ∧
            R (.tup [.agg (subL (subL cs ((Int.toNat (a)) * 7 + 33) (7)) (0) (7)), .bool (true)]) [some ⟨1, cs⟩]) ∧
          (getB cs (Int.toNat (a) + 1) = false →
            R (.tup [.agg ([.int .i64 (0), .int .i64 (0), .int .i64 (0), .int .i64 (0), .int .i64 (0), .int .i64 (0), .int .i64 (0)] : List AV), .bool (false)]) [some ⟨1, cs⟩])) ∧
        (decide ((a : Int) < 32) = false →
          R (.tup [.agg ([.int .i64 (0), .int .i64 (0), .int .i64 (0), .int .i64 (0), .int .i64 (0), .int .i64 (0), .int .i64 (0)] : List AV), .bool (false)]) [some ⟨1, cs⟩])) ∧
      (decide ((a : Int) ≥ 0) = false →
        R (.tup [.agg ([.int .i64 (0), .int .i64 (0), .int .i64 (0), .int .i64 (0), .int .i64 (0), .int .i64 (0), .int .i64 (0)] : List AV), .bool (false)]) [some ⟨1, cs⟩])) ∧
    (getB cs (0) = false →
      R (.tup [.agg ([.int .i64 (0), .int .i64 (0), .int .i64 (0), .int .i64 (0), .int .i64 (0), .int .i64 (0), .int .i64 (0)] : List AV), .bool (false)]) [some ⟨1, cs⟩])) := by kernel_rfl
theorem t14 (G : Nat → List AV) (cs : List AV) (Q : Ex → List AV → Hp → Prop) (R : AV → Hp → Prop) : vT G Q R (dcall (Dc Try.prog [26, 28] [] [] 0) 300 20 Try.f14 [.ptr (.rw 0) (.lit 0)] [some ⟨1, .var 8 cs⟩] 1) = (
    isB cs (0) = true ∧
    (getB cs (0) = true →
      isI .i64 cs (257) = true ∧
      R (.int .i64 (getI cs (257))) [some ⟨1, cs⟩]) ∧
    (getB cs (0) = false →
      R (.int .i64 (0)) [some ⟨1, cs⟩])) := by kernel_rfl
def okSU : List AV → Bool := fun xs => match xs with
  | [.agg cs] => okS cs
  | _ => false
def isOU : List AV → Bool := fun xs => match xs with
  | [.agg cs, .int _ n] => isO cs n
  | _ => false
def oNU : List AV → Nat := fun xs => match xs with
  | [.agg cs] => oN cs
  | _ => 0
def KA (cs ds : List AV) (n : Nat) (j : Nat) (vs : List AV) (H : Hp) : Prop := ∃ i : Nat, i ≤ n ∧ j = n - i ∧ vs = [.ptr (.rw 0) 0, .int .i64 0, .slice false (.rw 1) 0 n, .int .i64 (n : Int), .int .i64 (i : Int)] ∧ H = [some ⟨1, cs⟩, some ⟨1, ds⟩] ∧ ∀ k, k < i → isO cs (getI ds k) = true
theorem ask_loop (G : Nat → List AV) (B : Nat) (cs ds : List AV) (n : Nat) (hn : n ≤ 1000) (hs : okS cs = true) (hd : ∀ k, k < n → isI .i64 ds k = true) :
    AWp (⟨Try.prog, G, B⟩ : Ctx) 2 (.loop (loopN Try.f27 0)) (fl 21 [0, 4, 10, 11, 12] [.ptr (.rw 0) 0, .int .i64 0, .slice false (.rw 1) 0 n, .int .i64 (n : Int), .int .i64 0]) [some ⟨1, cs⟩, some ⟨1, ds⟩]
      (lv 21 [0, 4, 10, 11, 12] fun e vs H => H = [some ⟨1, cs⟩, some ⟨1, ds⟩] ∧ ((e = .exit 0 ∧ (∀ k, k < n → isO cs (getI ds k) = true) ∧ wk [.ptr (.rw 0) 0, .int .i64 0, .undef, .undef, .undef] vs) ∨ (e = .ret ∧ (∃ k, k < n ∧ isO cs (getI ds k) = false) ∧ wk [.ptr (.rw 0) 0, .int .i64 6, .undef, .undef, .undef] vs))) := by
  refine aloop_lv (KA cs ds n) n ⟨0, by omega, by omega, rfl, rfl, fun k hk => by omega⟩ ?_
  rintro j vs H ⟨i, hi, rfl, rfl, rfl, ha⟩
  refine dloop_ok (C := (⟨Try.prog, G, B⟩ : Ctx)) (dg0 G B) (fuel := 300) (n0 := 20) (m := 2) (c := loopN Try.f27 0) (vs := [.ptr (.rw 0) (.lit 0), .int .i64 (.lit 0), .slice false (.rw 1) (.lit 0) (.var 2 n), .int .i64 (.ofN (.var 2 n)), .int .i64 (.var 6 (i : Int))]) (H := [some ⟨1, .var 8 cs⟩, some ⟨1, .var 9 ds⟩]) (by simp) ?_
  rw [ask_b, Int.toNat_natCast]
  refine ⟨fun h => ?_, fun h => ?_⟩
  · have h := of_decide_eq_true h
    have hlt : i < n := by omega
    have bad : isO cs (getI ds i) = false → ([some (⟨1, cs⟩ : Blk), some ⟨1, ds⟩] : Hp) = [some ⟨1, cs⟩, some ⟨1, ds⟩] ∧ ((Ex.ret = .exit 0 ∧ (∀ k, k < n → isO cs (getI ds k) = true) ∧ wk [.ptr (.rw 0) 0, .int .i64 0, .undef, .undef, .undef] [.ptr (.rw 0) 0, .int .i64 6, .slice false (.rw 1) 0 n, .int .i64 (n : Int), .int .i64 (i : Int)]) ∨ (Ex.ret = .ret ∧ (∃ k, k < n ∧ isO cs (getI ds k) = false) ∧ wk [.ptr (.rw 0) 0, .int .i64 6, .undef, .undef, .undef] [.ptr (.rw 0) 0, .int .i64 6, .slice false (.rw 1) 0 n, .int .i64 (n : Int), .int .i64 (i : Int)])) := fun hb =>
      ⟨rfl, .inr ⟨rfl, ⟨i, hlt, hb⟩, by simp [wk]⟩⟩
    refine ⟨decide_eq_true (by omega), decide_eq_true (by omega), hd i hlt, okS_0 hs, fun _ => ⟨fun h1 => ⟨fun h2 => ⟨decide_eq_true (by have := of_decide_eq_true h1; omega), h2, okS_open hs (by have := of_decide_eq_true h1; have := of_decide_eq_true h2; omega), fun h3 => ?_, fun h3 => ?_⟩, fun h2 => ?_⟩, fun h1 => ?_⟩, fun h0 => ?_⟩
    · have g1 := of_decide_eq_true h1
      have g2 := of_decide_eq_true h2
      refine ⟨n - (i + 1), by omega, .inl ⟨i + 1, by omega, rfl, by rw [i64_in (by omega)]; rfl, rfl, fun k hk => ?_⟩⟩
      by_cases hki : k = i
      · subst hki; simp only [isO, h3, Bool.and_true, Bool.and_eq_true, decide_eq_true_eq]; omega
      · exact ha k (by omega)
    · exact bad (by simp only [isO, h3, Bool.and_false])
    · exact bad (by have := of_decide_eq_false h2; simp only [isO, Bool.and_eq_false_iff, decide_eq_false_iff_not]; omega)
    · exact bad (by have := of_decide_eq_false h1; simp only [isO, Bool.and_eq_false_iff, decide_eq_false_iff_not]; omega)
    · rw [okS_made hs] at h0; cases h0
  · have h := of_decide_eq_false h
    have : i = n := by omega
    subst this
    exact ⟨rfl, .inl ⟨rfl, ha, by simp [wk]⟩⟩
theorem freeF_spec (cs : List AV) : ∀ (k i : Nat), i ≤ freeF cs k i ∧ freeF cs k i ≤ i + k ∧ (∀ j, i ≤ j → j < freeF cs k i → getB cs (j + 1) = true) ∧ (freeF cs k i < i + k → getB cs (freeF cs k i + 1) = false)
  | 0, i => ⟨Nat.le_refl _, Nat.le_refl _, fun j h1 h2 => by simp [freeF] at h2; omega, fun h => by simp [freeF] at h⟩
  | k + 1, i => by
    simp only [freeF]
    split
    · rename_i hb
      obtain ⟨h1, h2, h3, h4⟩ := freeF_spec cs k (i + 1)
      refine ⟨by omega, by omega, fun j g1 g2 => ?_, fun h => h4 (by omega)⟩
      by_cases hj : j = i
      · subst hj; exact hb
      · exact h3 j (by omega) g2
    · rename_i hb
      exact ⟨Nat.le_refl _, by omega, fun j g1 g2 => by omega, fun _ => by simpa using hb⟩
theorem oN_le (cs : List AV) : oN cs ≤ 32 := by have := (freeF_spec cs 32 0).2.1; unfold oN; omega
theorem oN_open (cs : List AV) {j : Nat} (h : j < oN cs) : getB cs (j + 1) = true := (freeF_spec cs 32 0).2.2.1 j (by omega) h
theorem oN_free (cs : List AV) (h : oN cs < 32) : getB cs (oN cs + 1) = false := (freeF_spec cs 32 0).2.2.2 (by unfold oN at h; omega)
theorem oN_eq (cs : List AV) {i : Nat} (h1 : ∀ j, j < i → getB cs (j + 1) = true) (h2 : i ≤ 32) (h3 : i < 32 → getB cs (i + 1) = false) : oN cs = i := by
  have hl := oN_le cs
  rcases Nat.lt_trichotomy (oN cs) i with h | h | h
  · have e1 := h1 _ h
    have e2 := oN_free cs (by omega)
    rw [e1] at e2; cases e2
  · exact h
  · have e1 := oN_open cs h
    have e2 := h3 (by omega)
    rw [e1] at e2; cases e2
def KO (cs : List AV) (a : Int) (j : Nat) (vs : List AV) (H : Hp) : Prop := ∃ i : Nat, i ≤ 32 ∧ j = 32 - i ∧ vs = [.ptr (.rw 0) 0, .int .i64 a, .int .i64 (i : Int)] ∧ H = [some ⟨1, cs⟩] ∧ ∀ k, k < i → getB cs (k + 1) = true
theorem op_loop (G : Nat → List AV) (B : Nat) (cs : List AV) (a : Int) (hs : okS cs = true) :
    AWp (⟨Try.prog, G, B⟩ : Ctx) 1 (.loop (loopN Try.f10 0)) (fl 49 [0, 1, 6] [.ptr (.rw 0) 0, .int .i64 a, .int .i64 0]) [some ⟨1, cs⟩]
      (lv 49 [0, 1, 6] fun e vs H => H = [some ⟨1, cs⟩] ∧ e = .exit 1 ∧ wk [.ptr (.rw 0) 0, .int .i64 a, .int .i64 (oN cs : Int)] vs) := by
  refine aloop_lv (KO cs a) 32 ⟨0, by omega, by omega, rfl, rfl, fun k hk => by omega⟩ ?_
  rintro j vs H ⟨i, hi, rfl, rfl, rfl, ha⟩
  refine dloop_ok (C := (⟨Try.prog, G, B⟩ : Ctx)) (dg0 G B) (fuel := 300) (n0 := 20) (m := 1) (c := loopN Try.f10 0) (vs := [.ptr (.rw 0) (.lit 0), .int .i64 (.var 7 a), .int .i64 (.var 6 (i : Int))]) (H := [some ⟨1, .var 8 cs⟩]) (by simp) ?_
  rw [op_b, Int.toNat_natCast]
  have fin : oN cs = i → ([some (⟨1, cs⟩ : Blk)] : Hp) = [some ⟨1, cs⟩] ∧ Ex.exit 1 = .exit 1 ∧ wk [.ptr (.rw 0) 0, .int .i64 a, .int .i64 (oN cs : Int)] [.ptr (.rw 0) 0, .int .i64 a, .int .i64 (i : Int)] := fun h => ⟨rfl, rfl, by simp [wk, h]⟩
  refine ⟨fun h => ⟨decide_eq_true (by omega), h, okS_open hs (by have := of_decide_eq_true h; omega), fun hb => ?_, fun hb => ?_⟩, fun h => ?_⟩
  · have h := of_decide_eq_true h
    refine ⟨32 - (i + 1), by omega, .inl ⟨i + 1, by omega, rfl, by rw [i64_in (by omega)]; rfl, rfl, fun k hk => ?_⟩⟩
    by_cases hki : k = i
    · subst hki; exact hb
    · exact ha k (by omega)
  · exact fin (oN_eq cs ha hi fun _ => hb)
  · have h := of_decide_eq_false h
    exact fin (oN_eq cs ha hi fun h' => by omega)
def askOut (l : EL) (b : EB) (v : EV) (H : DHp) : LOut :=
  .chk (.uf 1300 okSU [.agg l]) (.tst b (.one (.exit 0) [.ptr (.rw 0) (.lit 0), .int .i64 (.lit 0), .undef, .undef, .undef] H) (.one .ret [.ptr (.rw 0) (.lit 0), .int .i64 (.lit 6), .undef, .undef, .undef] H))
def askL : DL := ⟨0, 21, [0, 4, 10, 11, 12], fun vs H => match vs, H with
  | [.ptr (.rw 0) (.lit 0), .int .i64 (.lit 0), .slice false (.rw 1) (.lit 0) (.lit 1), .int .i64 (.lit 1), .int .i64 (.lit 0)], [some ⟨1, l⟩, some ⟨1, .of [.int .i64 a]⟩] =>
    some (askOut l (.uf 1301 isOU [.agg l, .int .i64 a]) .undef [some ⟨1, l⟩, some ⟨1, .of [.int .i64 a]⟩])
  | [.ptr (.rw 0) (.lit 0), .int .i64 (.lit 0), .slice false (.rw 1) (.lit 0) (.lit 2), .int .i64 (.lit 2), .int .i64 (.lit 0)], [some ⟨1, l⟩, some ⟨1, .of [.int .i64 a, .int .i64 b]⟩] =>
    some (askOut l (.and (.uf 1301 isOU [.agg l, .int .i64 a]) (.uf 1301 isOU [.agg l, .int .i64 b])) .undef [some ⟨1, l⟩, some ⟨1, .of [.int .i64 a, .int .i64 b]⟩])
  | _, _ => none⟩
theorem askL_ok (G : Nat → List AV) (B : Nat) : DLoopOk (⟨Try.prog, G, B⟩ : Ctx) 2 (loopN Try.f27 0) askL := by
  refine .of fun vs H o ho n Q hQ => ?_
  simp only [askL] at ho
  split at ho
  · rename_i l a
    simp only [Option.some.injEq] at ho
    subst ho
    obtain ⟨h1, h2, h3⟩ := hQ
    simp only [vB, vVs, vV, okSU] at h1
    simp only [vB, vVs, vV, isOU] at h2 h3
    simp only [askL, vVs, vV, vR, vN, vI, vHp, List.map_cons, List.map_nil, Option.map_some, vBlk, vL]
    have hd : ∀ k, k < 1 → isI .i64 [AV.int .i64 (vI G a)] k = true := by
      intro k hk
      match k, hk with
      | 0, _ => rfl
    refine (ask_loop G B (vL G l) [.int .i64 (vI G a)] 1 (by omega) h1 hd).lmono ?_
    rintro e vs'' H'' ⟨rfl, ⟨rfl, g1, g2⟩ | ⟨rfl, ⟨k, gk, g1⟩, g2⟩⟩
    · refine .inl ⟨_, g2, ?_⟩
      have := h2 (g1 0 (by omega))
      simp only [lHolds, vVs, vV, vR, vN, vI, vHp, List.map_cons, List.map_nil, Option.map_some, vBlk, vL] at this
      exact this
    · have : k = 0 := by omega
      subst this
      refine .inl ⟨_, g2, ?_⟩
      have := h3 g1
      simp only [lHolds, vVs, vV, vR, vN, vI, vHp, List.map_cons, List.map_nil, Option.map_some, vBlk, vL] at this
      exact this
  · rename_i l a b
    simp only [Option.some.injEq] at ho
    subst ho
    obtain ⟨h1, h2, h3⟩ := hQ
    simp only [vB, vVs, vV, okSU] at h1
    simp only [vB, vVs, vV, isOU] at h2 h3
    simp only [askL, vVs, vV, vR, vN, vI, vHp, List.map_cons, List.map_nil, Option.map_some, vBlk, vL]
    have hd : ∀ k, k < 2 → isI .i64 [AV.int .i64 (vI G a), .int .i64 (vI G b)] k = true := by
      intro k hk
      match k, hk with
      | 0, _ => rfl
      | 1, _ => rfl
    refine (ask_loop G B (vL G l) [.int .i64 (vI G a), .int .i64 (vI G b)] 2 (by omega) h1 hd).lmono ?_
    rintro e vs'' H'' ⟨rfl, ⟨rfl, g1, g2⟩ | ⟨rfl, ⟨k, gk, g1⟩, g2⟩⟩
    · refine .inl ⟨_, g2, ?_⟩
      have e0 : isO (vL G l) (vI G a) = true := g1 0 (by omega)
      have e1 : isO (vL G l) (vI G b) = true := g1 1 (by omega)
      have := h2 (by rw [e0, e1]; rfl)
      simp only [lHolds, vVs, vV, vR, vN, vI, vHp, List.map_cons, List.map_nil, Option.map_some, vBlk, vL] at this
      exact this
    · refine .inl ⟨_, g2, ?_⟩
      have hk : k = 0 ∨ k = 1 := by omega
      have := h3 (by
        rcases hk with rfl | rfl
        · have e0 : isO (vL G l) (vI G a) = false := g1
          rw [e0]; rfl
        · have e1 : isO (vL G l) (vI G b) = false := g1
          rw [e1, Bool.and_false])
      simp only [lHolds, vVs, vV, vR, vN, vI, vHp, List.map_cons, List.map_nil, Option.map_some, vBlk, vL] at this
      exact this
  · simp at ho
def opL : DL := ⟨1, 49, [0, 1, 6], fun vs H => match vs, H with
  | [.ptr (.rw 0) (.lit 0), .int .i64 a, .int .i64 (.lit 0)], [some ⟨1, l⟩] =>
    some (.chk (.uf 1300 okSU [.agg l]) (.one (.exit 1) [.ptr (.rw 0) (.lit 0), .int .i64 a, .int .i64 (.ofN (.uf 1302 oNU [.agg l]))] [some ⟨1, l⟩]))
  | _, _ => none⟩
theorem opL_ok (G : Nat → List AV) (B : Nat) : DLoopOk (⟨Try.prog, G, B⟩ : Ctx) 1 (loopN Try.f10 0) opL := by
  refine .of fun vs H o ho n Q hQ => ?_
  simp only [opL] at ho
  split at ho
  · rename_i a l
    simp only [Option.some.injEq] at ho
    subst ho
    obtain ⟨h1, h2⟩ := hQ
    simp only [vB, vVs, vV, okSU] at h1
    simp only [opL, vVs, vV, vR, vN, vI, vHp, List.map_cons, List.map_nil, Option.map_some, vBlk]
    refine (op_loop G B (vL G l) (vI G a) h1).lmono ?_
    rintro e vs'' H'' ⟨rfl, rfl, g2⟩
    refine .inl ⟨_, g2, ?_⟩
    simp only [lHolds, vVs, vV, vR, vN, vI, vHp, List.map_cons, List.map_nil, Option.map_some, vBlk, oNU] at h2
    exact h2
  · simp at ho
end Go.Am
