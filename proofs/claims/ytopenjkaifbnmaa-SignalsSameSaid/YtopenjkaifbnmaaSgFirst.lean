/-
  SignalsFirst: the loops and the run.
-/
import Derived.Test.YtopenjkaifbnmaaSgOnce
import Derived.Test.YtopenjkaifbnmaaBase7
namespace Go.Am
open Go.Proofs Crc
set_option maxRecDepth 100000
theorem dgF (G : Nat → List AV) (B : Nat) : DGood (⟨Try.prog, G, B⟩ : Ctx) (Dc Try.prog [9, 18] progS [] 0) [] := dgood (mix G B) (by kernel_rfl) (progS_ok G B) .nil
theorem ff_b0 (G : Nat → List AV) (cs : List AV) (k n : Nat) (i : Int) (Q : Ex → List AV → Hp → Prop) (R : AV → Hp → Prop) : vT G Q R (dloop (Dc Try.prog [9, 18] progS [] 0) 300 20 0 (loopN Try.f4 0) 142 [0, 2, 3, 4] [.slice true (.ro (.var 1 k)) (.lit 0) (.var 2 n), .bool (.lit false), .ptr (.rw 0) (.lit 0), .int .i64 (.var 6 i)] [some ⟨1, .var 8 cs⟩]) = (
    (decide ((i : Int) < ((n : Nat) : Int)) = true →
      (decide ((i : Int) < 200) = true →
        decide ((0 : Int) ≤ i) = true ∧
        decide ((i : Int) < ((n : Nat) : Int)) = true ∧
        isI .i64 (G (k)) ((Int.toNat (i)) * 3) = true ∧
        (((getI (G (k)) ((Int.toNat (i)) * 3) : Int) == 1) = true →
          decide ((0 : Int) ≤ i) = true ∧
          decide ((i : Int) < ((n : Nat) : Int)) = true ∧
          isI .i64 (G (k)) ((Int.toNat (i)) * 3 + 1) = true ∧
          okU [.agg cs] = true ∧
          (decide ((getI (G (k)) ((Int.toNat (i)) * 3 + 1) : Int) < 0) = true →
            Q .normal [.slice true (.ro (k)) (0) (n), .bool (false), .ptr (.rw 0) (0), .int .i64 (IntKind.wrap .i64 (i + 1))] [some ⟨1, cs⟩]) ∧
          (decide ((getI (G (k)) ((Int.toNat (i)) * 3 + 1) : Int) < 0) = false →
            (decide ((getI (G (k)) ((Int.toNat (i)) * 3 + 1) : Int) > 15) = true →
              Q .normal [.slice true (.ro (k)) (0) (n), .bool (false), .ptr (.rw 0) (0), .int .i64 (IntKind.wrap .i64 (i + 1))] [some ⟨1, cs⟩]) ∧
            (decide ((getI (G (k)) ((Int.toNat (i)) * 3 + 1) : Int) > 15) = false →
              Q .normal [.slice true (.ro (k)) (0) (n), .bool (false), .ptr (.rw 0) (0), .int .i64 (IntKind.wrap .i64 (i + 1))] [some ⟨1, (sendU [.agg cs, .int .i64 (getI (G (k)) ((Int.toNat (i)) * 3 + 1))])⟩]))) ∧
        (((getI (G (k)) ((Int.toNat (i)) * 3) : Int) == 1) = false →
          (((getI (G (k)) ((Int.toNat (i)) * 3) : Int) == 2) = true →
            decide ((0 : Int) ≤ i) = true ∧
            decide ((i : Int) < ((n : Nat) : Int)) = true ∧
            isI .i64 (G (k)) ((Int.toNat (i)) * 3 + 2) = true ∧
            okU [.agg cs] = true ∧
            Q .normal [.slice true (.ro (k)) (0) (n), .bool (false), .ptr (.rw 0) (0), .int .i64 (IntKind.wrap .i64 (i + 1))] [some ⟨1, (maskU [.agg cs, .int .i64 (getI (G (k)) ((Int.toNat (i)) * 3 + 2))])⟩]) ∧
          (((getI (G (k)) ((Int.toNat (i)) * 3) : Int) == 2) = false →
            (((getI (G (k)) ((Int.toNat (i)) * 3) : Int) == 3) = true →
              decide ((0 : Int) ≤ i) = true ∧
              decide ((i : Int) < ((n : Nat) : Int)) = true ∧
              isI .i64 (G (k)) ((Int.toNat (i)) * 3 + 1) = true ∧
              decide ((0 : Int) ≤ i) = true ∧
              decide ((i : Int) < ((n : Nat) : Int)) = true ∧
              isI .i64 (G (k)) ((Int.toNat (i)) * 3 + 2) = true ∧
              okU [.agg cs] = true ∧
              (decide ((getI (G (k)) ((Int.toNat (i)) * 3 + 1) : Int) < 2) = true →
                Q .normal [.slice true (.ro (k)) (0) (n), .bool (false), .ptr (.rw 0) (0), .int .i64 (IntKind.wrap .i64 (i + 1))] [some ⟨1, cs⟩]) ∧
              (decide ((getI (G (k)) ((Int.toNat (i)) * 3 + 1) : Int) < 2) = false →
                (decide ((getI (G (k)) ((Int.toNat (i)) * 3 + 1) : Int) > 15) = true →
                  Q .normal [.slice true (.ro (k)) (0) (n), .bool (false), .ptr (.rw 0) (0), .int .i64 (IntKind.wrap .i64 (i + 1))] [some ⟨1, cs⟩]) ∧
                (decide ((getI (G (k)) ((Int.toNat (i)) * 3 + 1) : Int) > 15) = false →
                  (decide ((getI (G (k)) ((Int.toNat (i)) * 3 + 2) : Int) < 0) = true →
                    Q .normal [.slice true (.ro (k)) (0) (n), .bool (false), .ptr (.rw 0) (0), .int .i64 (IntKind.wrap .i64 (i + 1))] [some ⟨1, cs⟩]) ∧
                  (decide ((getI (G (k)) ((Int.toNat (i)) * 3 + 2) : Int) < 0) = false →
                    (decide ((getI (G (k)) ((Int.toNat (i)) * 3 + 2) : Int) > 4294967295) = true →
                      Q .normal [.slice true (.ro (k)) (0) (n), .bool (false), .ptr (.rw 0) (0), .int .i64 (IntKind.wrap .i64 (i + 1))] [some ⟨1, cs⟩]) ∧
                    (decide ((getI (G (k)) ((Int.toNat (i)) * 3 + 2) : Int) > 4294967295) = false →
                      Q .normal [.slice true (.ro (k)) (0) (n), .bool (false), .ptr (.rw 0) (0), .int .i64 (IntKind.wrap .i64 (i + 1))] [some ⟨1, (handleU [.agg cs, .int .i64 (getI (G (k)) ((Int.toNat (i)) * 3 + 1)), .int .i64 (getI (G (k)) ((Int.toNat (i)) * 3 + 2))])⟩]))))) ∧
            (((getI (G (k)) ((Int.toNat (i)) * 3) : Int) == 3) = false →
              Q .normal [.slice true (.ro (k)) (0) (n), .bool (false), .ptr (.rw 0) (0), .int .i64 (IntKind.wrap .i64 (i + 1))] [some ⟨1, cs⟩])))) ∧
      (decide ((i : Int) < 200) = false →
        Q (.exit 0) [.slice true (.ro (k)) (0) (n), .bool (false), .ptr (.rw 0) (0), .int .i64 (i)] [some ⟨1, cs⟩])) ∧
    (decide ((i : Int) < ((n : Nat) : Int)) = false →
      Q (.exit 0) [.slice true (.ro (k)) (0) (n), .bool (false), .ptr (.rw 0) (0), .int .i64 (i)] [some ⟨1, cs⟩])) := by kernel_rfl
theorem ff_b3 (G : Nat → List AV) (cs : List AV) (i a : Int) (Q : Ex → List AV → Hp → Prop) (R : AV → Hp → Prop) : vT G Q R (dloop (Dc Try.prog [9, 18] progS [] 0) 300 20 0 (loopN Try.f4 1) 142 [2, 3, 8, 9] [.bool (.lit false), .ptr (.rw 0) (.lit 0), .int .i64 (.var 5 a), .int .i64 (.var 6 i)] [some ⟨1, .var 8 cs⟩]) = (
    (decide ((i : Int) < 16) = true →
      okU [.agg cs] = true ∧
      okU [.agg cs] = true ∧
      (tkOkU [.agg cs] = true →
        (decide ((tkSigU [.agg cs] : Int) ≤ a) = true →
          Q .ret [.bool (false), .ptr (.rw 0) (0), .int .i64 (a), .int .i64 (i)] [some ⟨1, (tkU [.agg cs])⟩, some ⟨1, (pendU [.agg cs])⟩, some ⟨1, ([.int .i64 (tkSigU [.agg cs]), .bool (tkEndsU [.agg cs]), .int .u32 (tkAtU [.agg cs])] : List AV)⟩]) ∧
        (decide ((tkSigU [.agg cs] : Int) ≤ a) = false →
          (tkEndsU [.agg cs] = true →
            (((tkAtU [.agg cs] : Int) == 0) = true →
              (!(((tkAtU [.agg cs] : Int) == 1))) = true ∧
              okU [.agg (tkU [.agg cs])] = true ∧
              (((((pendNU [.agg (tkU [.agg cs])] : Nat) : Int) : Int) == IntKind.wrap .i64 (((pendNU [.agg cs] : Nat) : Int) - 1)) = true →
                Q .normal [.bool (false), .ptr (.rw 0) (0), .int .i64 (tkSigU [.agg cs]), .int .i64 (IntKind.wrap .i64 (i + 1))] [some ⟨1, (tkU [.agg cs])⟩, some ⟨1, (pendU [.agg cs])⟩, some ⟨1, ([.int .i64 (tkSigU [.agg cs]), .bool (tkEndsU [.agg cs]), .int .u32 (tkAtU [.agg cs])] : List AV)⟩, some ⟨1, (pendU [.agg (tkU [.agg cs])])⟩]) ∧
              (((((pendNU [.agg (tkU [.agg cs])] : Nat) : Int) : Int) == IntKind.wrap .i64 (((pendNU [.agg cs] : Nat) : Int) - 1)) = false →
                Q .ret [.bool (false), .ptr (.rw 0) (0), .int .i64 (a), .int .i64 (i)] [some ⟨1, (tkU [.agg cs])⟩, some ⟨1, (pendU [.agg cs])⟩, some ⟨1, ([.int .i64 (tkSigU [.agg cs]), .bool (tkEndsU [.agg cs]), .int .u32 (tkAtU [.agg cs])] : List AV)⟩, some ⟨1, (pendU [.agg (tkU [.agg cs])])⟩])) ∧
            (((tkAtU [.agg cs] : Int) == 0) = false →
              Q .ret [.bool (false), .ptr (.rw 0) (0), .int .i64 (a), .int .i64 (i)] [some ⟨1, (tkU [.agg cs])⟩, some ⟨1, (pendU [.agg cs])⟩, some ⟨1, ([.int .i64 (tkSigU [.agg cs]), .bool (tkEndsU [.agg cs]), .int .u32 (tkAtU [.agg cs])] : List AV)⟩])) ∧
          (tkEndsU [.agg cs] = false →
            (((tkAtU [.agg cs] : Int) == 0) = true →
              Q .ret [.bool (false), .ptr (.rw 0) (0), .int .i64 (a), .int .i64 (i)] [some ⟨1, (tkU [.agg cs])⟩, some ⟨1, (pendU [.agg cs])⟩, some ⟨1, ([.int .i64 (tkSigU [.agg cs]), .bool (tkEndsU [.agg cs]), .int .u32 (tkAtU [.agg cs])] : List AV)⟩]) ∧
            (((tkAtU [.agg cs] : Int) == 0) = false →
              (((tkAtU [.agg cs] : Int) == 1) = true →
                Q .ret [.bool (false), .ptr (.rw 0) (0), .int .i64 (a), .int .i64 (i)] [some ⟨1, (tkU [.agg cs])⟩, some ⟨1, (pendU [.agg cs])⟩, some ⟨1, ([.int .i64 (tkSigU [.agg cs]), .bool (tkEndsU [.agg cs]), .int .u32 (tkAtU [.agg cs])] : List AV)⟩]) ∧
              (((tkAtU [.agg cs] : Int) == 1) = false →
                okU [.agg (tkU [.agg cs])] = true ∧
                (((((pendNU [.agg (tkU [.agg cs])] : Nat) : Int) : Int) == IntKind.wrap .i64 (((pendNU [.agg cs] : Nat) : Int) - 1)) = true →
                  Q .normal [.bool (false), .ptr (.rw 0) (0), .int .i64 (tkSigU [.agg cs]), .int .i64 (IntKind.wrap .i64 (i + 1))] [some ⟨1, (tkU [.agg cs])⟩, some ⟨1, (pendU [.agg cs])⟩, some ⟨1, ([.int .i64 (tkSigU [.agg cs]), .bool (tkEndsU [.agg cs]), .int .u32 (tkAtU [.agg cs])] : List AV)⟩, some ⟨1, (pendU [.agg (tkU [.agg cs])])⟩]) ∧
                (((((pendNU [.agg (tkU [.agg cs])] : Nat) : Int) : Int) == IntKind.wrap .i64 (((pendNU [.agg cs] : Nat) : Int) - 1)) = false →
                  Q .ret [.bool (false), .ptr (.rw 0) (0), .int .i64 (a), .int .i64 (i)] [some ⟨1, (tkU [.agg cs])⟩, some ⟨1, (pendU [.agg cs])⟩, some ⟨1, ([.int .i64 (tkSigU [.agg cs]), .bool (tkEndsU [.agg cs]), .int .u32 (tkAtU [.agg cs])] : List AV)⟩, some ⟨1, (pendU [.agg (tkU [.agg cs])])⟩])))))) ∧
      (tkOkU [.agg cs] = false →
        Q .normal [.bool (false), .ptr (.rw 0) (0), .int .i64 (a), .int .i64 (IntKind.wrap .i64 (i + 1))] [some ⟨1, (tkU [.agg cs])⟩, some ⟨1, (pendU [.agg cs])⟩, some ⟨1, ([.int .i64 (tkSigU [.agg cs]), .bool (tkEndsU [.agg cs]), .int .u32 (tkAtU [.agg cs])] : List AV)⟩])) ∧
    (decide ((i : Int) < 16) = false →
      Q (.exit 3) [.bool (false), .ptr (.rw 0) (0), .int .i64 (a), .int .i64 (i)] [some ⟨1, cs⟩])) := by kernel_rfl
theorem ff_b5 (G : Nat → List AV) (cs ds : List AV) (n : Nat) (i : Int) (Q : Ex → List AV → Hp → Prop) (R : AV → Hp → Prop) : vT G Q R (dloop (Dc Try.prog [9, 18] progS [] 0) 300 20 0 (loopN Try.f4 2) 142 [2, 3, 13, 14] [.bool (.lit false), .ptr (.rw 0) (.lit 0), .slice true (.rw 1) (.lit 0) (.var 2 n), .int .i64 (.var 6 i)] [some ⟨1, .var 8 cs⟩, some ⟨1, .var 9 ds⟩]) = (
    (decide ((i : Int) < ((n : Nat) : Int)) = true →
      decide ((0 : Int) ≤ i) = true ∧
      decide ((i : Int) < ((n : Nat) : Int)) = true ∧
      isI .i64 ds (Int.toNat (i)) = true ∧
      okU [.agg cs] = true ∧
      (decide ((getI ds (Int.toNat (i)) : Int) < 1) = true →
        Q .ret [.bool (false), .ptr (.rw 0) (0), .slice true (.rw 1) (0) (n), .int .i64 (i)] [some ⟨1, cs⟩, some ⟨1, ds⟩]) ∧
      (decide ((getI ds (Int.toNat (i)) : Int) < 1) = false →
        (decide ((getI ds (Int.toNat (i)) : Int) > 15) = true →
          Q .ret [.bool (false), .ptr (.rw 0) (0), .slice true (.rw 1) (0) (n), .int .i64 (i)] [some ⟨1, cs⟩, some ⟨1, ds⟩]) ∧
        (decide ((getI ds (Int.toNat (i)) : Int) > 15) = false →
          (waitsU [.agg cs, .int .i64 (getI ds (Int.toNat (i)))] = true →
            Q .normal [.bool (false), .ptr (.rw 0) (0), .slice true (.rw 1) (0) (n), .int .i64 (IntKind.wrap .i64 (i + 1))] [some ⟨1, cs⟩, some ⟨1, ds⟩]) ∧
          (waitsU [.agg cs, .int .i64 (getI ds (Int.toNat (i)))] = false →
            Q .ret [.bool (false), .ptr (.rw 0) (0), .slice true (.rw 1) (0) (n), .int .i64 (i)] [some ⟨1, cs⟩, some ⟨1, ds⟩])))) ∧
    (decide ((i : Int) < ((n : Nat) : Int)) = false →
      Q (.exit 5) [.bool (false), .ptr (.rw 0) (0), .slice true (.rw 1) (0) (n), .int .i64 (i)] [some ⟨1, cs⟩, some ⟨1, ds⟩])) := by kernel_rfl
def F0 (k n : Nat) (j : Nat) (vs : List AV) (H : Hp) : Prop := ∃ i : Nat, i ≤ n ∧ i ≤ 200 ∧ j = 200 - i ∧ vs = [.slice true (.ro k) 0 n, .bool false, .ptr (.rw 0) 0, .int .i64 (i : Int)] ∧ ∃ q : Sg, H = [some ⟨1, encP q⟩]
theorem ff_loop0 (G : Nat → List AV) (B : Nat) (p : Sg) (k n : Nat) (hk : okI .i64 (G k) 0 (n * 3) = true) :
    AWp (⟨Try.prog, G, B⟩ : Ctx) 0 (.loop (loopN Try.f4 0)) (fl 142 [0, 2, 3, 4] [.slice true (.ro k) 0 n, .bool false, .ptr (.rw 0) 0, .int .i64 0]) [some ⟨1, encP p⟩]
      (lv 142 [0, 2, 3, 4] fun e vs H => e = .exit 0 ∧ wk [.undef, .bool false, .ptr (.rw 0) 0, .undef] vs ∧ ∃ q : Sg, H = [some ⟨1, encP q⟩]) := by
  refine aloop_lv (F0 k n) 200 ⟨0, by omega, by omega, rfl, rfl, p, rfl⟩ ?_
  rintro j vs H ⟨i, hi1, hi2, rfl, rfl, q, rfl⟩
  refine dloop_ok (C := (⟨Try.prog, G, B⟩ : Ctx)) (dgF G B) (fuel := 300) (n0 := 20) (m := 0) (c := loopN Try.f4 0) (vs := [.slice true (.ro (.var 1 k)) (.lit 0) (.var 2 n), .bool (.lit false), .ptr (.rw 0) (.lit 0), .int .i64 (.var 6 (i : Int))]) (H := [some ⟨1, .var 8 (encP q)⟩]) (by simp) ?_
  rw [ff_b0]
  have hst : i < n → ∀ j, j < 3 → isI .i64 (G k) (i * 3 + j) = true := fun h j hj => by
    have := okI_get hk (j := i * 3 + j) (by omega)
    rwa [Nat.zero_add] at this
  have nx : i < n → i < 200 → ∀ r : Sg, ∃ k', k' < 200 - i ∧ (F0 k n k' [.slice true (.ro k) 0 n, .bool false, .ptr (.rw 0) 0, .int .i64 (IntKind.wrap .i64 ((i : Int) + 1))] [some ⟨1, encP r⟩] ∨ ∃ vs'' H'', F0 k n k' vs'' H'' ∧ View 0 vs'' H'' [.slice true (.ro k) 0 n, .bool false, .ptr (.rw 0) 0, .int .i64 (IntKind.wrap .i64 ((i : Int) + 1))] [some ⟨1, encP r⟩]) := fun h1 h2 r =>
    ⟨200 - (i + 1), by omega, .inl ⟨i + 1, by omega, by omega, rfl, by rw [i64_in (by omega)]; rfl, r, rfl⟩⟩
  simp only [Int.toNat_natCast, handleU_enc, maskU_enc, sendU_enc]
  repeat' first | refine And.intro ?_ ?_ | intro _
  all_goals try simp only [decide_eq_true_eq, decide_eq_false_iff_not] at *
  all_goals first
    | omega
    | exact okU_enc q
    | exact hst (by omega) 0 (by omega)
    | exact hst (by omega) 1 (by omega)
    | exact hst (by omega) 2 (by omega)
    | exact nx (by omega) (by omega) _
    | rfl
    | exact ⟨q, rfl⟩
    | (simp [wk]; done)

def F3 (j : Nat) (vs : List AV) (H : Hp) : Prop := ∃ i : Nat, i ≤ 16 ∧ j = 16 - i ∧ ∃ (a : Nat) (q : Sg), vs = [.bool false, .ptr (.rw 0) 0, .int .i64 (a : Int), .int .i64 (i : Int)] ∧ H = [some ⟨1, encP q⟩] ∧ upTo' q i ∧ upTo' q a
theorem ff_loop3 (G : Nat → List AV) (B : Nat) (p : Sg) :
    AWp (⟨Try.prog, G, B⟩ : Ctx) 0 (.loop (loopN Try.f4 1)) (fl 142 [2, 3, 8, 9] [.bool false, .ptr (.rw 0) 0, .int .i64 0, .int .i64 0]) [some ⟨1, encP p⟩]
      (lv 142 [2, 3, 8, 9] fun e vs H => e = .exit 3 ∧ wk [.bool false, .ptr (.rw 0) 0, .undef, .undef] vs ∧ ∃ q : Sg, H = [some ⟨1, encP q⟩] ∧ upTo' q 16) := by
  refine aloop_lv F3 16 ⟨0, by omega, rfl, 0, p, rfl, rfl, fun j h1 h2 => by omega, fun j h1 h2 => by omega⟩ ?_
  rintro j vs H ⟨i, hi1, rfl, a, q, rfl, rfl, hu, ha⟩
  refine dloop_ok (C := (⟨Try.prog, G, B⟩ : Ctx)) (dgF G B) (fuel := 300) (n0 := 20) (m := 0) (c := loopN Try.f4 1) (vs := [.bool (.lit false), .ptr (.rw 0) (.lit 0), .int .i64 (.var 5 (a : Int)), .int .i64 (.var 6 (i : Int))]) (H := [some ⟨1, .var 8 (encP q)⟩]) (by simp) ?_
  rw [ff_b3]
  have nx : i < 16 → ∀ (b : Nat) (G' : Hp), upTo' (tkP q) b → ∃ k', k' < 16 - i ∧ (F3 k' [.bool false, .ptr (.rw 0) 0, .int .i64 (b : Int), .int .i64 (IntKind.wrap .i64 ((i : Int) + 1))] ([some ⟨1, encP (tkP q)⟩] ++ G') ∨ ∃ vs'' H'', F3 k' vs'' H'' ∧ View 0 vs'' H'' [.bool false, .ptr (.rw 0) 0, .int .i64 (b : Int), .int .i64 (IntKind.wrap .i64 ((i : Int) + 1))] ([some ⟨1, encP (tkP q)⟩] ++ G')) := fun h1 b G' hb =>
    ⟨16 - (i + 1), by omega, .inr ⟨_, _, ⟨i + 1, by omega, rfl, b, tkP q, rfl, rfl, upTo_step hu, hb⟩, by
      rw [i64_in (by omega)]
      exact View.same (by simp) (by simp [hpB, encP_flat]) (fv_refl _ (by simp [bnds, bnd]))⟩⟩
  simp only [tkU_enc, okU_enc, tkOkU_enc, tkSigU_enc, tkEndsU_enc, tkAtU_enc, pendU_enc, pendNU_enc]
  refine ⟨fun h => ⟨trivial, trivial, fun hok => ?_, fun hok => ?_⟩, fun h => ?_⟩
  · have h := of_decide_eq_true h
    have h0 := tkOk_ne hok
    have hlt := upTo_lt ha h0
    have es : tkSig q = (tkN q : Int) := by unfold tkSig; rw [hok]; rfl
    have ea : tkAt q = u (q.at_ (tkN q)) := by unfold tkAt; rw [hok]; rfl
    have ee : tkEnds q = (q.at_ (tkN q) == 0#32) := by unfold tkEnds; rw [hok]; rfl
    have e1 : (q.at_ (tkN q) == 1#32) = false := by
      unfold tkOk at hok
      cases hb : (q.at_ (tkN q) == 1#32)
      · rfl
      · rw [hb] at hok; simp at hok
    have ep := pend_take q h0
    have hpl := pend_le q.wt
    have ew : IntKind.wrap .i64 (((pend q.wt).length : Int) - 1) = ((pend (tkP q).wt).length : Int) := by rw [i64_in (by omega)]; omega
    rw [es, ea, ee, u_eq0, u_eq1, e1, ew]
    refine ⟨fun h1 => ?_, fun _ => ?_⟩
    · have := of_decide_eq_true h1; omega
    · have fin := fun G' => nx (by omega) (tkN q) G' (upTo_taken h0)
      cases (q.at_ (tkN q) == 0#32)
      · exact ⟨fun h => (by cases h), fun _ => ⟨fun h => (by cases h), fun _ => ⟨fun h => (by cases h), fun _ => ⟨trivial, fun _ => fin _, fun h => (by simp at h)⟩⟩⟩⟩
      · exact ⟨fun _ => ⟨fun _ => ⟨rfl, trivial, fun _ => fin _, fun h => (by simp at h)⟩, fun h => (by cases h)⟩, fun h => (by cases h)⟩
  · have h := of_decide_eq_true h
    exact nx (by omega) a _ (upTo_keep ha)
  · have h := of_decide_eq_false h
    have : i = 16 := by omega
    subst this
    exact ⟨by trivial, by simp [wk], q, by trivial, hu⟩

def F5 (p : Sg) (j : Nat) (vs : List AV) (H : Hp) : Prop := ∃ i : Nat, i ≤ (pend p.wt).length ∧ j = (pend p.wt).length - i ∧ vs = [.bool false, .ptr (.rw 0) 0, .slice true (.rw 1) 0 (pend p.wt).length, .int .i64 (i : Int)] ∧ H = [some ⟨1, encP p⟩, some ⟨1, nl (pend p.wt)⟩]
theorem ff_loop5 (G : Nat → List AV) (B : Nat) (p : Sg) (hp : upTo' p 16) :
    AWp (⟨Try.prog, G, B⟩ : Ctx) 0 (.loop (loopN Try.f4 2)) (fl 142 [2, 3, 13, 14] [.bool false, .ptr (.rw 0) 0, .slice true (.rw 1) 0 (pend p.wt).length, .int .i64 0]) [some ⟨1, encP p⟩, some ⟨1, nl (pend p.wt)⟩]
      (lv 142 [2, 3, 13, 14] fun e vs H => e = .exit 5 ∧ wk [.bool false, .ptr (.rw 0) 0, .undef, .undef] vs ∧ H = [some ⟨1, encP p⟩, some ⟨1, nl (pend p.wt)⟩]) := by
  refine aloop_lv (F5 p) (pend p.wt).length ⟨0, by omega, rfl, rfl, rfl⟩ ?_
  rintro j vs H ⟨i, hi1, rfl, rfl, rfl⟩
  refine dloop_ok (C := (⟨Try.prog, G, B⟩ : Ctx)) (dgF G B) (fuel := 300) (n0 := 20) (m := 0) (c := loopN Try.f4 2) (vs := [.bool (.lit false), .ptr (.rw 0) (.lit 0), .slice true (.rw 1) (.lit 0) (.var 2 (pend p.wt).length), .int .i64 (.var 6 (i : Int))]) (H := [some ⟨1, .var 8 (encP p)⟩, some ⟨1, .var 9 (nl (pend p.wt))⟩]) (by simp) ?_
  rw [ff_b5, Int.toNat_natCast]
  have hl := pend_le p.wt
  refine ⟨fun h => ?_, fun h => ?_⟩
  · have h := of_decide_eq_true h
    have hlt : i < (pend p.wt).length := by omega
    obtain ⟨e1, e2⟩ := nl_getI hlt
    have hm := pend_mem (List.getElem_mem hlt)
    rw [e1, waitsU_enc, waits_calm hp (List.getElem_mem hlt)]
    refine ⟨decide_eq_true (by omega), decide_eq_true (by omega), e2, okU_enc p, fun h1 => ?_, fun _ => ⟨fun h1 => ?_, fun _ => ⟨fun _ => ?_, fun h1 => (by cases h1)⟩⟩⟩
    · have := of_decide_eq_true h1; omega
    · have := of_decide_eq_true h1; omega
    · exact ⟨(pend p.wt).length - (i + 1), by omega, .inl ⟨i + 1, by omega, rfl, by rw [i64_in (by omega)]; rfl, rfl⟩⟩
  · have h := of_decide_eq_false h
    exact ⟨rfl, by simp [wk], rfl⟩
def ffL0 : DL := ⟨0, 142, [0, 2, 3, 4], fun vs H => match vs, H with
  | [.slice true (.ro k) (.lit 0) n, .bool (.lit false), .ptr (.rw 0) (.lit 0), .int .i64 (.lit 0)], [some ⟨1, l⟩] =>
    some (.chk (.uf 1041 stepsU [.agg (.ro k), .ptr (.rw 0) n]) (.chk (.uf 1001 okU [.agg l]) (.allL fun l' => .imp (.uf 1001 okU [.agg l']) (.one (.exit 0) [.undef, .bool (.lit false), .ptr (.rw 0) (.lit 0), .undef] [some ⟨1, l'⟩]))))
  | _, _ => none⟩
theorem ffL0_ok (G : Nat → List AV) (B : Nat) : DLoopOk (⟨Try.prog, G, B⟩ : Ctx) 0 (loopN Try.f4 0) ffL0 := by
  refine .of fun vs H o ho n Q hQ => ?_
  simp only [ffL0] at ho
  split at ho
  · rename_i k n l
    simp only [Option.some.injEq] at ho
    subst ho
    obtain ⟨h1, h2, h3⟩ := hQ
    simp only [vB, vVs, vV, vL, vR, vN, stepsU] at h1
    simp only [vB, vVs, vV] at h2
    have hl : vL G l = encP (decP (vL G l)) := okP_eq h2
    simp only [ffL0, vVs, vV, vR, vN, vI, vB, vHp, List.map_cons, List.map_nil, Option.map_some, vBlk]
    rw [hl]
    refine (ff_loop0 G B _ _ _ h1).lmono ?_
    rintro e vs'' H'' ⟨rfl, g2, q, rfl⟩
    refine .inl ⟨_, g2, ?_⟩
    have := h3 (encP q) (by simp only [vB, vVs, vV, vL]; exact okU_enc q)
    simp only [lHolds, vVs, vV, vR, vN, vI, vB, vL, vHp, List.map_cons, List.map_nil, Option.map_some, vBlk] at this
    exact this
  · simp at ho
def ffL3 : DL := ⟨3, 142, [2, 3, 8, 9], fun vs H => match vs, H with
  | [.bool (.lit false), .ptr (.rw 0) (.lit 0), .int .i64 (.lit 0), .int .i64 (.lit 0)], some ⟨1, l⟩ :: _ =>
    some (.chk (.uf 1001 okU [.agg l]) (.allL fun l' => .imp (.uf 1042 calmU [.agg l']) (.one (.exit 3) [.bool (.lit false), .ptr (.rw 0) (.lit 0), .undef, .undef] [some ⟨1, l'⟩])))
  | _, _ => none⟩
theorem ffL3_ok (G : Nat → List AV) (B : Nat) : DLoopOk (⟨Try.prog, G, B⟩ : Ctx) 0 (loopN Try.f4 1) ffL3 := by
  refine .of fun vs H o ho n Q hQ => ?_
  simp only [ffL3] at ho
  split at ho
  · rename_i l rest
    simp only [Option.some.injEq] at ho
    subst ho
    obtain ⟨h2, h3⟩ := hQ
    simp only [vB, vVs, vV] at h2
    have hl : vL G l = encP (decP (vL G l)) := okP_eq h2
    simp only [ffL3, vVs, vV, vR, vN, vI, vB, vHp, List.map_cons, Option.map_some, vBlk]
    rw [hl]
    show AWp (⟨Try.prog, G, B⟩ : Ctx) 0 _ _ ([some ⟨1, encP _⟩] ++ vHp G rest) _
    refine AWp.forget (by simp) (by simp [hpB, encP_flat]) (by simp [bnds, bnd]) ?_
    refine (ff_loop3 G B _).lmono ?_
    rintro e vs'' H'' ⟨rfl, g2, q, rfl, g3⟩
    refine .inl ⟨_, g2, ?_⟩
    have := h3 (encP q) (by simp only [vB, vVs, vV, vL]; exact calm_eq.2 ⟨q, rfl, g3⟩)
    simp only [lHolds, vVs, vV, vR, vN, vI, vB, vL, vHp, List.map_cons, List.map_nil, Option.map_some, vBlk] at this
    exact this
  · simp at ho
def ffL5 : DL := ⟨5, 142, [2, 3, 13, 14], fun vs H => match vs, H with
  | [.bool (.lit false), .ptr (.rw 0) (.lit 0), .slice true (.rw 1) (.lit 0) n, .int .i64 (.lit 0)], [some ⟨1, l⟩, some ⟨1, d⟩] =>
    some (.chk (.uf 1042 calmU [.agg l]) (.chk (.uf 1043 pendIsU [.agg d, .ptr (.rw 0) n, .agg l]) (.one (.exit 5) [.bool (.lit false), .ptr (.rw 0) (.lit 0), .undef, .undef] [some ⟨1, l⟩, some ⟨1, d⟩])))
  | _, _ => none⟩
theorem ffL5_ok (G : Nat → List AV) (B : Nat) : DLoopOk (⟨Try.prog, G, B⟩ : Ctx) 0 (loopN Try.f4 2) ffL5 := by
  refine .of fun vs H o ho n Q hQ => ?_
  simp only [ffL5] at ho
  split at ho
  · rename_i n l d
    simp only [Option.some.injEq] at ho
    subst ho
    obtain ⟨h2, h3, h4⟩ := hQ
    simp only [vB, vVs, vV] at h2
    obtain ⟨p, hl, hc⟩ := calm_eq.1 h2
    simp only [vB, vVs, vV, vR, vN, hl, pendIsU, decP_enc, Bool.and_eq_true] at h3
    have e1 := eqCs_eq h3.2.1
    have e2 := Nat.eq_of_beq_eq_true h3.2.2
    refine lone ?_ h4
    simp only [ffL5, vVs, vV, vR, vN, vI, vB, vHp, List.map_cons, List.map_nil, Option.map_some, vBlk]
    rw [hl, e1, e2]
    exact ff_loop5 G B p hc
  · simp at ho
theorem dgFF (G : Nat → List AV) (B : Nat) : DGood (⟨Try.prog, G, B⟩ : Ctx) (Dc Try.prog [9, 18] progS [ffL0, ffL3, ffL5] 0) (loopsOf (bodyOf Try.f4)) := dgood (mix G B) (by kernel_rfl) (progS_ok G B) (.cast (.cons (i := 0) (by kernel_rfl) rfl (ffL0_ok G B) (.cons (i := 3) (by kernel_rfl) rfl (ffL3_ok G B) (.cons (i := 5) (by kernel_rfl) rfl (ffL5_ok G B) .nil))) (by kernel_rfl))
theorem ff_run (G : Nat → List AV) (k n : Nat) (Q : Ex → List AV → Hp → Prop) (R : AV → Hp → Prop) : vT G Q R (dlaw (Dc Try.prog [9, 18] progS [ffL0, ffL3, ffL5] 0) 400 20 Try.f4 [.slice true (.ro (.var 1 k)) (.lit 0) (.var 2 n)] []) = (
    stepsU [.agg (G (k)), .ptr (.rw 0) (n)] = true ∧
    okU [.agg ([.bool (true), .int .u32 (0), .int .u32 (0), .int .u32 (0), .int .u32 (0), .int .u32 (0), .int .u32 (0), .int .u32 (0), .int .u32 (0), .int .u32 (0), .int .u32 (0), .int .u32 (0), .int .u32 (0), .int .u32 (0), .int .u32 (0), .int .u32 (0), .int .u32 (0), .int .u32 (0), .int .u32 (0)] : List AV)] = true ∧
    (∀ l20 : List AV,
    (okU [.agg l20] = true →
    okU [.agg l20] = true ∧
    okU [.agg l20] = true ∧
    (!(decide ((1 : Int) < 0))) = true ∧
    (!(decide ((1 : Int) > 15))) = true ∧
    okU [.agg (sendU [.agg l20, .int .i64 (1)])] = true ∧
    (tkOkU [.agg (sendU [.agg l20, .int .i64 (1)])] = true →
      (((tkSigU [.agg (sendU [.agg l20, .int .i64 (1)])] : Int) == 1) = true →
        (tkEndsU [.agg (sendU [.agg l20, .int .i64 (1)])] = true →
          (((tkAtU [.agg (sendU [.agg l20, .int .i64 (1)])] : Int) == 0) = true →
            okU [.agg l20] = true ∧
            (∀ l21 : List AV,
            (calmU [.agg l21] = true →
            okU [.agg l21] = true ∧
            calmU [.agg l21] = true ∧
            pendIsU [.agg (pendU [.agg l21]), .ptr (.rw 0) (pendNU [.agg l21]), .agg l21] = true ∧
            R (.bool (true)) []))) ∧
          (((tkAtU [.agg (sendU [.agg l20, .int .i64 (1)])] : Int) == 0) = false →
            R (.bool (false)) [])) ∧
        (tkEndsU [.agg (sendU [.agg l20, .int .i64 (1)])] = false →
          R (.bool (false)) [])) ∧
      (((tkSigU [.agg (sendU [.agg l20, .int .i64 (1)])] : Int) == 1) = false →
        R (.bool (false)) [])) ∧
    (tkOkU [.agg (sendU [.agg l20, .int .i64 (1)])] = false →
      R (.bool (false)) [])))) := by kernel_rfl
theorem ff_call (G : Nat → List AV) (B : Nat) (k n : Nat) (hk : okI .i64 (G k) 0 (n * 3) = true) : ACalls (⟨Try.prog, G, B⟩ : Ctx) 4 [.slice true (.ro k) 0 n] [] fun v _ => v = .bool true := by
  have key := dlaw_ok (C := (⟨Try.prog, G, B⟩ : Ctx)) (f := 4) (R := fun v _ => v = .bool true) (dgFF G B) (by kernel_rfl) (by kernel_rfl) (by kernel_rfl) (fuel := 400) (n0 := 20) (args := [.slice true (.ro (.var 1 k)) (.lit 0) (.var 2 n)]) (H := []) (by
    rw [ff_run]
    refine ⟨hk, rfl, fun l20 hl => ?_⟩
    obtain ⟨p, rfl⟩ : ∃ p, l20 = encP p := ⟨_, okP_eq hl⟩
    have hn : tkN (send p 1) = 1 := tkN_one _ (send_one p)
    have ha : (send p 1).at_ 1 = 0#32 := (send p 1).ha 1 (.inl (by omega))
    have e1 : tkOk (send p 1) = true := by rw [tkOk_bit (n := 1) (by omega) hn, ha]; rfl
    have e2 : tkSig (send p 1) = 1 := by rw [tkSig_bit (n := 1) (by omega) hn, ha]; rfl
    have e3 : tkEnds (send p 1) = true := by rw [tkEnds_bit (n := 1) (by omega) hn, ha]; rfl
    have e4 : tkAt (send p 1) = 0 := by rw [tkAt_bit (n := 1) (by omega) hn, ha]; rfl
    simp only [sendU_enc, okU_enc, tkOkU_enc, tkSigU_enc, tkEndsU_enc, tkAtU_enc, e1, e2, e3, e4]
    refine ⟨trivial, trivial, rfl, rfl, trivial, fun _ => ⟨fun _ => ⟨fun _ => ⟨fun _ => ⟨trivial, fun l21 h21 => ?_⟩, fun h => (by cases h)⟩, fun h => (by cases h)⟩, fun h => (by cases h)⟩, fun h => (by cases h)⟩
    obtain ⟨q, rfl, hq⟩ := calm_eq.1 h21
    rw [pendU_enc, pendNU_enc]
    exact ⟨okU_enc q, h21, pendIs_enc q, by trivial⟩)
  simp only [vVs, vV, vR, vN, vI, vL, vHp, List.map_nil] at key
  exact key
end Go.Am
