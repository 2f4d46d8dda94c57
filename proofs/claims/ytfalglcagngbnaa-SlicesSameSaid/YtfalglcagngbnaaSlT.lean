/-
  SlicesSame: the loops.
-/
import Derived.Test.YtfalglcagngbnaaSlS
import Derived.Test.YtfalglcagngbnaaBase6
namespace Go.Am
open Go.Proofs
set_option maxRecDepth 100000
theorem progD_ok (G : Nat → List AV) (B : Nat) : DSumsOk (⟨Try.prog, G, B⟩ : Ctx) progD :=
  .cons (closeS_ok G B) (.cons (copyS_ok G B) (.cons (sameS_ok G B) (.cons (rSameS_ok G B) (.cons (rOpenS_ok G B) (.cons (rCloseS_ok G B) (.cons (rGiveS_ok G B) (.cons (rPickS_ok G B) (progR_ok G B))))))))
theorem dgS (G : Nat → List AV) (B : Nat) : DGood (⟨Try.prog, G, B⟩ : Ctx) (Dc Try.prog [9, 19, 16, 20] progD [] 0) [] := dgood (mix G B) (by kernel_rfl) (progD_ok G B) .nil
theorem sm_b0 (G : Nat → List AV) (cs ds es : List AV) (k n k2 n2 : Nat) (i : Int) (Q : Ex → List AV → Hp → Prop) (R : AV → Hp → Prop) : vT G Q R (dloop (Dc Try.prog [9, 19, 16, 20] progD [] 0) 800 20 0 (loopN Try.f6 0) 82 [0, 1, 5, 6, 7, 8, 9, 10] [.slice true (.ro (.var 1 k)) (.lit 0) (.var 2 n), .slice true (.ro (.var 3 k2)) (.lit 0) (.var 4 n2), .ptr (.rw 0) (.lit 0), .ptr (.rw 1) (.lit 0), .ptr (.rw 2) (.lit 0), .ptr (.rw 3) (.lit 0), .bool (.lit true), .int .i64 (.var 6 i)] [some ⟨1, .var 8 cs⟩, some ⟨1, .uf 1501 tlU [.agg (.var 8 cs)]⟩, some ⟨1, .var 9 ds⟩, some ⟨1, .var 10 es⟩]) = (
    (decide ((i : Int) < ((n : Nat) : Int)) = true →
      (decide ((i : Int) < 60) = true →
        decide ((0 : Int) ≤ i) = true ∧
        decide ((i : Int) < ((n : Nat) : Int)) = true ∧
        leafsOk (G (k)) ((Int.toNat (i)) * 3) [.int .i64, .int .i64, .int .i64] = true ∧
        (((getI (G (k)) ((Int.toNat (i)) * 3) : Int) == 1) = true →
          okSU [.agg cs] = true ∧
          okCU [.agg (([.bool (true)] : List AV) ++ (tlU [.agg cs]))] = true ∧
          (((openNU [.agg cs, .int .i64 (getI (G (k)) ((Int.toNat (i)) * 3 + 1))] : Int) == openNU [.agg (([.bool (true)] : List AV) ++ (tlU [.agg cs])), .int .i64 (getI (G (k)) ((Int.toNat (i)) * 3 + 1))]) = true →
            Q .normal [.slice true (.ro (k)) (0) (n), .slice true (.ro (k2)) (0) (n2), .ptr (.rw 0) (0), .ptr (.rw 1) (0), .ptr (.rw 2) (0), .ptr (.rw 3) (0), .bool (((openEU [.agg cs, .int .i64 (getI (G (k)) ((Int.toNat (i)) * 3 + 1))] : Int) == openEU [.agg (([.bool (true)] : List AV) ++ (tlU [.agg cs])), .int .i64 (getI (G (k)) ((Int.toNat (i)) * 3 + 1))])), .int .i64 (IntKind.wrap .i64 (i + 1))] [some ⟨1, (openRU [.agg cs, .int .i64 (getI (G (k)) ((Int.toNat (i)) * 3 + 1))])⟩, some ⟨1, (tlU [.agg (openRU [.agg (([.bool (true)] : List AV) ++ (tlU [.agg cs])), .int .i64 (getI (G (k)) ((Int.toNat (i)) * 3 + 1))])])⟩, some ⟨1, ds⟩, some ⟨1, es⟩, some ⟨1, ([.int .i64 (getI (G (k)) ((Int.toNat (i)) * 3)), .int .i64 (getI (G (k)) ((Int.toNat (i)) * 3 + 1)), .int .i64 (getI (G (k)) ((Int.toNat (i)) * 3 + 2))] : List AV)⟩]) ∧
          (((openNU [.agg cs, .int .i64 (getI (G (k)) ((Int.toNat (i)) * 3 + 1))] : Int) == openNU [.agg (([.bool (true)] : List AV) ++ (tlU [.agg cs])), .int .i64 (getI (G (k)) ((Int.toNat (i)) * 3 + 1))]) = false →
            Q .normal [.slice true (.ro (k)) (0) (n), .slice true (.ro (k2)) (0) (n2), .ptr (.rw 0) (0), .ptr (.rw 1) (0), .ptr (.rw 2) (0), .ptr (.rw 3) (0), .bool (false), .int .i64 (IntKind.wrap .i64 (i + 1))] [some ⟨1, (openRU [.agg cs, .int .i64 (getI (G (k)) ((Int.toNat (i)) * 3 + 1))])⟩, some ⟨1, (tlU [.agg (openRU [.agg (([.bool (true)] : List AV) ++ (tlU [.agg cs])), .int .i64 (getI (G (k)) ((Int.toNat (i)) * 3 + 1))])])⟩, some ⟨1, ds⟩, some ⟨1, es⟩, some ⟨1, ([.int .i64 (getI (G (k)) ((Int.toNat (i)) * 3)), .int .i64 (getI (G (k)) ((Int.toNat (i)) * 3 + 1)), .int .i64 (getI (G (k)) ((Int.toNat (i)) * 3 + 2))] : List AV)⟩])) ∧
        (((getI (G (k)) ((Int.toNat (i)) * 3) : Int) == 1) = false →
          (((getI (G (k)) ((Int.toNat (i)) * 3) : Int) == 2) = true →
            okCU [.agg cs] = true ∧
            okCU [.agg (([.bool (true)] : List AV) ++ (tlU [.agg cs]))] = true ∧
            Q .normal [.slice true (.ro (k)) (0) (n), .slice true (.ro (k2)) (0) (n2), .ptr (.rw 0) (0), .ptr (.rw 1) (0), .ptr (.rw 2) (0), .ptr (.rw 3) (0), .bool (((closeEU [.agg cs, .int .i64 (getI (G (k)) ((Int.toNat (i)) * 3 + 1))] : Int) == closeEU [.agg (([.bool (true)] : List AV) ++ (tlU [.agg cs])), .int .i64 (getI (G (k)) ((Int.toNat (i)) * 3 + 1))])), .int .i64 (IntKind.wrap .i64 (i + 1))] [some ⟨1, (closeRU [.agg cs, .int .i64 (getI (G (k)) ((Int.toNat (i)) * 3 + 1))])⟩, some ⟨1, (tlU [.agg (closeRU [.agg (([.bool (true)] : List AV) ++ (tlU [.agg cs])), .int .i64 (getI (G (k)) ((Int.toNat (i)) * 3 + 1))])])⟩, some ⟨1, ds⟩, some ⟨1, es⟩, some ⟨1, ([.int .i64 (getI (G (k)) ((Int.toNat (i)) * 3)), .int .i64 (getI (G (k)) ((Int.toNat (i)) * 3 + 1)), .int .i64 (getI (G (k)) ((Int.toNat (i)) * 3 + 2))] : List AV)⟩]) ∧
          (((getI (G (k)) ((Int.toNat (i)) * 3) : Int) == 2) = false →
            (((getI (G (k)) ((Int.toNat (i)) * 3) : Int) == 3) = true →
              okSU [.agg cs] = true ∧
              okCU [.agg (([.bool (true)] : List AV) ++ (tlU [.agg cs]))] = true ∧
              Q .normal [.slice true (.ro (k)) (0) (n), .slice true (.ro (k2)) (0) (n2), .ptr (.rw 0) (0), .ptr (.rw 1) (0), .ptr (.rw 2) (0), .ptr (.rw 3) (0), .bool (((giveEU [.agg cs, .int .i64 (getI (G (k)) ((Int.toNat (i)) * 3 + 1)), .int .i64 (getI (G (k)) ((Int.toNat (i)) * 3 + 2))] : Int) == giveEU [.agg (([.bool (true)] : List AV) ++ (tlU [.agg cs])), .int .i64 (getI (G (k)) ((Int.toNat (i)) * 3 + 1)), .int .i64 (getI (G (k)) ((Int.toNat (i)) * 3 + 2))])), .int .i64 (IntKind.wrap .i64 (i + 1))] [some ⟨1, (giveRU [.agg cs, .int .i64 (getI (G (k)) ((Int.toNat (i)) * 3 + 1)), .int .i64 (getI (G (k)) ((Int.toNat (i)) * 3 + 2))])⟩, some ⟨1, (tlU [.agg (giveRU [.agg (([.bool (true)] : List AV) ++ (tlU [.agg cs])), .int .i64 (getI (G (k)) ((Int.toNat (i)) * 3 + 1)), .int .i64 (getI (G (k)) ((Int.toNat (i)) * 3 + 2))])])⟩, some ⟨1, ds⟩, some ⟨1, es⟩, some ⟨1, ([.int .i64 (getI (G (k)) ((Int.toNat (i)) * 3)), .int .i64 (getI (G (k)) ((Int.toNat (i)) * 3 + 1)), .int .i64 (getI (G (k)) ((Int.toNat (i)) * 3 + 2))] : List AV)⟩]) ∧
            (((getI (G (k)) ((Int.toNat (i)) * 3) : Int) == 3) = false →
              (((getI (G (k)) ((Int.toNat (i)) * 3) : Int) == 4) = true →
                okTU [.agg cs] = true ∧
                okCU [.agg (([.bool (true)] : List AV) ++ (tlU [.agg cs]))] = true ∧
                (((pickNU [.agg cs, .int .i64 (getI (G (k)) ((Int.toNat (i)) * 3 + 1))] : Int) == pickNU [.agg (([.bool (true)] : List AV) ++ (tlU [.agg cs])), .int .i64 (getI (G (k)) ((Int.toNat (i)) * 3 + 1))]) = true →
                  Q .normal [.slice true (.ro (k)) (0) (n), .slice true (.ro (k2)) (0) (n2), .ptr (.rw 0) (0), .ptr (.rw 1) (0), .ptr (.rw 2) (0), .ptr (.rw 3) (0), .bool (((pickEU [.agg cs, .int .i64 (getI (G (k)) ((Int.toNat (i)) * 3 + 1))] : Int) == pickEU [.agg (([.bool (true)] : List AV) ++ (tlU [.agg cs])), .int .i64 (getI (G (k)) ((Int.toNat (i)) * 3 + 1))])), .int .i64 (IntKind.wrap .i64 (i + 1))] [some ⟨1, (pickRU [.agg cs, .int .i64 (getI (G (k)) ((Int.toNat (i)) * 3 + 1))])⟩, some ⟨1, (tlU [.agg (pickRU [.agg (([.bool (true)] : List AV) ++ (tlU [.agg cs])), .int .i64 (getI (G (k)) ((Int.toNat (i)) * 3 + 1))])])⟩, some ⟨1, ds⟩, some ⟨1, es⟩, some ⟨1, ([.int .i64 (getI (G (k)) ((Int.toNat (i)) * 3)), .int .i64 (getI (G (k)) ((Int.toNat (i)) * 3 + 1)), .int .i64 (getI (G (k)) ((Int.toNat (i)) * 3 + 2))] : List AV)⟩]) ∧
                (((pickNU [.agg cs, .int .i64 (getI (G (k)) ((Int.toNat (i)) * 3 + 1))] : Int) == pickNU [.agg (([.bool (true)] : List AV) ++ (tlU [.agg cs])), .int .i64 (getI (G (k)) ((Int.toNat (i)) * 3 + 1))]) = false →
                  Q .normal [.slice true (.ro (k)) (0) (n), .slice true (.ro (k2)) (0) (n2), .ptr (.rw 0) (0), .ptr (.rw 1) (0), .ptr (.rw 2) (0), .ptr (.rw 3) (0), .bool (false), .int .i64 (IntKind.wrap .i64 (i + 1))] [some ⟨1, (pickRU [.agg cs, .int .i64 (getI (G (k)) ((Int.toNat (i)) * 3 + 1))])⟩, some ⟨1, (tlU [.agg (pickRU [.agg (([.bool (true)] : List AV) ++ (tlU [.agg cs])), .int .i64 (getI (G (k)) ((Int.toNat (i)) * 3 + 1))])])⟩, some ⟨1, ds⟩, some ⟨1, es⟩, some ⟨1, ([.int .i64 (getI (G (k)) ((Int.toNat (i)) * 3)), .int .i64 (getI (G (k)) ((Int.toNat (i)) * 3 + 1)), .int .i64 (getI (G (k)) ((Int.toNat (i)) * 3 + 2))] : List AV)⟩])) ∧
              (((getI (G (k)) ((Int.toNat (i)) * 3) : Int) == 4) = false →
                (((getI (G (k)) ((Int.toNat (i)) * 3) : Int) == 5) = true →
                  okSU [.agg cs] = true ∧
                  okSU [.agg cs] = true ∧
                  okSU [.agg cs] = true ∧
                  okSU [.agg cs] = true ∧
                  okTU [.agg (openRU [.agg cs, .int .i64 (7)])] = true ∧
                  Q .normal [.slice true (.ro (k)) (0) (n), .slice true (.ro (k2)) (0) (n2), .ptr (.rw 5) (0), .ptr (.rw 1) (0), .ptr (.rw 2) (0), .ptr (.rw 3) (0), .bool (sameU [.agg cs, .agg cs]), .int .i64 (IntKind.wrap .i64 (i + 1))] [some ⟨1, (pickRU [.agg (openRU [.agg cs, .int .i64 (7)]), .int .i64 (0)])⟩, some ⟨1, (tlU [.agg cs])⟩, some ⟨1, ds⟩, some ⟨1, es⟩, some ⟨1, ([.int .i64 (getI (G (k)) ((Int.toNat (i)) * 3)), .int .i64 (getI (G (k)) ((Int.toNat (i)) * 3 + 1)), .int .i64 (getI (G (k)) ((Int.toNat (i)) * 3 + 2))] : List AV)⟩, some ⟨1, cs⟩]) ∧
                (((getI (G (k)) ((Int.toNat (i)) * 3) : Int) == 5) = false →
                  Q .normal [.slice true (.ro (k)) (0) (n), .slice true (.ro (k2)) (0) (n2), .ptr (.rw 0) (0), .ptr (.rw 1) (0), .ptr (.rw 2) (0), .ptr (.rw 3) (0), .bool (true), .int .i64 (IntKind.wrap .i64 (i + 1))] [some ⟨1, cs⟩, some ⟨1, (tlU [.agg cs])⟩, some ⟨1, ds⟩, some ⟨1, es⟩, some ⟨1, ([.int .i64 (getI (G (k)) ((Int.toNat (i)) * 3)), .int .i64 (getI (G (k)) ((Int.toNat (i)) * 3 + 1)), .int .i64 (getI (G (k)) ((Int.toNat (i)) * 3 + 2))] : List AV)⟩])))))) ∧
      (decide ((i : Int) < 60) = false →
        Q (.exit 0) [.slice true (.ro (k)) (0) (n), .slice true (.ro (k2)) (0) (n2), .ptr (.rw 0) (0), .ptr (.rw 1) (0), .ptr (.rw 2) (0), .ptr (.rw 3) (0), .bool (true), .int .i64 (i)] [some ⟨1, cs⟩, some ⟨1, (tlU [.agg cs])⟩, some ⟨1, ds⟩, some ⟨1, es⟩])) ∧
    (decide ((i : Int) < ((n : Nat) : Int)) = false →
      Q (.exit 0) [.slice true (.ro (k)) (0) (n), .slice true (.ro (k2)) (0) (n2), .ptr (.rw 0) (0), .ptr (.rw 1) (0), .ptr (.rw 2) (0), .ptr (.rw 3) (0), .bool (true), .int .i64 (i)] [some ⟨1, cs⟩, some ⟨1, (tlU [.agg cs])⟩, some ⟨1, ds⟩, some ⟨1, es⟩])) := by kernel_rfl
theorem sm_b2 (G : Nat → List AV) (cs ds es : List AV) (k n k2 n2 : Nat) (i : Int) (Q : Ex → List AV → Hp → Prop) (R : AV → Hp → Prop) : vT G Q R (dloop (Dc Try.prog [9, 19, 16, 20] progD [] 0) 800 20 0 (loopN Try.f6 1) 82 [0, 1, 5, 6, 7, 8, 9, 11] [.slice true (.ro (.var 1 k)) (.lit 0) (.var 2 n), .slice true (.ro (.var 3 k2)) (.lit 0) (.var 4 n2), .ptr (.rw 0) (.lit 0), .ptr (.rw 1) (.lit 0), .ptr (.rw 2) (.lit 0), .ptr (.rw 3) (.lit 0), .bool (.lit true), .int .i64 (.var 6 i)] [some ⟨1, .var 8 cs⟩, some ⟨1, .var 10 es⟩, some ⟨1, .var 9 ds⟩, some ⟨1, .uf 1501 tlU [.agg (.var 9 ds)]⟩]) = (
    (decide ((i : Int) < ((n2 : Nat) : Int)) = true →
      (decide ((i : Int) < 60) = true →
        decide ((0 : Int) ≤ i) = true ∧
        decide ((i : Int) < ((n2 : Nat) : Int)) = true ∧
        leafsOk (G (k2)) ((Int.toNat (i)) * 3) [.int .i64, .int .i64, .int .i64] = true ∧
        (((getI (G (k2)) ((Int.toNat (i)) * 3) : Int) == 1) = true →
          okSU [.agg ds] = true ∧
          okCU [.agg (([.bool (true)] : List AV) ++ (tlU [.agg ds]))] = true ∧
          (((openNU [.agg ds, .int .i64 (getI (G (k2)) ((Int.toNat (i)) * 3 + 1))] : Int) == openNU [.agg (([.bool (true)] : List AV) ++ (tlU [.agg ds])), .int .i64 (getI (G (k2)) ((Int.toNat (i)) * 3 + 1))]) = true →
            Q .normal [.slice true (.ro (k)) (0) (n), .slice true (.ro (k2)) (0) (n2), .ptr (.rw 0) (0), .ptr (.rw 1) (0), .ptr (.rw 2) (0), .ptr (.rw 3) (0), .bool (((openEU [.agg ds, .int .i64 (getI (G (k2)) ((Int.toNat (i)) * 3 + 1))] : Int) == openEU [.agg (([.bool (true)] : List AV) ++ (tlU [.agg ds])), .int .i64 (getI (G (k2)) ((Int.toNat (i)) * 3 + 1))])), .int .i64 (IntKind.wrap .i64 (i + 1))] [some ⟨1, cs⟩, some ⟨1, es⟩, some ⟨1, (openRU [.agg ds, .int .i64 (getI (G (k2)) ((Int.toNat (i)) * 3 + 1))])⟩, some ⟨1, (tlU [.agg (openRU [.agg (([.bool (true)] : List AV) ++ (tlU [.agg ds])), .int .i64 (getI (G (k2)) ((Int.toNat (i)) * 3 + 1))])])⟩, some ⟨1, ([.int .i64 (getI (G (k2)) ((Int.toNat (i)) * 3)), .int .i64 (getI (G (k2)) ((Int.toNat (i)) * 3 + 1)), .int .i64 (getI (G (k2)) ((Int.toNat (i)) * 3 + 2))] : List AV)⟩]) ∧
          (((openNU [.agg ds, .int .i64 (getI (G (k2)) ((Int.toNat (i)) * 3 + 1))] : Int) == openNU [.agg (([.bool (true)] : List AV) ++ (tlU [.agg ds])), .int .i64 (getI (G (k2)) ((Int.toNat (i)) * 3 + 1))]) = false →
            Q .normal [.slice true (.ro (k)) (0) (n), .slice true (.ro (k2)) (0) (n2), .ptr (.rw 0) (0), .ptr (.rw 1) (0), .ptr (.rw 2) (0), .ptr (.rw 3) (0), .bool (false), .int .i64 (IntKind.wrap .i64 (i + 1))] [some ⟨1, cs⟩, some ⟨1, es⟩, some ⟨1, (openRU [.agg ds, .int .i64 (getI (G (k2)) ((Int.toNat (i)) * 3 + 1))])⟩, some ⟨1, (tlU [.agg (openRU [.agg (([.bool (true)] : List AV) ++ (tlU [.agg ds])), .int .i64 (getI (G (k2)) ((Int.toNat (i)) * 3 + 1))])])⟩, some ⟨1, ([.int .i64 (getI (G (k2)) ((Int.toNat (i)) * 3)), .int .i64 (getI (G (k2)) ((Int.toNat (i)) * 3 + 1)), .int .i64 (getI (G (k2)) ((Int.toNat (i)) * 3 + 2))] : List AV)⟩])) ∧
        (((getI (G (k2)) ((Int.toNat (i)) * 3) : Int) == 1) = false →
          (((getI (G (k2)) ((Int.toNat (i)) * 3) : Int) == 2) = true →
            okCU [.agg ds] = true ∧
            okCU [.agg (([.bool (true)] : List AV) ++ (tlU [.agg ds]))] = true ∧
            Q .normal [.slice true (.ro (k)) (0) (n), .slice true (.ro (k2)) (0) (n2), .ptr (.rw 0) (0), .ptr (.rw 1) (0), .ptr (.rw 2) (0), .ptr (.rw 3) (0), .bool (((closeEU [.agg ds, .int .i64 (getI (G (k2)) ((Int.toNat (i)) * 3 + 1))] : Int) == closeEU [.agg (([.bool (true)] : List AV) ++ (tlU [.agg ds])), .int .i64 (getI (G (k2)) ((Int.toNat (i)) * 3 + 1))])), .int .i64 (IntKind.wrap .i64 (i + 1))] [some ⟨1, cs⟩, some ⟨1, es⟩, some ⟨1, (closeRU [.agg ds, .int .i64 (getI (G (k2)) ((Int.toNat (i)) * 3 + 1))])⟩, some ⟨1, (tlU [.agg (closeRU [.agg (([.bool (true)] : List AV) ++ (tlU [.agg ds])), .int .i64 (getI (G (k2)) ((Int.toNat (i)) * 3 + 1))])])⟩, some ⟨1, ([.int .i64 (getI (G (k2)) ((Int.toNat (i)) * 3)), .int .i64 (getI (G (k2)) ((Int.toNat (i)) * 3 + 1)), .int .i64 (getI (G (k2)) ((Int.toNat (i)) * 3 + 2))] : List AV)⟩]) ∧
          (((getI (G (k2)) ((Int.toNat (i)) * 3) : Int) == 2) = false →
            (((getI (G (k2)) ((Int.toNat (i)) * 3) : Int) == 3) = true →
              okSU [.agg ds] = true ∧
              okCU [.agg (([.bool (true)] : List AV) ++ (tlU [.agg ds]))] = true ∧
              Q .normal [.slice true (.ro (k)) (0) (n), .slice true (.ro (k2)) (0) (n2), .ptr (.rw 0) (0), .ptr (.rw 1) (0), .ptr (.rw 2) (0), .ptr (.rw 3) (0), .bool (((giveEU [.agg ds, .int .i64 (getI (G (k2)) ((Int.toNat (i)) * 3 + 1)), .int .i64 (getI (G (k2)) ((Int.toNat (i)) * 3 + 2))] : Int) == giveEU [.agg (([.bool (true)] : List AV) ++ (tlU [.agg ds])), .int .i64 (getI (G (k2)) ((Int.toNat (i)) * 3 + 1)), .int .i64 (getI (G (k2)) ((Int.toNat (i)) * 3 + 2))])), .int .i64 (IntKind.wrap .i64 (i + 1))] [some ⟨1, cs⟩, some ⟨1, es⟩, some ⟨1, (giveRU [.agg ds, .int .i64 (getI (G (k2)) ((Int.toNat (i)) * 3 + 1)), .int .i64 (getI (G (k2)) ((Int.toNat (i)) * 3 + 2))])⟩, some ⟨1, (tlU [.agg (giveRU [.agg (([.bool (true)] : List AV) ++ (tlU [.agg ds])), .int .i64 (getI (G (k2)) ((Int.toNat (i)) * 3 + 1)), .int .i64 (getI (G (k2)) ((Int.toNat (i)) * 3 + 2))])])⟩, some ⟨1, ([.int .i64 (getI (G (k2)) ((Int.toNat (i)) * 3)), .int .i64 (getI (G (k2)) ((Int.toNat (i)) * 3 + 1)), .int .i64 (getI (G (k2)) ((Int.toNat (i)) * 3 + 2))] : List AV)⟩]) ∧
            (((getI (G (k2)) ((Int.toNat (i)) * 3) : Int) == 3) = false →
              (((getI (G (k2)) ((Int.toNat (i)) * 3) : Int) == 4) = true →
                okTU [.agg ds] = true ∧
                okCU [.agg (([.bool (true)] : List AV) ++ (tlU [.agg ds]))] = true ∧
                (((pickNU [.agg ds, .int .i64 (getI (G (k2)) ((Int.toNat (i)) * 3 + 1))] : Int) == pickNU [.agg (([.bool (true)] : List AV) ++ (tlU [.agg ds])), .int .i64 (getI (G (k2)) ((Int.toNat (i)) * 3 + 1))]) = true →
                  Q .normal [.slice true (.ro (k)) (0) (n), .slice true (.ro (k2)) (0) (n2), .ptr (.rw 0) (0), .ptr (.rw 1) (0), .ptr (.rw 2) (0), .ptr (.rw 3) (0), .bool (((pickEU [.agg ds, .int .i64 (getI (G (k2)) ((Int.toNat (i)) * 3 + 1))] : Int) == pickEU [.agg (([.bool (true)] : List AV) ++ (tlU [.agg ds])), .int .i64 (getI (G (k2)) ((Int.toNat (i)) * 3 + 1))])), .int .i64 (IntKind.wrap .i64 (i + 1))] [some ⟨1, cs⟩, some ⟨1, es⟩, some ⟨1, (pickRU [.agg ds, .int .i64 (getI (G (k2)) ((Int.toNat (i)) * 3 + 1))])⟩, some ⟨1, (tlU [.agg (pickRU [.agg (([.bool (true)] : List AV) ++ (tlU [.agg ds])), .int .i64 (getI (G (k2)) ((Int.toNat (i)) * 3 + 1))])])⟩, some ⟨1, ([.int .i64 (getI (G (k2)) ((Int.toNat (i)) * 3)), .int .i64 (getI (G (k2)) ((Int.toNat (i)) * 3 + 1)), .int .i64 (getI (G (k2)) ((Int.toNat (i)) * 3 + 2))] : List AV)⟩]) ∧
                (((pickNU [.agg ds, .int .i64 (getI (G (k2)) ((Int.toNat (i)) * 3 + 1))] : Int) == pickNU [.agg (([.bool (true)] : List AV) ++ (tlU [.agg ds])), .int .i64 (getI (G (k2)) ((Int.toNat (i)) * 3 + 1))]) = false →
                  Q .normal [.slice true (.ro (k)) (0) (n), .slice true (.ro (k2)) (0) (n2), .ptr (.rw 0) (0), .ptr (.rw 1) (0), .ptr (.rw 2) (0), .ptr (.rw 3) (0), .bool (false), .int .i64 (IntKind.wrap .i64 (i + 1))] [some ⟨1, cs⟩, some ⟨1, es⟩, some ⟨1, (pickRU [.agg ds, .int .i64 (getI (G (k2)) ((Int.toNat (i)) * 3 + 1))])⟩, some ⟨1, (tlU [.agg (pickRU [.agg (([.bool (true)] : List AV) ++ (tlU [.agg ds])), .int .i64 (getI (G (k2)) ((Int.toNat (i)) * 3 + 1))])])⟩, some ⟨1, ([.int .i64 (getI (G (k2)) ((Int.toNat (i)) * 3)), .int .i64 (getI (G (k2)) ((Int.toNat (i)) * 3 + 1)), .int .i64 (getI (G (k2)) ((Int.toNat (i)) * 3 + 2))] : List AV)⟩])) ∧
              (((getI (G (k2)) ((Int.toNat (i)) * 3) : Int) == 4) = false →
                (((getI (G (k2)) ((Int.toNat (i)) * 3) : Int) == 5) = true →
                  okSU [.agg ds] = true ∧
                  okSU [.agg ds] = true ∧
                  okSU [.agg ds] = true ∧
                  okSU [.agg ds] = true ∧
                  okTU [.agg (openRU [.agg ds, .int .i64 (7)])] = true ∧
                  Q .normal [.slice true (.ro (k)) (0) (n), .slice true (.ro (k2)) (0) (n2), .ptr (.rw 0) (0), .ptr (.rw 1) (0), .ptr (.rw 5) (0), .ptr (.rw 3) (0), .bool (sameU [.agg ds, .agg ds]), .int .i64 (IntKind.wrap .i64 (i + 1))] [some ⟨1, cs⟩, some ⟨1, es⟩, some ⟨1, (pickRU [.agg (openRU [.agg ds, .int .i64 (7)]), .int .i64 (0)])⟩, some ⟨1, (tlU [.agg ds])⟩, some ⟨1, ([.int .i64 (getI (G (k2)) ((Int.toNat (i)) * 3)), .int .i64 (getI (G (k2)) ((Int.toNat (i)) * 3 + 1)), .int .i64 (getI (G (k2)) ((Int.toNat (i)) * 3 + 2))] : List AV)⟩, some ⟨1, ds⟩]) ∧
                (((getI (G (k2)) ((Int.toNat (i)) * 3) : Int) == 5) = false →
                  Q .normal [.slice true (.ro (k)) (0) (n), .slice true (.ro (k2)) (0) (n2), .ptr (.rw 0) (0), .ptr (.rw 1) (0), .ptr (.rw 2) (0), .ptr (.rw 3) (0), .bool (true), .int .i64 (IntKind.wrap .i64 (i + 1))] [some ⟨1, cs⟩, some ⟨1, es⟩, some ⟨1, ds⟩, some ⟨1, (tlU [.agg ds])⟩, some ⟨1, ([.int .i64 (getI (G (k2)) ((Int.toNat (i)) * 3)), .int .i64 (getI (G (k2)) ((Int.toNat (i)) * 3 + 1)), .int .i64 (getI (G (k2)) ((Int.toNat (i)) * 3 + 2))] : List AV)⟩])))))) ∧
      (decide ((i : Int) < 60) = false →
        Q (.exit 2) [.slice true (.ro (k)) (0) (n), .slice true (.ro (k2)) (0) (n2), .ptr (.rw 0) (0), .ptr (.rw 1) (0), .ptr (.rw 2) (0), .ptr (.rw 3) (0), .bool (true), .int .i64 (i)] [some ⟨1, cs⟩, some ⟨1, es⟩, some ⟨1, ds⟩, some ⟨1, (tlU [.agg ds])⟩])) ∧
    (decide ((i : Int) < ((n2 : Nat) : Int)) = false →
      Q (.exit 2) [.slice true (.ro (k)) (0) (n), .slice true (.ro (k2)) (0) (n2), .ptr (.rw 0) (0), .ptr (.rw 1) (0), .ptr (.rw 2) (0), .ptr (.rw 3) (0), .bool (true), .int .i64 (i)] [some ⟨1, cs⟩, some ⟨1, es⟩, some ⟨1, ds⟩, some ⟨1, (tlU [.agg ds])⟩])) := by kernel_rfl
theorem leafs3 {i : Nat} {n : Nat} {cs : List AV} (hk : okI .i64 cs 0 (n * 3) = true) (h : i < n) : leafsOk cs (i * 3) [.int .i64, .int .i64, .int .i64] = true := by
  have h0 := okI_get hk (j := i * 3) (by omega)
  have h1 := okI_get hk (j := i * 3 + 1) (by omega)
  have h2 := okI_get hk (j := i * 3 + 1 + 1) (by omega)
  rw [Nat.zero_add] at h0 h1 h2
  simp [leafsOk, leafOk, h0, h1, h2]

theorem sm_body0 (G : Nat → List AV) (cs ds es : List AV) (k n k2 n2 i : Nat) (Q : Ex → List AV → Hp → Prop) (R : AV → Hp → Prop) (hC : okC cs) (hk : okI .i64 (G k) 0 (n * 3) = true)
    (nx : i < n → i < 60 → ∀ c Gx, okC c → Q .normal [.slice true (.ro k) 0 n, .slice true (.ro k2) 0 n2, .ptr (.rw 0) 0, .ptr (.rw 1) 0, .ptr (.rw 2) 0, .ptr (.rw 3) 0, .bool true, .int .i64 (IntKind.wrap .i64 ((i : Int) + 1))] ([some ⟨1, c⟩, some ⟨1, tlU [.agg c]⟩, some ⟨1, ds⟩, some ⟨1, es⟩] ++ Gx))
    (nc : i < n → i < 60 → ∀ g b, Q .normal [.slice true (.ro k) 0 n, .slice true (.ro k2) 0 n2, .ptr (.rw 5) 0, .ptr (.rw 1) 0, .ptr (.rw 2) 0, .ptr (.rw 3) 0, .bool true, .int .i64 (IntKind.wrap .i64 ((i : Int) + 1))] ([some ⟨1, g⟩, some ⟨1, tlU [.agg cs]⟩, some ⟨1, ds⟩, some ⟨1, es⟩] ++ [b, some ⟨1, cs⟩]))
    (he : ¬ (i < n ∧ i < 60) → Q (.exit 0) [.slice true (.ro k) 0 n, .slice true (.ro k2) 0 n2, .ptr (.rw 0) 0, .ptr (.rw 1) 0, .ptr (.rw 2) 0, .ptr (.rw 3) 0, .bool true, .int .i64 (i : Int)] [some ⟨1, cs⟩, some ⟨1, tlU [.agg cs]⟩, some ⟨1, ds⟩, some ⟨1, es⟩]) :
    vT G Q R (dloop (Dc Try.prog [9, 19, 16, 20] progD [] 0) 800 20 0 (loopN Try.f6 0) 82 [0, 1, 5, 6, 7, 8, 9, 10] [.slice true (.ro (.var 1 k)) (.lit 0) (.var 2 n), .slice true (.ro (.var 3 k2)) (.lit 0) (.var 4 n2), .ptr (.rw 0) (.lit 0), .ptr (.rw 1) (.lit 0), .ptr (.rw 2) (.lit 0), .ptr (.rw 3) (.lit 0), .bool (.lit true), .int .i64 (.var 6 (i : Int))] [some ⟨1, .var 8 cs⟩, some ⟨1, .uf 1501 tlU [.agg (.var 8 cs)]⟩, some ⟨1, .var 9 ds⟩, some ⟨1, .var 10 es⟩]) := by
  have hs := (okT_iff.1 hC.1).1
  have eT : ([AV.bool true] : List AV) ++ tlU [.agg cs] = cs := T_tl hs
  rw [sm_b0]
  simp only [Int.toNat_natCast, eT, beq_self_eq_true, show sameU [.agg cs, .agg cs] = true from sameB_refl cs, okCU_iff.2 hC, show okSU [.agg cs] = true from hs, show okTU [.agg cs] = true from hC.1, show okTU [.agg (openRU [.agg cs, .int .i64 7])] = true from okT_openR hC.1 7]
  have a1 : ∀ a, okC (openRU [.agg cs, .int .i64 a]) := okC_open hC
  have a2 : ∀ a, okC (closeRU [.agg cs, .int .i64 a]) := okC_close hC
  have a3 : ∀ a b, okC (giveRU [.agg cs, .int .i64 a, .int .i64 b]) := okC_give hC
  have a4 : ∀ a, okC (pickRU [.agg cs, .int .i64 a]) := okC_pick hC
  clear eT hs
  generalize openRU = f1 at *
  generalize closeRU = f2 at *
  generalize giveRU = f3 at *
  generalize pickRU = f4 at *
  generalize tlU = f5 at *
  repeat' first | refine And.intro ?_ ?_ | intro _
  all_goals try simp only [decide_eq_true_eq, decide_eq_false_iff_not] at *
  all_goals first
    | omega
    | exact leafs3 hk (by omega)
    | exact he (by omega)
    | contradiction
    | exact nx (by omega) (by omega) cs [_] hC
    | exact nx (by omega) (by omega) _ [_] (a1 _)
    | exact nx (by omega) (by omega) _ [_] (a2 _)
    | exact nx (by omega) (by omega) _ [_] (a3 _ _)
    | exact nx (by omega) (by omega) _ [_] (a4 _)
    | exact nc (by omega) (by omega) _ _
    | rfl

theorem sm_body2 (G : Nat → List AV) (cs ds es : List AV) (k n k2 n2 i : Nat) (Q : Ex → List AV → Hp → Prop) (R : AV → Hp → Prop) (hC : okC ds) (hk : okI .i64 (G k2) 0 (n2 * 3) = true)
    (nx : i < n2 → i < 60 → ∀ c Gx, okC c → Q .normal [.slice true (.ro k) 0 n, .slice true (.ro k2) 0 n2, .ptr (.rw 0) 0, .ptr (.rw 1) 0, .ptr (.rw 2) 0, .ptr (.rw 3) 0, .bool true, .int .i64 (IntKind.wrap .i64 ((i : Int) + 1))] ([some ⟨1, cs⟩, some ⟨1, es⟩, some ⟨1, c⟩, some ⟨1, tlU [.agg c]⟩] ++ Gx))
    (nc : i < n2 → i < 60 → ∀ g b, Q .normal [.slice true (.ro k) 0 n, .slice true (.ro k2) 0 n2, .ptr (.rw 0) 0, .ptr (.rw 1) 0, .ptr (.rw 5) 0, .ptr (.rw 3) 0, .bool true, .int .i64 (IntKind.wrap .i64 ((i : Int) + 1))] ([some ⟨1, cs⟩, some ⟨1, es⟩, some ⟨1, g⟩, some ⟨1, tlU [.agg ds]⟩] ++ [b, some ⟨1, ds⟩]))
    (he : ¬ (i < n2 ∧ i < 60) → Q (.exit 2) [.slice true (.ro k) 0 n, .slice true (.ro k2) 0 n2, .ptr (.rw 0) 0, .ptr (.rw 1) 0, .ptr (.rw 2) 0, .ptr (.rw 3) 0, .bool true, .int .i64 (i : Int)] [some ⟨1, cs⟩, some ⟨1, es⟩, some ⟨1, ds⟩, some ⟨1, tlU [.agg ds]⟩]) :
    vT G Q R (dloop (Dc Try.prog [9, 19, 16, 20] progD [] 0) 800 20 0 (loopN Try.f6 1) 82 [0, 1, 5, 6, 7, 8, 9, 11] [.slice true (.ro (.var 1 k)) (.lit 0) (.var 2 n), .slice true (.ro (.var 3 k2)) (.lit 0) (.var 4 n2), .ptr (.rw 0) (.lit 0), .ptr (.rw 1) (.lit 0), .ptr (.rw 2) (.lit 0), .ptr (.rw 3) (.lit 0), .bool (.lit true), .int .i64 (.var 6 (i : Int))] [some ⟨1, .var 8 cs⟩, some ⟨1, .var 10 es⟩, some ⟨1, .var 9 ds⟩, some ⟨1, .uf 1501 tlU [.agg (.var 9 ds)]⟩]) := by
  have hs := (okT_iff.1 hC.1).1
  have eT : ([AV.bool true] : List AV) ++ tlU [.agg ds] = ds := T_tl hs
  rw [sm_b2]
  simp only [Int.toNat_natCast, eT, beq_self_eq_true, show sameU [.agg ds, .agg ds] = true from sameB_refl ds, okCU_iff.2 hC, show okSU [.agg ds] = true from hs, show okTU [.agg ds] = true from hC.1, show okTU [.agg (openRU [.agg ds, .int .i64 7])] = true from okT_openR hC.1 7]
  have a1 : ∀ a, okC (openRU [.agg ds, .int .i64 a]) := okC_open hC
  have a2 : ∀ a, okC (closeRU [.agg ds, .int .i64 a]) := okC_close hC
  have a3 : ∀ a b, okC (giveRU [.agg ds, .int .i64 a, .int .i64 b]) := okC_give hC
  have a4 : ∀ a, okC (pickRU [.agg ds, .int .i64 a]) := okC_pick hC
  clear eT hs
  generalize openRU = f1 at *
  generalize closeRU = f2 at *
  generalize giveRU = f3 at *
  generalize pickRU = f4 at *
  generalize tlU = f5 at *
  repeat' first | refine And.intro ?_ ?_ | intro _
  all_goals try simp only [decide_eq_true_eq, decide_eq_false_iff_not] at *
  all_goals first
    | omega
    | exact leafs3 hk (by omega)
    | exact he (by omega)
    | contradiction
    | exact nx (by omega) (by omega) ds [_] hC
    | exact nx (by omega) (by omega) _ [_] (a1 _)
    | exact nx (by omega) (by omega) _ [_] (a2 _)
    | exact nx (by omega) (by omega) _ [_] (a3 _ _)
    | exact nx (by omega) (by omega) _ [_] (a4 _)
    | exact nc (by omega) (by omega) _ _
    | rfl

end Go.Am
