/-
  SignalsSame: the loops and the run.
-/
import Derived.Test.YtopenjkaifbnmaaSgSteps
namespace Go.Am
open Go.Proofs Crc
set_option maxRecDepth 100000
theorem sm_a (G : Nat → List AV) (cs ds : List AV) (k n k2 n2 : Nat) (i : Int) (Q : Ex → List AV → Hp → Prop) (R : AV → Hp → Prop) : vT G Q R (dloop (Dc Try.prog [9, 18, 21] allS [] 0) 300 20 0 (loopN Try.f6 0) 82 [0, 1, 4, 5, 6, 7, 8, 9, 10] [.slice true (.ro (.var 1 k)) (.lit 0) (.var 2 n), .slice true (.ro (.var 3 k2)) (.lit 0) (.var 4 n2), .bool (.lit false), .ptr (.rw 0) (.lit 0), .ptr (.rw 1) (.lit 0), .ptr (.rw 2) (.lit 0), .ptr (.rw 3) (.lit 0), .bool (.lit true), .int .i64 (.var 6 i)] [some ⟨1, .var 8 cs⟩, some ⟨1, .uf 1002 encRU [.agg (.var 8 cs)]⟩, some ⟨1, .var 9 ds⟩, some ⟨1, .uf 1002 encRU [.agg (.var 9 ds)]⟩]) = (
    (decide ((i : Int) < ((n : Nat) : Int)) = true →
      (decide ((i : Int) < 100) = true →
        decide ((0 : Int) ≤ i) = true ∧
        decide ((i : Int) < ((n : Nat) : Int)) = true ∧
        leafsOk (G (k)) ((Int.toNat (i)) * 3) [.int .i64, .int .i64, .int .i64] = true ∧
        (((getI (G (k)) ((Int.toNat (i)) * 3) : Int) == 1) = true →
          okU [.agg cs] = true ∧
          (decide ((getI (G (k)) ((Int.toNat (i)) * 3 + 1) : Int) < 0) = true →
            okRU [.agg (encRU [.agg cs]), .agg cs] = true ∧
            decide ((getI (G (k)) ((Int.toNat (i)) * 3 + 1) : Int) < 0) = true ∧
            Q .normal [.slice true (.ro (k)) (0) (n), .slice true (.ro (k2)) (0) (n2), .bool (false), .ptr (.rw 0) (0), .ptr (.rw 1) (0), .ptr (.rw 2) (0), .ptr (.rw 3) (0), .bool (true), .int .i64 (IntKind.wrap .i64 (i + 1))] [some ⟨1, cs⟩, some ⟨1, (encRU [.agg cs])⟩, some ⟨1, ds⟩, some ⟨1, (encRU [.agg ds])⟩, some ⟨1, ([.int .i64 (getI (G (k)) ((Int.toNat (i)) * 3)), .int .i64 (getI (G (k)) ((Int.toNat (i)) * 3 + 1)), .int .i64 (getI (G (k)) ((Int.toNat (i)) * 3 + 2))] : List AV)⟩]) ∧
          (decide ((getI (G (k)) ((Int.toNat (i)) * 3 + 1) : Int) < 0) = false →
            (decide ((getI (G (k)) ((Int.toNat (i)) * 3 + 1) : Int) > 15) = true →
              okRU [.agg (encRU [.agg cs]), .agg cs] = true ∧
              (!(decide ((getI (G (k)) ((Int.toNat (i)) * 3 + 1) : Int) < 0))) = true ∧
              decide ((getI (G (k)) ((Int.toNat (i)) * 3 + 1) : Int) > 15) = true ∧
              Q .normal [.slice true (.ro (k)) (0) (n), .slice true (.ro (k2)) (0) (n2), .bool (false), .ptr (.rw 0) (0), .ptr (.rw 1) (0), .ptr (.rw 2) (0), .ptr (.rw 3) (0), .bool (true), .int .i64 (IntKind.wrap .i64 (i + 1))] [some ⟨1, cs⟩, some ⟨1, (encRU [.agg cs])⟩, some ⟨1, ds⟩, some ⟨1, (encRU [.agg ds])⟩, some ⟨1, ([.int .i64 (getI (G (k)) ((Int.toNat (i)) * 3)), .int .i64 (getI (G (k)) ((Int.toNat (i)) * 3 + 1)), .int .i64 (getI (G (k)) ((Int.toNat (i)) * 3 + 2))] : List AV)⟩]) ∧
            (decide ((getI (G (k)) ((Int.toNat (i)) * 3 + 1) : Int) > 15) = false →
              okRU [.agg (encRU [.agg cs]), .agg cs] = true ∧
              (!(decide ((getI (G (k)) ((Int.toNat (i)) * 3 + 1) : Int) < 0))) = true ∧
              (!(decide ((getI (G (k)) ((Int.toNat (i)) * 3 + 1) : Int) > 15))) = true ∧
              Q .normal [.slice true (.ro (k)) (0) (n), .slice true (.ro (k2)) (0) (n2), .bool (false), .ptr (.rw 0) (0), .ptr (.rw 1) (0), .ptr (.rw 2) (0), .ptr (.rw 3) (0), .bool (true), .int .i64 (IntKind.wrap .i64 (i + 1))] [some ⟨1, (sendU [.agg cs, .int .i64 (getI (G (k)) ((Int.toNat (i)) * 3 + 1))])⟩, some ⟨1, (encRU [.agg (sendU [.agg cs, .int .i64 (getI (G (k)) ((Int.toNat (i)) * 3 + 1))])])⟩, some ⟨1, ds⟩, some ⟨1, (encRU [.agg ds])⟩, some ⟨1, ([.int .i64 (getI (G (k)) ((Int.toNat (i)) * 3)), .int .i64 (getI (G (k)) ((Int.toNat (i)) * 3 + 1)), .int .i64 (getI (G (k)) ((Int.toNat (i)) * 3 + 2))] : List AV)⟩]))) ∧
        (((getI (G (k)) ((Int.toNat (i)) * 3) : Int) == 1) = false →
          (((getI (G (k)) ((Int.toNat (i)) * 3) : Int) == 2) = true →
            okU [.agg cs] = true ∧
            okRU [.agg (encRU [.agg cs]), .agg cs] = true ∧
            ((heldU [.agg cs] : Int) == heldU [.agg cs]) = true ∧
            Q .normal [.slice true (.ro (k)) (0) (n), .slice true (.ro (k2)) (0) (n2), .bool (false), .ptr (.rw 0) (0), .ptr (.rw 1) (0), .ptr (.rw 2) (0), .ptr (.rw 3) (0), .bool (true), .int .i64 (IntKind.wrap .i64 (i + 1))] [some ⟨1, (maskU [.agg cs, .int .i64 (getI (G (k)) ((Int.toNat (i)) * 3 + 2))])⟩, some ⟨1, (encRU [.agg (maskU [.agg cs, .int .i64 (getI (G (k)) ((Int.toNat (i)) * 3 + 2))])])⟩, some ⟨1, ds⟩, some ⟨1, (encRU [.agg ds])⟩, some ⟨1, ([.int .i64 (getI (G (k)) ((Int.toNat (i)) * 3)), .int .i64 (getI (G (k)) ((Int.toNat (i)) * 3 + 1)), .int .i64 (getI (G (k)) ((Int.toNat (i)) * 3 + 2))] : List AV)⟩]) ∧
          (((getI (G (k)) ((Int.toNat (i)) * 3) : Int) == 2) = false →
            (((getI (G (k)) ((Int.toNat (i)) * 3) : Int) == 3) = true →
              okU [.agg cs] = true ∧
              (decide ((getI (G (k)) ((Int.toNat (i)) * 3 + 1) : Int) < 2) = true →
                okRU [.agg (encRU [.agg cs]), .agg cs] = true ∧
                decide ((getI (G (k)) ((Int.toNat (i)) * 3 + 1) : Int) < 2) = true ∧
                Q .normal [.slice true (.ro (k)) (0) (n), .slice true (.ro (k2)) (0) (n2), .bool (false), .ptr (.rw 0) (0), .ptr (.rw 1) (0), .ptr (.rw 2) (0), .ptr (.rw 3) (0), .bool (true), .int .i64 (IntKind.wrap .i64 (i + 1))] [some ⟨1, cs⟩, some ⟨1, (encRU [.agg cs])⟩, some ⟨1, ds⟩, some ⟨1, (encRU [.agg ds])⟩, some ⟨1, ([.int .i64 (getI (G (k)) ((Int.toNat (i)) * 3)), .int .i64 (getI (G (k)) ((Int.toNat (i)) * 3 + 1)), .int .i64 (getI (G (k)) ((Int.toNat (i)) * 3 + 2))] : List AV)⟩]) ∧
              (decide ((getI (G (k)) ((Int.toNat (i)) * 3 + 1) : Int) < 2) = false →
                (decide ((getI (G (k)) ((Int.toNat (i)) * 3 + 1) : Int) > 15) = true →
                  okRU [.agg (encRU [.agg cs]), .agg cs] = true ∧
                  (!(decide ((getI (G (k)) ((Int.toNat (i)) * 3 + 1) : Int) < 2))) = true ∧
                  decide ((getI (G (k)) ((Int.toNat (i)) * 3 + 1) : Int) > 15) = true ∧
                  Q .normal [.slice true (.ro (k)) (0) (n), .slice true (.ro (k2)) (0) (n2), .bool (false), .ptr (.rw 0) (0), .ptr (.rw 1) (0), .ptr (.rw 2) (0), .ptr (.rw 3) (0), .bool (true), .int .i64 (IntKind.wrap .i64 (i + 1))] [some ⟨1, cs⟩, some ⟨1, (encRU [.agg cs])⟩, some ⟨1, ds⟩, some ⟨1, (encRU [.agg ds])⟩, some ⟨1, ([.int .i64 (getI (G (k)) ((Int.toNat (i)) * 3)), .int .i64 (getI (G (k)) ((Int.toNat (i)) * 3 + 1)), .int .i64 (getI (G (k)) ((Int.toNat (i)) * 3 + 2))] : List AV)⟩]) ∧
                (decide ((getI (G (k)) ((Int.toNat (i)) * 3 + 1) : Int) > 15) = false →
                  (decide ((getI (G (k)) ((Int.toNat (i)) * 3 + 2) : Int) < 0) = true →
                    okRU [.agg (encRU [.agg cs]), .agg cs] = true ∧
                    (!(decide ((getI (G (k)) ((Int.toNat (i)) * 3 + 1) : Int) < 2))) = true ∧
                    (!(decide ((getI (G (k)) ((Int.toNat (i)) * 3 + 1) : Int) > 15))) = true ∧
                    decide ((getI (G (k)) ((Int.toNat (i)) * 3 + 2) : Int) < 0) = true ∧
                    Q .normal [.slice true (.ro (k)) (0) (n), .slice true (.ro (k2)) (0) (n2), .bool (false), .ptr (.rw 0) (0), .ptr (.rw 1) (0), .ptr (.rw 2) (0), .ptr (.rw 3) (0), .bool (true), .int .i64 (IntKind.wrap .i64 (i + 1))] [some ⟨1, cs⟩, some ⟨1, (encRU [.agg cs])⟩, some ⟨1, ds⟩, some ⟨1, (encRU [.agg ds])⟩, some ⟨1, ([.int .i64 (getI (G (k)) ((Int.toNat (i)) * 3)), .int .i64 (getI (G (k)) ((Int.toNat (i)) * 3 + 1)), .int .i64 (getI (G (k)) ((Int.toNat (i)) * 3 + 2))] : List AV)⟩]) ∧
                  (decide ((getI (G (k)) ((Int.toNat (i)) * 3 + 2) : Int) < 0) = false →
                    (decide ((getI (G (k)) ((Int.toNat (i)) * 3 + 2) : Int) > 4294967295) = true →
                      okRU [.agg (encRU [.agg cs]), .agg cs] = true ∧
                      (!(decide ((getI (G (k)) ((Int.toNat (i)) * 3 + 1) : Int) < 2))) = true ∧
                      (!(decide ((getI (G (k)) ((Int.toNat (i)) * 3 + 1) : Int) > 15))) = true ∧
                      (!(decide ((getI (G (k)) ((Int.toNat (i)) * 3 + 2) : Int) < 0))) = true ∧
                      decide ((getI (G (k)) ((Int.toNat (i)) * 3 + 2) : Int) > 4294967295) = true ∧
                      Q .normal [.slice true (.ro (k)) (0) (n), .slice true (.ro (k2)) (0) (n2), .bool (false), .ptr (.rw 0) (0), .ptr (.rw 1) (0), .ptr (.rw 2) (0), .ptr (.rw 3) (0), .bool (true), .int .i64 (IntKind.wrap .i64 (i + 1))] [some ⟨1, cs⟩, some ⟨1, (encRU [.agg cs])⟩, some ⟨1, ds⟩, some ⟨1, (encRU [.agg ds])⟩, some ⟨1, ([.int .i64 (getI (G (k)) ((Int.toNat (i)) * 3)), .int .i64 (getI (G (k)) ((Int.toNat (i)) * 3 + 1)), .int .i64 (getI (G (k)) ((Int.toNat (i)) * 3 + 2))] : List AV)⟩]) ∧
                    (decide ((getI (G (k)) ((Int.toNat (i)) * 3 + 2) : Int) > 4294967295) = false →
                      okRU [.agg (encRU [.agg cs]), .agg cs] = true ∧
                      (!(decide ((getI (G (k)) ((Int.toNat (i)) * 3 + 1) : Int) < 2))) = true ∧
                      (!(decide ((getI (G (k)) ((Int.toNat (i)) * 3 + 1) : Int) > 15))) = true ∧
                      (!(decide ((getI (G (k)) ((Int.toNat (i)) * 3 + 2) : Int) < 0))) = true ∧
                      (!(decide ((getI (G (k)) ((Int.toNat (i)) * 3 + 2) : Int) > 4294967295))) = true ∧
                      ((atU [.agg cs, .int .i64 (getI (G (k)) ((Int.toNat (i)) * 3 + 1))] : Int) == atU [.agg cs, .int .i64 (getI (G (k)) ((Int.toNat (i)) * 3 + 1))]) = true ∧
                      Q .normal [.slice true (.ro (k)) (0) (n), .slice true (.ro (k2)) (0) (n2), .bool (false), .ptr (.rw 0) (0), .ptr (.rw 1) (0), .ptr (.rw 2) (0), .ptr (.rw 3) (0), .bool (true), .int .i64 (IntKind.wrap .i64 (i + 1))] [some ⟨1, (handleU [.agg cs, .int .i64 (getI (G (k)) ((Int.toNat (i)) * 3 + 1)), .int .i64 (getI (G (k)) ((Int.toNat (i)) * 3 + 2))])⟩, some ⟨1, (encRU [.agg (handleU [.agg cs, .int .i64 (getI (G (k)) ((Int.toNat (i)) * 3 + 1)), .int .i64 (getI (G (k)) ((Int.toNat (i)) * 3 + 2))])])⟩, some ⟨1, ds⟩, some ⟨1, (encRU [.agg ds])⟩, some ⟨1, ([.int .i64 (getI (G (k)) ((Int.toNat (i)) * 3)), .int .i64 (getI (G (k)) ((Int.toNat (i)) * 3 + 1)), .int .i64 (getI (G (k)) ((Int.toNat (i)) * 3 + 2))] : List AV)⟩]))))) ∧
            (((getI (G (k)) ((Int.toNat (i)) * 3) : Int) == 3) = false →
              (((getI (G (k)) ((Int.toNat (i)) * 3) : Int) == 4) = true →
                okU [.agg cs] = true ∧
                okRU [.agg (encRU [.agg cs]), .agg cs] = true ∧
                ((tkSigU [.agg cs] : Int) == tkSigU [.agg cs]) = true ∧
                (tkEndsU [.agg cs] = true →
                  tkEndsU [.agg cs] = true ∧
                  ((tkAtU [.agg cs] : Int) == tkAtU [.agg cs]) = true ∧
                  Q .normal [.slice true (.ro (k)) (0) (n), .slice true (.ro (k2)) (0) (n2), .bool (false), .ptr (.rw 0) (0), .ptr (.rw 1) (0), .ptr (.rw 2) (0), .ptr (.rw 3) (0), .bool (((tkOkU [.agg cs] : Bool) == tkOkU [.agg cs])), .int .i64 (IntKind.wrap .i64 (i + 1))] [some ⟨1, (tkU [.agg cs])⟩, some ⟨1, (encRU [.agg (tkU [.agg cs])])⟩, some ⟨1, ds⟩, some ⟨1, (encRU [.agg ds])⟩, some ⟨1, ([.int .i64 (getI (G (k)) ((Int.toNat (i)) * 3)), .int .i64 (getI (G (k)) ((Int.toNat (i)) * 3 + 1)), .int .i64 (getI (G (k)) ((Int.toNat (i)) * 3 + 2))] : List AV)⟩, some ⟨1, ([.int .i64 (tkSigU [.agg cs]), .bool (tkEndsU [.agg cs]), .int .u32 (tkAtU [.agg cs])] : List AV)⟩, some ⟨1, ([.int .i64 (tkSigU [.agg cs]), .bool (tkEndsU [.agg cs]), .int .u32 (tkAtU [.agg cs])] : List AV)⟩]) ∧
                (tkEndsU [.agg cs] = false →
                  (!(tkEndsU [.agg cs])) = true ∧
                  ((tkAtU [.agg cs] : Int) == tkAtU [.agg cs]) = true ∧
                  Q .normal [.slice true (.ro (k)) (0) (n), .slice true (.ro (k2)) (0) (n2), .bool (false), .ptr (.rw 0) (0), .ptr (.rw 1) (0), .ptr (.rw 2) (0), .ptr (.rw 3) (0), .bool (((tkOkU [.agg cs] : Bool) == tkOkU [.agg cs])), .int .i64 (IntKind.wrap .i64 (i + 1))] [some ⟨1, (tkU [.agg cs])⟩, some ⟨1, (encRU [.agg (tkU [.agg cs])])⟩, some ⟨1, ds⟩, some ⟨1, (encRU [.agg ds])⟩, some ⟨1, ([.int .i64 (getI (G (k)) ((Int.toNat (i)) * 3)), .int .i64 (getI (G (k)) ((Int.toNat (i)) * 3 + 1)), .int .i64 (getI (G (k)) ((Int.toNat (i)) * 3 + 2))] : List AV)⟩, some ⟨1, ([.int .i64 (tkSigU [.agg cs]), .bool (tkEndsU [.agg cs]), .int .u32 (tkAtU [.agg cs])] : List AV)⟩, some ⟨1, ([.int .i64 (tkSigU [.agg cs]), .bool (tkEndsU [.agg cs]), .int .u32 (tkAtU [.agg cs])] : List AV)⟩])) ∧
              (((getI (G (k)) ((Int.toNat (i)) * 3) : Int) == 4) = false →
                (((getI (G (k)) ((Int.toNat (i)) * 3) : Int) == 5) = true →
                  okU [.agg cs] = true ∧
                  okRU [.agg (encRU [.agg cs]), .agg cs] = true ∧
                  okU [.agg cs] = true ∧
                  (!(decide ((1 : Int) < 0))) = true ∧
                  (!(decide ((1 : Int) > 15))) = true ∧
                  okRU [.agg (encRU [.agg cs]), .agg cs] = true ∧
                  Q .normal [.slice true (.ro (k)) (0) (n), .slice true (.ro (k2)) (0) (n2), .bool (false), .ptr (.rw 5) (0), .ptr (.rw 6) (0), .ptr (.rw 2) (0), .ptr (.rw 3) (0), .bool (true), .int .i64 (IntKind.wrap .i64 (i + 1))] [some ⟨1, (sendU [.agg cs, .int .i64 (1)])⟩, some ⟨1, (encRU [.agg cs])⟩, some ⟨1, ds⟩, some ⟨1, (encRU [.agg ds])⟩, some ⟨1, ([.int .i64 (getI (G (k)) ((Int.toNat (i)) * 3)), .int .i64 (getI (G (k)) ((Int.toNat (i)) * 3 + 1)), .int .i64 (getI (G (k)) ((Int.toNat (i)) * 3 + 2))] : List AV)⟩, some ⟨1, (childU [.agg cs])⟩, some ⟨1, (encRU [.agg (childU [.agg cs])])⟩]) ∧
                (((getI (G (k)) ((Int.toNat (i)) * 3) : Int) == 5) = false →
                  (((getI (G (k)) ((Int.toNat (i)) * 3) : Int) == 6) = true →
                    okU [.agg cs] = true ∧
                    okU [.agg cs] = true ∧
                    okU [.agg cs] = true ∧
                    okU [.agg cs] = true ∧
                    okU [.agg (maskU [.agg cs, .int .i64 ((-1))])] = true ∧
                    (!(decide ((1 : Int) < 0))) = true ∧
                    (!(decide ((1 : Int) > 15))) = true ∧
                    okU [.agg (sendU [.agg (maskU [.agg cs, .int .i64 ((-1))]), .int .i64 (1)])] = true ∧
                    (!(decide ((2 : Int) < 2))) = true ∧
                    (!(decide ((2 : Int) > 15))) = true ∧
                    (!(decide ((77 : Int) < 0))) = true ∧
                    (!(decide ((77 : Int) > 4294967295))) = true ∧
                    Q .normal [.slice true (.ro (k)) (0) (n), .slice true (.ro (k2)) (0) (n2), .bool (false), .ptr (.rw 5) (0), .ptr (.rw 1) (0), .ptr (.rw 2) (0), .ptr (.rw 3) (0), .bool (sameU [.agg cs, .agg cs]), .int .i64 (IntKind.wrap .i64 (i + 1))] [some ⟨1, (handleU [.agg (sendU [.agg (maskU [.agg cs, .int .i64 ((-1))]), .int .i64 (1)]), .int .i64 (2), .int .i64 (77)])⟩, some ⟨1, (encRU [.agg cs])⟩, some ⟨1, ds⟩, some ⟨1, (encRU [.agg ds])⟩, some ⟨1, ([.int .i64 (getI (G (k)) ((Int.toNat (i)) * 3)), .int .i64 (getI (G (k)) ((Int.toNat (i)) * 3 + 1)), .int .i64 (getI (G (k)) ((Int.toNat (i)) * 3 + 2))] : List AV)⟩, some ⟨1, cs⟩]) ∧
                  (((getI (G (k)) ((Int.toNat (i)) * 3) : Int) == 6) = false →
                    Q .normal [.slice true (.ro (k)) (0) (n), .slice true (.ro (k2)) (0) (n2), .bool (false), .ptr (.rw 0) (0), .ptr (.rw 1) (0), .ptr (.rw 2) (0), .ptr (.rw 3) (0), .bool (true), .int .i64 (IntKind.wrap .i64 (i + 1))] [some ⟨1, cs⟩, some ⟨1, (encRU [.agg cs])⟩, some ⟨1, ds⟩, some ⟨1, (encRU [.agg ds])⟩, some ⟨1, ([.int .i64 (getI (G (k)) ((Int.toNat (i)) * 3)), .int .i64 (getI (G (k)) ((Int.toNat (i)) * 3 + 1)), .int .i64 (getI (G (k)) ((Int.toNat (i)) * 3 + 2))] : List AV)⟩]))))))) ∧
      (decide ((i : Int) < 100) = false →
        Q (.exit 0) [.slice true (.ro (k)) (0) (n), .slice true (.ro (k2)) (0) (n2), .bool (false), .ptr (.rw 0) (0), .ptr (.rw 1) (0), .ptr (.rw 2) (0), .ptr (.rw 3) (0), .bool (true), .int .i64 (i)] [some ⟨1, cs⟩, some ⟨1, (encRU [.agg cs])⟩, some ⟨1, ds⟩, some ⟨1, (encRU [.agg ds])⟩])) ∧
    (decide ((i : Int) < ((n : Nat) : Int)) = false →
      Q (.exit 0) [.slice true (.ro (k)) (0) (n), .slice true (.ro (k2)) (0) (n2), .bool (false), .ptr (.rw 0) (0), .ptr (.rw 1) (0), .ptr (.rw 2) (0), .ptr (.rw 3) (0), .bool (true), .int .i64 (i)] [some ⟨1, cs⟩, some ⟨1, (encRU [.agg cs])⟩, some ⟨1, ds⟩, some ⟨1, (encRU [.agg ds])⟩])) := by kernel_rfl
theorem sm_b (G : Nat → List AV) (cs ds : List AV) (k n : Nat) (i : Int) (Q : Ex → List AV → Hp → Prop) (R : AV → Hp → Prop) : vT G Q R (dloop (Dc Try.prog [9, 18, 21] allS [] 0) 300 20 0 (loopN Try.f6 1) 82 [1, 4, 5, 6, 7, 8, 9, 11] [.slice true (.ro (.var 1 k)) (.lit 0) (.var 2 n), .bool (.lit false), .ptr (.rw 0) (.lit 0), .ptr (.rw 1) (.lit 0), .ptr (.rw 2) (.lit 0), .ptr (.rw 3) (.lit 0), .bool (.lit true), .int .i64 (.var 6 i)] [some ⟨1, .var 8 cs⟩, some ⟨1, .uf 1002 encRU [.agg (.var 8 cs)]⟩, some ⟨1, .var 9 ds⟩, some ⟨1, .uf 1002 encRU [.agg (.var 9 ds)]⟩]) = (
    (decide ((i : Int) < ((n : Nat) : Int)) = true →
      (decide ((i : Int) < 100) = true →
        decide ((0 : Int) ≤ i) = true ∧
        decide ((i : Int) < ((n : Nat) : Int)) = true ∧
        leafsOk (G (k)) ((Int.toNat (i)) * 3) [.int .i64, .int .i64, .int .i64] = true ∧
        (((getI (G (k)) ((Int.toNat (i)) * 3) : Int) == 1) = true →
          okU [.agg ds] = true ∧
          (decide ((getI (G (k)) ((Int.toNat (i)) * 3 + 1) : Int) < 0) = true →
            okRU [.agg (encRU [.agg ds]), .agg ds] = true ∧
            decide ((getI (G (k)) ((Int.toNat (i)) * 3 + 1) : Int) < 0) = true ∧
            Q .normal [.slice true (.ro (k)) (0) (n), .bool (false), .ptr (.rw 0) (0), .ptr (.rw 1) (0), .ptr (.rw 2) (0), .ptr (.rw 3) (0), .bool (true), .int .i64 (IntKind.wrap .i64 (i + 1))] [some ⟨1, cs⟩, some ⟨1, (encRU [.agg cs])⟩, some ⟨1, ds⟩, some ⟨1, (encRU [.agg ds])⟩, some ⟨1, ([.int .i64 (getI (G (k)) ((Int.toNat (i)) * 3)), .int .i64 (getI (G (k)) ((Int.toNat (i)) * 3 + 1)), .int .i64 (getI (G (k)) ((Int.toNat (i)) * 3 + 2))] : List AV)⟩]) ∧
          (decide ((getI (G (k)) ((Int.toNat (i)) * 3 + 1) : Int) < 0) = false →
            (decide ((getI (G (k)) ((Int.toNat (i)) * 3 + 1) : Int) > 15) = true →
              okRU [.agg (encRU [.agg ds]), .agg ds] = true ∧
              (!(decide ((getI (G (k)) ((Int.toNat (i)) * 3 + 1) : Int) < 0))) = true ∧
              decide ((getI (G (k)) ((Int.toNat (i)) * 3 + 1) : Int) > 15) = true ∧
              Q .normal [.slice true (.ro (k)) (0) (n), .bool (false), .ptr (.rw 0) (0), .ptr (.rw 1) (0), .ptr (.rw 2) (0), .ptr (.rw 3) (0), .bool (true), .int .i64 (IntKind.wrap .i64 (i + 1))] [some ⟨1, cs⟩, some ⟨1, (encRU [.agg cs])⟩, some ⟨1, ds⟩, some ⟨1, (encRU [.agg ds])⟩, some ⟨1, ([.int .i64 (getI (G (k)) ((Int.toNat (i)) * 3)), .int .i64 (getI (G (k)) ((Int.toNat (i)) * 3 + 1)), .int .i64 (getI (G (k)) ((Int.toNat (i)) * 3 + 2))] : List AV)⟩]) ∧
            (decide ((getI (G (k)) ((Int.toNat (i)) * 3 + 1) : Int) > 15) = false →
              okRU [.agg (encRU [.agg ds]), .agg ds] = true ∧
              (!(decide ((getI (G (k)) ((Int.toNat (i)) * 3 + 1) : Int) < 0))) = true ∧
              (!(decide ((getI (G (k)) ((Int.toNat (i)) * 3 + 1) : Int) > 15))) = true ∧
              Q .normal [.slice true (.ro (k)) (0) (n), .bool (false), .ptr (.rw 0) (0), .ptr (.rw 1) (0), .ptr (.rw 2) (0), .ptr (.rw 3) (0), .bool (true), .int .i64 (IntKind.wrap .i64 (i + 1))] [some ⟨1, cs⟩, some ⟨1, (encRU [.agg cs])⟩, some ⟨1, (sendU [.agg ds, .int .i64 (getI (G (k)) ((Int.toNat (i)) * 3 + 1))])⟩, some ⟨1, (encRU [.agg (sendU [.agg ds, .int .i64 (getI (G (k)) ((Int.toNat (i)) * 3 + 1))])])⟩, some ⟨1, ([.int .i64 (getI (G (k)) ((Int.toNat (i)) * 3)), .int .i64 (getI (G (k)) ((Int.toNat (i)) * 3 + 1)), .int .i64 (getI (G (k)) ((Int.toNat (i)) * 3 + 2))] : List AV)⟩]))) ∧
        (((getI (G (k)) ((Int.toNat (i)) * 3) : Int) == 1) = false →
          (((getI (G (k)) ((Int.toNat (i)) * 3) : Int) == 2) = true →
            okU [.agg ds] = true ∧
            okRU [.agg (encRU [.agg ds]), .agg ds] = true ∧
            ((heldU [.agg ds] : Int) == heldU [.agg ds]) = true ∧
            Q .normal [.slice true (.ro (k)) (0) (n), .bool (false), .ptr (.rw 0) (0), .ptr (.rw 1) (0), .ptr (.rw 2) (0), .ptr (.rw 3) (0), .bool (true), .int .i64 (IntKind.wrap .i64 (i + 1))] [some ⟨1, cs⟩, some ⟨1, (encRU [.agg cs])⟩, some ⟨1, (maskU [.agg ds, .int .i64 (getI (G (k)) ((Int.toNat (i)) * 3 + 2))])⟩, some ⟨1, (encRU [.agg (maskU [.agg ds, .int .i64 (getI (G (k)) ((Int.toNat (i)) * 3 + 2))])])⟩, some ⟨1, ([.int .i64 (getI (G (k)) ((Int.toNat (i)) * 3)), .int .i64 (getI (G (k)) ((Int.toNat (i)) * 3 + 1)), .int .i64 (getI (G (k)) ((Int.toNat (i)) * 3 + 2))] : List AV)⟩]) ∧
          (((getI (G (k)) ((Int.toNat (i)) * 3) : Int) == 2) = false →
            (((getI (G (k)) ((Int.toNat (i)) * 3) : Int) == 3) = true →
              okU [.agg ds] = true ∧
              (decide ((getI (G (k)) ((Int.toNat (i)) * 3 + 1) : Int) < 2) = true →
                okRU [.agg (encRU [.agg ds]), .agg ds] = true ∧
                decide ((getI (G (k)) ((Int.toNat (i)) * 3 + 1) : Int) < 2) = true ∧
                Q .normal [.slice true (.ro (k)) (0) (n), .bool (false), .ptr (.rw 0) (0), .ptr (.rw 1) (0), .ptr (.rw 2) (0), .ptr (.rw 3) (0), .bool (true), .int .i64 (IntKind.wrap .i64 (i + 1))] [some ⟨1, cs⟩, some ⟨1, (encRU [.agg cs])⟩, some ⟨1, ds⟩, some ⟨1, (encRU [.agg ds])⟩, some ⟨1, ([.int .i64 (getI (G (k)) ((Int.toNat (i)) * 3)), .int .i64 (getI (G (k)) ((Int.toNat (i)) * 3 + 1)), .int .i64 (getI (G (k)) ((Int.toNat (i)) * 3 + 2))] : List AV)⟩]) ∧
              (decide ((getI (G (k)) ((Int.toNat (i)) * 3 + 1) : Int) < 2) = false →
                (decide ((getI (G (k)) ((Int.toNat (i)) * 3 + 1) : Int) > 15) = true →
                  okRU [.agg (encRU [.agg ds]), .agg ds] = true ∧
                  (!(decide ((getI (G (k)) ((Int.toNat (i)) * 3 + 1) : Int) < 2))) = true ∧
                  decide ((getI (G (k)) ((Int.toNat (i)) * 3 + 1) : Int) > 15) = true ∧
                  Q .normal [.slice true (.ro (k)) (0) (n), .bool (false), .ptr (.rw 0) (0), .ptr (.rw 1) (0), .ptr (.rw 2) (0), .ptr (.rw 3) (0), .bool (true), .int .i64 (IntKind.wrap .i64 (i + 1))] [some ⟨1, cs⟩, some ⟨1, (encRU [.agg cs])⟩, some ⟨1, ds⟩, some ⟨1, (encRU [.agg ds])⟩, some ⟨1, ([.int .i64 (getI (G (k)) ((Int.toNat (i)) * 3)), .int .i64 (getI (G (k)) ((Int.toNat (i)) * 3 + 1)), .int .i64 (getI (G (k)) ((Int.toNat (i)) * 3 + 2))] : List AV)⟩]) ∧
                (decide ((getI (G (k)) ((Int.toNat (i)) * 3 + 1) : Int) > 15) = false →
                  (decide ((getI (G (k)) ((Int.toNat (i)) * 3 + 2) : Int) < 0) = true →
                    okRU [.agg (encRU [.agg ds]), .agg ds] = true ∧
                    (!(decide ((getI (G (k)) ((Int.toNat (i)) * 3 + 1) : Int) < 2))) = true ∧
                    (!(decide ((getI (G (k)) ((Int.toNat (i)) * 3 + 1) : Int) > 15))) = true ∧
                    decide ((getI (G (k)) ((Int.toNat (i)) * 3 + 2) : Int) < 0) = true ∧
                    Q .normal [.slice true (.ro (k)) (0) (n), .bool (false), .ptr (.rw 0) (0), .ptr (.rw 1) (0), .ptr (.rw 2) (0), .ptr (.rw 3) (0), .bool (true), .int .i64 (IntKind.wrap .i64 (i + 1))] [some ⟨1, cs⟩, some ⟨1, (encRU [.agg cs])⟩, some ⟨1, ds⟩, some ⟨1, (encRU [.agg ds])⟩, some ⟨1, ([.int .i64 (getI (G (k)) ((Int.toNat (i)) * 3)), .int .i64 (getI (G (k)) ((Int.toNat (i)) * 3 + 1)), .int .i64 (getI (G (k)) ((Int.toNat (i)) * 3 + 2))] : List AV)⟩]) ∧
                  (decide ((getI (G (k)) ((Int.toNat (i)) * 3 + 2) : Int) < 0) = false →
                    (decide ((getI (G (k)) ((Int.toNat (i)) * 3 + 2) : Int) > 4294967295) = true →
                      okRU [.agg (encRU [.agg ds]), .agg ds] = true ∧
                      (!(decide ((getI (G (k)) ((Int.toNat (i)) * 3 + 1) : Int) < 2))) = true ∧
                      (!(decide ((getI (G (k)) ((Int.toNat (i)) * 3 + 1) : Int) > 15))) = true ∧
                      (!(decide ((getI (G (k)) ((Int.toNat (i)) * 3 + 2) : Int) < 0))) = true ∧
                      decide ((getI (G (k)) ((Int.toNat (i)) * 3 + 2) : Int) > 4294967295) = true ∧
                      Q .normal [.slice true (.ro (k)) (0) (n), .bool (false), .ptr (.rw 0) (0), .ptr (.rw 1) (0), .ptr (.rw 2) (0), .ptr (.rw 3) (0), .bool (true), .int .i64 (IntKind.wrap .i64 (i + 1))] [some ⟨1, cs⟩, some ⟨1, (encRU [.agg cs])⟩, some ⟨1, ds⟩, some ⟨1, (encRU [.agg ds])⟩, some ⟨1, ([.int .i64 (getI (G (k)) ((Int.toNat (i)) * 3)), .int .i64 (getI (G (k)) ((Int.toNat (i)) * 3 + 1)), .int .i64 (getI (G (k)) ((Int.toNat (i)) * 3 + 2))] : List AV)⟩]) ∧
                    (decide ((getI (G (k)) ((Int.toNat (i)) * 3 + 2) : Int) > 4294967295) = false →
                      okRU [.agg (encRU [.agg ds]), .agg ds] = true ∧
                      (!(decide ((getI (G (k)) ((Int.toNat (i)) * 3 + 1) : Int) < 2))) = true ∧
                      (!(decide ((getI (G (k)) ((Int.toNat (i)) * 3 + 1) : Int) > 15))) = true ∧
                      (!(decide ((getI (G (k)) ((Int.toNat (i)) * 3 + 2) : Int) < 0))) = true ∧
                      (!(decide ((getI (G (k)) ((Int.toNat (i)) * 3 + 2) : Int) > 4294967295))) = true ∧
                      ((atU [.agg ds, .int .i64 (getI (G (k)) ((Int.toNat (i)) * 3 + 1))] : Int) == atU [.agg ds, .int .i64 (getI (G (k)) ((Int.toNat (i)) * 3 + 1))]) = true ∧
                      Q .normal [.slice true (.ro (k)) (0) (n), .bool (false), .ptr (.rw 0) (0), .ptr (.rw 1) (0), .ptr (.rw 2) (0), .ptr (.rw 3) (0), .bool (true), .int .i64 (IntKind.wrap .i64 (i + 1))] [some ⟨1, cs⟩, some ⟨1, (encRU [.agg cs])⟩, some ⟨1, (handleU [.agg ds, .int .i64 (getI (G (k)) ((Int.toNat (i)) * 3 + 1)), .int .i64 (getI (G (k)) ((Int.toNat (i)) * 3 + 2))])⟩, some ⟨1, (encRU [.agg (handleU [.agg ds, .int .i64 (getI (G (k)) ((Int.toNat (i)) * 3 + 1)), .int .i64 (getI (G (k)) ((Int.toNat (i)) * 3 + 2))])])⟩, some ⟨1, ([.int .i64 (getI (G (k)) ((Int.toNat (i)) * 3)), .int .i64 (getI (G (k)) ((Int.toNat (i)) * 3 + 1)), .int .i64 (getI (G (k)) ((Int.toNat (i)) * 3 + 2))] : List AV)⟩]))))) ∧
            (((getI (G (k)) ((Int.toNat (i)) * 3) : Int) == 3) = false →
              (((getI (G (k)) ((Int.toNat (i)) * 3) : Int) == 4) = true →
                okU [.agg ds] = true ∧
                okRU [.agg (encRU [.agg ds]), .agg ds] = true ∧
                ((tkSigU [.agg ds] : Int) == tkSigU [.agg ds]) = true ∧
                (tkEndsU [.agg ds] = true →
                  tkEndsU [.agg ds] = true ∧
                  ((tkAtU [.agg ds] : Int) == tkAtU [.agg ds]) = true ∧
                  Q .normal [.slice true (.ro (k)) (0) (n), .bool (false), .ptr (.rw 0) (0), .ptr (.rw 1) (0), .ptr (.rw 2) (0), .ptr (.rw 3) (0), .bool (((tkOkU [.agg ds] : Bool) == tkOkU [.agg ds])), .int .i64 (IntKind.wrap .i64 (i + 1))] [some ⟨1, cs⟩, some ⟨1, (encRU [.agg cs])⟩, some ⟨1, (tkU [.agg ds])⟩, some ⟨1, (encRU [.agg (tkU [.agg ds])])⟩, some ⟨1, ([.int .i64 (getI (G (k)) ((Int.toNat (i)) * 3)), .int .i64 (getI (G (k)) ((Int.toNat (i)) * 3 + 1)), .int .i64 (getI (G (k)) ((Int.toNat (i)) * 3 + 2))] : List AV)⟩, some ⟨1, ([.int .i64 (tkSigU [.agg ds]), .bool (tkEndsU [.agg ds]), .int .u32 (tkAtU [.agg ds])] : List AV)⟩, some ⟨1, ([.int .i64 (tkSigU [.agg ds]), .bool (tkEndsU [.agg ds]), .int .u32 (tkAtU [.agg ds])] : List AV)⟩]) ∧
                (tkEndsU [.agg ds] = false →
                  (!(tkEndsU [.agg ds])) = true ∧
                  ((tkAtU [.agg ds] : Int) == tkAtU [.agg ds]) = true ∧
                  Q .normal [.slice true (.ro (k)) (0) (n), .bool (false), .ptr (.rw 0) (0), .ptr (.rw 1) (0), .ptr (.rw 2) (0), .ptr (.rw 3) (0), .bool (((tkOkU [.agg ds] : Bool) == tkOkU [.agg ds])), .int .i64 (IntKind.wrap .i64 (i + 1))] [some ⟨1, cs⟩, some ⟨1, (encRU [.agg cs])⟩, some ⟨1, (tkU [.agg ds])⟩, some ⟨1, (encRU [.agg (tkU [.agg ds])])⟩, some ⟨1, ([.int .i64 (getI (G (k)) ((Int.toNat (i)) * 3)), .int .i64 (getI (G (k)) ((Int.toNat (i)) * 3 + 1)), .int .i64 (getI (G (k)) ((Int.toNat (i)) * 3 + 2))] : List AV)⟩, some ⟨1, ([.int .i64 (tkSigU [.agg ds]), .bool (tkEndsU [.agg ds]), .int .u32 (tkAtU [.agg ds])] : List AV)⟩, some ⟨1, ([.int .i64 (tkSigU [.agg ds]), .bool (tkEndsU [.agg ds]), .int .u32 (tkAtU [.agg ds])] : List AV)⟩])) ∧
              (((getI (G (k)) ((Int.toNat (i)) * 3) : Int) == 4) = false →
                (((getI (G (k)) ((Int.toNat (i)) * 3) : Int) == 5) = true →
                  okU [.agg ds] = true ∧
                  okRU [.agg (encRU [.agg ds]), .agg ds] = true ∧
                  okU [.agg ds] = true ∧
                  (!(decide ((1 : Int) < 0))) = true ∧
                  (!(decide ((1 : Int) > 15))) = true ∧
                  okRU [.agg (encRU [.agg ds]), .agg ds] = true ∧
                  Q .normal [.slice true (.ro (k)) (0) (n), .bool (false), .ptr (.rw 0) (0), .ptr (.rw 1) (0), .ptr (.rw 5) (0), .ptr (.rw 6) (0), .bool (true), .int .i64 (IntKind.wrap .i64 (i + 1))] [some ⟨1, cs⟩, some ⟨1, (encRU [.agg cs])⟩, some ⟨1, (sendU [.agg ds, .int .i64 (1)])⟩, some ⟨1, (encRU [.agg ds])⟩, some ⟨1, ([.int .i64 (getI (G (k)) ((Int.toNat (i)) * 3)), .int .i64 (getI (G (k)) ((Int.toNat (i)) * 3 + 1)), .int .i64 (getI (G (k)) ((Int.toNat (i)) * 3 + 2))] : List AV)⟩, some ⟨1, (childU [.agg ds])⟩, some ⟨1, (encRU [.agg (childU [.agg ds])])⟩]) ∧
                (((getI (G (k)) ((Int.toNat (i)) * 3) : Int) == 5) = false →
                  (((getI (G (k)) ((Int.toNat (i)) * 3) : Int) == 6) = true →
                    okU [.agg ds] = true ∧
                    okU [.agg ds] = true ∧
                    okU [.agg ds] = true ∧
                    okU [.agg ds] = true ∧
                    okU [.agg (maskU [.agg ds, .int .i64 ((-1))])] = true ∧
                    (!(decide ((1 : Int) < 0))) = true ∧
                    (!(decide ((1 : Int) > 15))) = true ∧
                    okU [.agg (sendU [.agg (maskU [.agg ds, .int .i64 ((-1))]), .int .i64 (1)])] = true ∧
                    (!(decide ((2 : Int) < 2))) = true ∧
                    (!(decide ((2 : Int) > 15))) = true ∧
                    (!(decide ((77 : Int) < 0))) = true ∧
                    (!(decide ((77 : Int) > 4294967295))) = true ∧
                    Q .normal [.slice true (.ro (k)) (0) (n), .bool (false), .ptr (.rw 0) (0), .ptr (.rw 1) (0), .ptr (.rw 5) (0), .ptr (.rw 3) (0), .bool (sameU [.agg ds, .agg ds]), .int .i64 (IntKind.wrap .i64 (i + 1))] [some ⟨1, cs⟩, some ⟨1, (encRU [.agg cs])⟩, some ⟨1, (handleU [.agg (sendU [.agg (maskU [.agg ds, .int .i64 ((-1))]), .int .i64 (1)]), .int .i64 (2), .int .i64 (77)])⟩, some ⟨1, (encRU [.agg ds])⟩, some ⟨1, ([.int .i64 (getI (G (k)) ((Int.toNat (i)) * 3)), .int .i64 (getI (G (k)) ((Int.toNat (i)) * 3 + 1)), .int .i64 (getI (G (k)) ((Int.toNat (i)) * 3 + 2))] : List AV)⟩, some ⟨1, ds⟩]) ∧
                  (((getI (G (k)) ((Int.toNat (i)) * 3) : Int) == 6) = false →
                    Q .normal [.slice true (.ro (k)) (0) (n), .bool (false), .ptr (.rw 0) (0), .ptr (.rw 1) (0), .ptr (.rw 2) (0), .ptr (.rw 3) (0), .bool (true), .int .i64 (IntKind.wrap .i64 (i + 1))] [some ⟨1, cs⟩, some ⟨1, (encRU [.agg cs])⟩, some ⟨1, ds⟩, some ⟨1, (encRU [.agg ds])⟩, some ⟨1, ([.int .i64 (getI (G (k)) ((Int.toNat (i)) * 3)), .int .i64 (getI (G (k)) ((Int.toNat (i)) * 3 + 1)), .int .i64 (getI (G (k)) ((Int.toNat (i)) * 3 + 2))] : List AV)⟩]))))))) ∧
      (decide ((i : Int) < 100) = false →
        Q (.exit 2) [.slice true (.ro (k)) (0) (n), .bool (false), .ptr (.rw 0) (0), .ptr (.rw 1) (0), .ptr (.rw 2) (0), .ptr (.rw 3) (0), .bool (true), .int .i64 (i)] [some ⟨1, cs⟩, some ⟨1, (encRU [.agg cs])⟩, some ⟨1, ds⟩, some ⟨1, (encRU [.agg ds])⟩])) ∧
    (decide ((i : Int) < ((n : Nat) : Int)) = false →
      Q (.exit 2) [.slice true (.ro (k)) (0) (n), .bool (false), .ptr (.rw 0) (0), .ptr (.rw 1) (0), .ptr (.rw 2) (0), .ptr (.rw 3) (0), .bool (true), .int .i64 (i)] [some ⟨1, cs⟩, some ⟨1, (encRU [.agg cs])⟩, some ⟨1, ds⟩, some ⟨1, (encRU [.agg ds])⟩])) := by kernel_rfl
def JA (k n k2 n2 : Nat) (t : Sg) (j : Nat) (vs : List AV) (H : Hp) : Prop := ∃ i : Nat, i ≤ n ∧ i ≤ 100 ∧ j = 100 - i ∧ vs = [.slice true (.ro k) 0 n, .slice true (.ro k2) 0 n2, .bool false, .ptr (.rw 0) 0, .ptr (.rw 1) 0, .ptr (.rw 2) 0, .ptr (.rw 3) 0, .bool true, .int .i64 (i : Int)] ∧ ∃ q : Sg, H = [some ⟨1, encP q⟩, some ⟨1, encR q⟩, some ⟨1, encP t⟩, some ⟨1, encR t⟩]
theorem sa_loop (G : Nat → List AV) (B : Nat) (p t : Sg) (k n k2 n2 : Nat) (hk : okI .i64 (G k) 0 (n * 3) = true) :
    AWp (⟨Try.prog, G, B⟩ : Ctx) 0 (.loop (loopN Try.f6 0)) (fl 82 [0, 1, 4, 5, 6, 7, 8, 9, 10] [.slice true (.ro k) 0 n, .slice true (.ro k2) 0 n2, .bool false, .ptr (.rw 0) 0, .ptr (.rw 1) 0, .ptr (.rw 2) 0, .ptr (.rw 3) 0, .bool true, .int .i64 0]) [some ⟨1, encP p⟩, some ⟨1, encR p⟩, some ⟨1, encP t⟩, some ⟨1, encR t⟩]
      (lv 82 [0, 1, 4, 5, 6, 7, 8, 9, 10] fun e vs H => e = .exit 0 ∧ wk [.undef, .slice true (.ro k2) 0 n2, .bool false, .ptr (.rw 0) 0, .ptr (.rw 1) 0, .ptr (.rw 2) 0, .ptr (.rw 3) 0, .bool true, .undef] vs ∧ ∃ q : Sg, H = [some ⟨1, encP q⟩, some ⟨1, encR q⟩, some ⟨1, encP t⟩, some ⟨1, encR t⟩]) := by
  refine aloop_lv (JA k n k2 n2 t) 100 ⟨0, by omega, by omega, rfl, rfl, p, rfl⟩ ?_
  rintro j vs H ⟨i, hi1, hi2, rfl, rfl, q, rfl⟩
  have key := dloop_ok (C := (⟨Try.prog, G, B⟩ : Ctx)) (dgA G B) (fuel := 300) (n0 := 20) (m := 0) (c := loopN Try.f6 0) (N := 82) (live := [0, 1, 4, 5, 6, 7, 8, 9, 10]) (vs := [.slice true (.ro (.var 1 k)) (.lit 0) (.var 2 n), .slice true (.ro (.var 3 k2)) (.lit 0) (.var 4 n2), .bool (.lit false), .ptr (.rw 0) (.lit 0), .ptr (.rw 1) (.lit 0), .ptr (.rw 2) (.lit 0), .ptr (.rw 3) (.lit 0), .bool (.lit true), .int .i64 (.var 6 (i : Int))]) (H := [some ⟨1, .var 8 (encP q)⟩, some ⟨1, .uf 1002 encRU [.agg (.var 8 (encP q))]⟩, some ⟨1, .var 9 (encP t)⟩, some ⟨1, .uf 1002 encRU [.agg (.var 9 (encP t))]⟩])
    (Q := fun e vs' H' => match e with
      | .normal => ∃ k', k' < 100 - i ∧ (JA k n k2 n2 t k' vs' H' ∨ ∃ vs'' H'', JA k n k2 n2 t k' vs'' H'' ∧ View 0 vs'' H'' vs' H')
      | e => e = .exit 0 ∧ wk [.undef, .slice true (.ro k2) 0 n2, .bool false, .ptr (.rw 0) 0, .ptr (.rw 1) 0, .ptr (.rw 2) 0, .ptr (.rw 3) 0, .bool true, .undef] vs' ∧ ∃ q : Sg, H' = [some ⟨1, encP q⟩, some ⟨1, encR q⟩, some ⟨1, encP t⟩, some ⟨1, encR t⟩]) (by simp) (by
    rw [sm_a]
    have fr : ∀ (r : Sg), i < n → i < 100 → ∃ k', k' < 100 - i ∧ JA k n k2 n2 t k' [.slice true (.ro k) 0 n, .slice true (.ro k2) 0 n2, .bool false, .ptr (.rw 0) 0, .ptr (.rw 1) 0, .ptr (.rw 2) 0, .ptr (.rw 3) 0, .bool true, .int .i64 (IntKind.wrap .i64 ((i : Int) + 1))] [some ⟨1, encP r⟩, some ⟨1, encR r⟩, some ⟨1, encP t⟩, some ⟨1, encR t⟩] := fun r h1 h2 =>
      ⟨100 - (i + 1), by omega, i + 1, by omega, by omega, rfl, by rw [i64_in (by omega)]; rfl, r, rfl⟩
    have nx : ∀ (r : Sg) (e : Hp), i < n → i < 100 → ∃ k', k' < 100 - i ∧ (JA k n k2 n2 t k' [.slice true (.ro k) 0 n, .slice true (.ro k2) 0 n2, .bool false, .ptr (.rw 0) 0, .ptr (.rw 1) 0, .ptr (.rw 2) 0, .ptr (.rw 3) 0, .bool true, .int .i64 (IntKind.wrap .i64 ((i : Int) + 1))] (some ⟨1, encP r⟩ :: some ⟨1, encR r⟩ :: some ⟨1, encP t⟩ :: some ⟨1, encR t⟩ :: e) ∨ ∃ vs'' H'', JA k n k2 n2 t k' vs'' H'' ∧ View 0 vs'' H'' [.slice true (.ro k) 0 n, .slice true (.ro k2) 0 n2, .bool false, .ptr (.rw 0) 0, .ptr (.rw 1) 0, .ptr (.rw 2) 0, .ptr (.rw 3) 0, .bool true, .int .i64 (IntKind.wrap .i64 ((i : Int) + 1))] (some ⟨1, encP r⟩ :: some ⟨1, encR r⟩ :: some ⟨1, encP t⟩ :: some ⟨1, encR t⟩ :: e)) := fun r e h1 h2 => by
      obtain ⟨k', g1, g2⟩ := fr r h1 h2
      refine ⟨k', g1, .inr ⟨_, _, g2, ?_⟩⟩
      exact View.same (H := [some ⟨1, encP r⟩, some ⟨1, encR r⟩, some ⟨1, encP t⟩, some ⟨1, encR t⟩]) (G := e) (by simp) (by simp [hpB, encP_flat, encR_flat]) (fv_refl _ (by simp [bnds, bnd]))
    have nxc : ∀ (r : Sg) (a b c : Option Blk), i < n → i < 100 → ∃ k', k' < 100 - i ∧ (JA k n k2 n2 t k' [.slice true (.ro k) 0 n, .slice true (.ro k2) 0 n2, .bool false, .ptr (.rw 5) 0, .ptr (.rw 6) 0, .ptr (.rw 2) 0, .ptr (.rw 3) 0, .bool true, .int .i64 (IntKind.wrap .i64 ((i : Int) + 1))] [a, b, some ⟨1, encP t⟩, some ⟨1, encR t⟩, c, some ⟨1, encP r⟩, some ⟨1, encR r⟩] ∨ ∃ vs'' H'', JA k n k2 n2 t k' vs'' H'' ∧ View 0 vs'' H'' [.slice true (.ro k) 0 n, .slice true (.ro k2) 0 n2, .bool false, .ptr (.rw 5) 0, .ptr (.rw 6) 0, .ptr (.rw 2) 0, .ptr (.rw 3) 0, .bool true, .int .i64 (IntKind.wrap .i64 ((i : Int) + 1))] [a, b, some ⟨1, encP t⟩, some ⟨1, encR t⟩, c, some ⟨1, encP r⟩, some ⟨1, encR r⟩]) := fun r a b c h1 h2 => by
      obtain ⟨k', g1, g2⟩ := fr r h1 h2
      refine ⟨k', g1, .inr ⟨_, _, g2, ?_⟩⟩
      exact View.renM (θ := [5, 6, 2, 3]) (by simp) (fun i hi => by omega) (by decide) ⟨⟨encP_flat _ _, by rw [rens_flat _ _ (encP_flat 0 r)]; rfl⟩, ⟨encR_flat _ _, by rw [rens_flat _ _ (encR_flat 0 r)]; rfl⟩, ⟨encP_flat _ _, by rw [rens_flat _ _ (encP_flat 0 t)]; rfl⟩, ⟨encR_flat _ _, by rw [rens_flat _ _ (encR_flat 0 t)]; rfl⟩, trivial⟩ (by simp [bnds, bnd]) (by simp [rens, ren, wk])
    have nxk : ∀ (r : Sg) (a c : Option Blk), i < n → i < 100 → ∃ k', k' < 100 - i ∧ (JA k n k2 n2 t k' [.slice true (.ro k) 0 n, .slice true (.ro k2) 0 n2, .bool false, .ptr (.rw 5) 0, .ptr (.rw 1) 0, .ptr (.rw 2) 0, .ptr (.rw 3) 0, .bool true, .int .i64 (IntKind.wrap .i64 ((i : Int) + 1))] [a, some ⟨1, encR r⟩, some ⟨1, encP t⟩, some ⟨1, encR t⟩, c, some ⟨1, encP r⟩] ∨ ∃ vs'' H'', JA k n k2 n2 t k' vs'' H'' ∧ View 0 vs'' H'' [.slice true (.ro k) 0 n, .slice true (.ro k2) 0 n2, .bool false, .ptr (.rw 5) 0, .ptr (.rw 1) 0, .ptr (.rw 2) 0, .ptr (.rw 3) 0, .bool true, .int .i64 (IntKind.wrap .i64 ((i : Int) + 1))] [a, some ⟨1, encR r⟩, some ⟨1, encP t⟩, some ⟨1, encR t⟩, c, some ⟨1, encP r⟩]) := fun r a c h1 h2 => by
      obtain ⟨k', g1, g2⟩ := fr r h1 h2
      refine ⟨k', g1, .inr ⟨_, _, g2, ?_⟩⟩
      exact View.renM (θ := [5, 1, 2, 3]) (by simp) (fun i hi => by omega) (by decide) ⟨⟨encP_flat _ _, by rw [rens_flat _ _ (encP_flat 0 r)]; rfl⟩, ⟨encR_flat _ _, by rw [rens_flat _ _ (encR_flat 0 r)]; rfl⟩, ⟨encP_flat _ _, by rw [rens_flat _ _ (encP_flat 0 t)]; rfl⟩, ⟨encR_flat _ _, by rw [rens_flat _ _ (encR_flat 0 t)]; rfl⟩, trivial⟩ (by simp [bnds, bnd]) (by simp [rens, ren, wk])
    have hsame : sameU [.agg (encP q), .agg (encP q)] = true := by rw [sameU_enc]; exact sameB_refl q
    simp only [Int.toNat_natCast, hsame, beq_self_eq_true, handleU_enc, maskU_enc, sendU_enc, tkU_enc, tkSigU_enc, tkEndsU_enc, tkAtU_enc, tkOkU_enc, heldU_enc, atU_enc, childU_enc, encRU_enc, okU_enc, okRU_enc]
    repeat' first | refine And.intro ?_ ?_ | intro _
    all_goals try simp only [decide_eq_true_eq, decide_eq_false_iff_not] at *
    all_goals first
      | omega
      | trivial
      | assumption
      | exact leafs3 (k := k) hk (by omega)
      | exact nx _ _ (by omega) (by omega)
      | exact nxc _ _ _ _ (by omega) (by omega)
      | exact nxk _ _ _ (by omega) (by omega)
      | (simp; done)
      | (simp [wk]; done)
      | exact ⟨q, rfl⟩
      | (simp_all; done))
  simp only [vVs, vV, vR, vN, vI, vB, vHp, List.map_cons, List.map_nil, Option.map_some, vBlk, vL, encRU_enc] at key
  exact key
def JB (k n : Nat) (t : Sg) (j : Nat) (vs : List AV) (H : Hp) : Prop := ∃ i : Nat, i ≤ n ∧ i ≤ 100 ∧ j = 100 - i ∧ vs = [.slice true (.ro k) 0 n, .bool false, .ptr (.rw 0) 0, .ptr (.rw 1) 0, .ptr (.rw 2) 0, .ptr (.rw 3) 0, .bool true, .int .i64 (i : Int)] ∧ ∃ q : Sg, H = [some ⟨1, encP t⟩, some ⟨1, encR t⟩, some ⟨1, encP q⟩, some ⟨1, encR q⟩]
theorem sb_loop (G : Nat → List AV) (B : Nat) (p t : Sg) (k n : Nat) (hk : okI .i64 (G k) 0 (n * 3) = true) :
    AWp (⟨Try.prog, G, B⟩ : Ctx) 0 (.loop (loopN Try.f6 1)) (fl 82 [1, 4, 5, 6, 7, 8, 9, 11] [.slice true (.ro k) 0 n, .bool false, .ptr (.rw 0) 0, .ptr (.rw 1) 0, .ptr (.rw 2) 0, .ptr (.rw 3) 0, .bool true, .int .i64 0]) [some ⟨1, encP t⟩, some ⟨1, encR t⟩, some ⟨1, encP p⟩, some ⟨1, encR p⟩]
      (lv 82 [1, 4, 5, 6, 7, 8, 9, 11] fun e vs H => e = .exit 2 ∧ wk [.undef, .bool false, .ptr (.rw 0) 0, .ptr (.rw 1) 0, .ptr (.rw 2) 0, .ptr (.rw 3) 0, .bool true, .undef] vs ∧ ∃ q : Sg, H = [some ⟨1, encP t⟩, some ⟨1, encR t⟩, some ⟨1, encP q⟩, some ⟨1, encR q⟩]) := by
  refine aloop_lv (JB k n t) 100 ⟨0, by omega, by omega, rfl, rfl, p, rfl⟩ ?_
  rintro j vs H ⟨i, hi1, hi2, rfl, rfl, q, rfl⟩
  have key := dloop_ok (C := (⟨Try.prog, G, B⟩ : Ctx)) (dgA G B) (fuel := 300) (n0 := 20) (m := 0) (c := loopN Try.f6 1) (N := 82) (live := [1, 4, 5, 6, 7, 8, 9, 11]) (vs := [.slice true (.ro (.var 1 k)) (.lit 0) (.var 2 n), .bool (.lit false), .ptr (.rw 0) (.lit 0), .ptr (.rw 1) (.lit 0), .ptr (.rw 2) (.lit 0), .ptr (.rw 3) (.lit 0), .bool (.lit true), .int .i64 (.var 6 (i : Int))]) (H := [some ⟨1, .var 8 (encP t)⟩, some ⟨1, .uf 1002 encRU [.agg (.var 8 (encP t))]⟩, some ⟨1, .var 9 (encP q)⟩, some ⟨1, .uf 1002 encRU [.agg (.var 9 (encP q))]⟩])
    (Q := fun e vs' H' => match e with
      | .normal => ∃ k', k' < 100 - i ∧ (JB k n t k' vs' H' ∨ ∃ vs'' H'', JB k n t k' vs'' H'' ∧ View 0 vs'' H'' vs' H')
      | e => e = .exit 2 ∧ wk [.undef, .bool false, .ptr (.rw 0) 0, .ptr (.rw 1) 0, .ptr (.rw 2) 0, .ptr (.rw 3) 0, .bool true, .undef] vs' ∧ ∃ q : Sg, H' = [some ⟨1, encP t⟩, some ⟨1, encR t⟩, some ⟨1, encP q⟩, some ⟨1, encR q⟩]) (by simp) (by
    rw [sm_b]
    have fr : ∀ (r : Sg), i < n → i < 100 → ∃ k', k' < 100 - i ∧ JB k n t k' [.slice true (.ro k) 0 n, .bool false, .ptr (.rw 0) 0, .ptr (.rw 1) 0, .ptr (.rw 2) 0, .ptr (.rw 3) 0, .bool true, .int .i64 (IntKind.wrap .i64 ((i : Int) + 1))] [some ⟨1, encP t⟩, some ⟨1, encR t⟩, some ⟨1, encP r⟩, some ⟨1, encR r⟩] := fun r h1 h2 =>
      ⟨100 - (i + 1), by omega, i + 1, by omega, by omega, rfl, by rw [i64_in (by omega)]; rfl, r, rfl⟩
    have nx : ∀ (r : Sg) (e : Hp), i < n → i < 100 → ∃ k', k' < 100 - i ∧ (JB k n t k' [.slice true (.ro k) 0 n, .bool false, .ptr (.rw 0) 0, .ptr (.rw 1) 0, .ptr (.rw 2) 0, .ptr (.rw 3) 0, .bool true, .int .i64 (IntKind.wrap .i64 ((i : Int) + 1))] (some ⟨1, encP t⟩ :: some ⟨1, encR t⟩ :: some ⟨1, encP r⟩ :: some ⟨1, encR r⟩ :: e) ∨ ∃ vs'' H'', JB k n t k' vs'' H'' ∧ View 0 vs'' H'' [.slice true (.ro k) 0 n, .bool false, .ptr (.rw 0) 0, .ptr (.rw 1) 0, .ptr (.rw 2) 0, .ptr (.rw 3) 0, .bool true, .int .i64 (IntKind.wrap .i64 ((i : Int) + 1))] (some ⟨1, encP t⟩ :: some ⟨1, encR t⟩ :: some ⟨1, encP r⟩ :: some ⟨1, encR r⟩ :: e)) := fun r e h1 h2 => by
      obtain ⟨k', g1, g2⟩ := fr r h1 h2
      refine ⟨k', g1, .inr ⟨_, _, g2, ?_⟩⟩
      exact View.same (H := [some ⟨1, encP t⟩, some ⟨1, encR t⟩, some ⟨1, encP r⟩, some ⟨1, encR r⟩]) (G := e) (by simp) (by simp [hpB, encP_flat, encR_flat]) (fv_refl _ (by simp [bnds, bnd]))
    have nxc : ∀ (r : Sg) (a b c : Option Blk), i < n → i < 100 → ∃ k', k' < 100 - i ∧ (JB k n t k' [.slice true (.ro k) 0 n, .bool false, .ptr (.rw 0) 0, .ptr (.rw 1) 0, .ptr (.rw 5) 0, .ptr (.rw 6) 0, .bool true, .int .i64 (IntKind.wrap .i64 ((i : Int) + 1))] [some ⟨1, encP t⟩, some ⟨1, encR t⟩, a, b, c, some ⟨1, encP r⟩, some ⟨1, encR r⟩] ∨ ∃ vs'' H'', JB k n t k' vs'' H'' ∧ View 0 vs'' H'' [.slice true (.ro k) 0 n, .bool false, .ptr (.rw 0) 0, .ptr (.rw 1) 0, .ptr (.rw 5) 0, .ptr (.rw 6) 0, .bool true, .int .i64 (IntKind.wrap .i64 ((i : Int) + 1))] [some ⟨1, encP t⟩, some ⟨1, encR t⟩, a, b, c, some ⟨1, encP r⟩, some ⟨1, encR r⟩]) := fun r a b c h1 h2 => by
      obtain ⟨k', g1, g2⟩ := fr r h1 h2
      refine ⟨k', g1, .inr ⟨_, _, g2, ?_⟩⟩
      exact View.renM (θ := [0, 1, 5, 6]) (by simp) (fun i hi => by omega) (by decide) ⟨⟨encP_flat _ _, by rw [rens_flat _ _ (encP_flat 0 t)]; rfl⟩, ⟨encR_flat _ _, by rw [rens_flat _ _ (encR_flat 0 t)]; rfl⟩, ⟨encP_flat _ _, by rw [rens_flat _ _ (encP_flat 0 r)]; rfl⟩, ⟨encR_flat _ _, by rw [rens_flat _ _ (encR_flat 0 r)]; rfl⟩, trivial⟩ (by simp [bnds, bnd]) (by simp [rens, ren, wk])
    have nxk : ∀ (r : Sg) (a c : Option Blk), i < n → i < 100 → ∃ k', k' < 100 - i ∧ (JB k n t k' [.slice true (.ro k) 0 n, .bool false, .ptr (.rw 0) 0, .ptr (.rw 1) 0, .ptr (.rw 5) 0, .ptr (.rw 3) 0, .bool true, .int .i64 (IntKind.wrap .i64 ((i : Int) + 1))] [some ⟨1, encP t⟩, some ⟨1, encR t⟩, a, some ⟨1, encR r⟩, c, some ⟨1, encP r⟩] ∨ ∃ vs'' H'', JB k n t k' vs'' H'' ∧ View 0 vs'' H'' [.slice true (.ro k) 0 n, .bool false, .ptr (.rw 0) 0, .ptr (.rw 1) 0, .ptr (.rw 5) 0, .ptr (.rw 3) 0, .bool true, .int .i64 (IntKind.wrap .i64 ((i : Int) + 1))] [some ⟨1, encP t⟩, some ⟨1, encR t⟩, a, some ⟨1, encR r⟩, c, some ⟨1, encP r⟩]) := fun r a c h1 h2 => by
      obtain ⟨k', g1, g2⟩ := fr r h1 h2
      refine ⟨k', g1, .inr ⟨_, _, g2, ?_⟩⟩
      exact View.renM (θ := [0, 1, 5, 3]) (by simp) (fun i hi => by omega) (by decide) ⟨⟨encP_flat _ _, by rw [rens_flat _ _ (encP_flat 0 t)]; rfl⟩, ⟨encR_flat _ _, by rw [rens_flat _ _ (encR_flat 0 t)]; rfl⟩, ⟨encP_flat _ _, by rw [rens_flat _ _ (encP_flat 0 r)]; rfl⟩, ⟨encR_flat _ _, by rw [rens_flat _ _ (encR_flat 0 r)]; rfl⟩, trivial⟩ (by simp [bnds, bnd]) (by simp [rens, ren, wk])
    have hsame : sameU [.agg (encP q), .agg (encP q)] = true := by rw [sameU_enc]; exact sameB_refl q
    simp only [Int.toNat_natCast, hsame, beq_self_eq_true, handleU_enc, maskU_enc, sendU_enc, tkU_enc, tkSigU_enc, tkEndsU_enc, tkAtU_enc, tkOkU_enc, heldU_enc, atU_enc, childU_enc, encRU_enc, okU_enc, okRU_enc]
    repeat' first | refine And.intro ?_ ?_ | intro _
    all_goals try simp only [decide_eq_true_eq, decide_eq_false_iff_not] at *
    all_goals first
      | omega
      | trivial
      | assumption
      | exact leafs3 (k := k) hk (by omega)
      | exact nx _ _ (by omega) (by omega)
      | exact nxc _ _ _ _ (by omega) (by omega)
      | exact nxk _ _ _ (by omega) (by omega)
      | (simp; done)
      | (simp [wk]; done)
      | exact ⟨q, rfl⟩
      | (simp_all; done))
  simp only [vVs, vV, vR, vN, vI, vB, vHp, List.map_cons, List.map_nil, Option.map_some, vBlk, vL, encRU_enc] at key
  exact key
def saL : DL := ⟨0, 82, [0, 1, 4, 5, 6, 7, 8, 9, 10], fun vs H => match vs, H with
  | [.slice true (.ro k) (.lit 0) n, .slice true (.ro k2) (.lit 0) n2, .bool (.lit false), .ptr (.rw 0) (.lit 0), .ptr (.rw 1) (.lit 0), .ptr (.rw 2) (.lit 0), .ptr (.rw 3) (.lit 0), .bool (.lit true), .int .i64 (.lit 0)], [some ⟨1, l⟩, some ⟨1, r⟩, some ⟨1, l2⟩, some ⟨1, r2⟩] =>
    some (.chk (.uf 1041 stepsU [.agg (.ro k), .ptr (.rw 0) n]) (.chk (.uf 1003 okRU [.agg r, .agg l]) (.chk (.uf 1003 okRU [.agg r2, .agg l2]) (.allL fun l' => .imp (.uf 1001 okU [.agg l']) (.one (.exit 0) [.undef, .slice true (.ro k2) (.lit 0) n2, .bool (.lit false), .ptr (.rw 0) (.lit 0), .ptr (.rw 1) (.lit 0), .ptr (.rw 2) (.lit 0), .ptr (.rw 3) (.lit 0), .bool (.lit true), .undef] [some ⟨1, l'⟩, some ⟨1, .uf 1002 encRU [.agg l']⟩, some ⟨1, l2⟩, some ⟨1, r2⟩])))))
  | _, _ => none⟩
theorem saL_ok (G : Nat → List AV) (B : Nat) : DLoopOk (⟨Try.prog, G, B⟩ : Ctx) 0 (loopN Try.f6 0) saL := by
  refine .of fun vs H o ho n Q hQ => ?_
  simp only [saL] at ho
  split at ho
  · rename_i k n k2 n2 l r l2 r2
    simp only [Option.some.injEq] at ho
    subst ho
    obtain ⟨h1, h2, h2', h3⟩ := hQ
    simp only [vB, vVs, vV, vL, vR, vN, stepsU] at h1
    simp only [vB, vVs, vV, okRU, Bool.and_eq_true] at h2 h2'
    have e1 := okP_eq h2.1
    have e2 := eqCs_eq h2.2
    have e3 := okP_eq h2'.1
    have e4 := eqCs_eq h2'.2
    simp only [saL, vVs, vV, vR, vN, vI, vB, vHp, List.map_cons, List.map_nil, Option.map_some, vBlk]
    rw [e2, e1, e4, e3, decP_enc, decP_enc]
    refine (sa_loop G B _ _ _ _ _ _ h1).lmono ?_
    rintro e vs'' H'' ⟨rfl, g2, q, rfl⟩
    refine .inl ⟨_, g2, ?_⟩
    have := h3 (encP q) (by simp only [vB, vVs, vV, vL]; exact okU_enc q)
    simp only [lHolds, vVs, vV, vR, vN, vI, vB, vL, vHp, List.map_cons, List.map_nil, Option.map_some, vBlk, encRU_enc] at this
    rw [e4, e3, decP_enc] at this
    exact this
  · simp at ho
def sbL : DL := ⟨2, 82, [1, 4, 5, 6, 7, 8, 9, 11], fun vs H => match vs, H with
  | [.slice true (.ro k) (.lit 0) n, .bool (.lit false), .ptr (.rw 0) (.lit 0), .ptr (.rw 1) (.lit 0), .ptr (.rw 2) (.lit 0), .ptr (.rw 3) (.lit 0), .bool (.lit true), .int .i64 (.lit 0)], [some ⟨1, l2⟩, some ⟨1, r2⟩, some ⟨1, l⟩, some ⟨1, r⟩] =>
    some (.chk (.uf 1041 stepsU [.agg (.ro k), .ptr (.rw 0) n]) (.chk (.uf 1003 okRU [.agg r, .agg l]) (.chk (.uf 1003 okRU [.agg r2, .agg l2]) (.allL fun l' => .imp (.uf 1001 okU [.agg l']) (.one (.exit 2) [.undef, .bool (.lit false), .ptr (.rw 0) (.lit 0), .ptr (.rw 1) (.lit 0), .ptr (.rw 2) (.lit 0), .ptr (.rw 3) (.lit 0), .bool (.lit true), .undef] [some ⟨1, l2⟩, some ⟨1, r2⟩, some ⟨1, l'⟩, some ⟨1, .uf 1002 encRU [.agg l']⟩])))))
  | _, _ => none⟩
theorem sbL_ok (G : Nat → List AV) (B : Nat) : DLoopOk (⟨Try.prog, G, B⟩ : Ctx) 0 (loopN Try.f6 1) sbL := by
  refine .of fun vs H o ho n Q hQ => ?_
  simp only [sbL] at ho
  split at ho
  · rename_i k n l2 r2 l r
    simp only [Option.some.injEq] at ho
    subst ho
    obtain ⟨h1, h2, h2', h3⟩ := hQ
    simp only [vB, vVs, vV, vL, vR, vN, stepsU] at h1
    simp only [vB, vVs, vV, okRU, Bool.and_eq_true] at h2 h2'
    have e1 := okP_eq h2.1
    have e2 := eqCs_eq h2.2
    have e3 := okP_eq h2'.1
    have e4 := eqCs_eq h2'.2
    simp only [sbL, vVs, vV, vR, vN, vI, vB, vHp, List.map_cons, List.map_nil, Option.map_some, vBlk]
    rw [e2, e1, e4, e3, decP_enc, decP_enc]
    refine (sb_loop G B _ _ _ _ h1).lmono ?_
    rintro e vs'' H'' ⟨rfl, g2, q, rfl⟩
    refine .inl ⟨_, g2, ?_⟩
    have := h3 (encP q) (by simp only [vB, vVs, vV, vL]; exact okU_enc q)
    simp only [lHolds, vVs, vV, vR, vN, vI, vB, vL, vHp, List.map_cons, List.map_nil, Option.map_some, vBlk, encRU_enc] at this
    rw [e4, e3, decP_enc] at this
    exact this
  · simp at ho
theorem dgSM (G : Nat → List AV) (B : Nat) : DGood (⟨Try.prog, G, B⟩ : Ctx) (Dc Try.prog [9, 18, 21] allS [saL, sbL] 0) (loopsOf (bodyOf Try.f6)) := dgood (mix G B) (by kernel_rfl) (allS_ok G B) (.cast (.cons (i := 0) (by kernel_rfl) rfl (saL_ok G B) (.cons (i := 2) (by kernel_rfl) rfl (sbL_ok G B) .nil)) (by kernel_rfl))
theorem sm_run (G : Nat → List AV) (k n k2 n2 : Nat) (Q : Ex → List AV → Hp → Prop) (R : AV → Hp → Prop) : vT G Q R (dlaw (Dc Try.prog [9, 18, 21] allS [saL, sbL] 0) 400 20 Try.f6 [.slice true (.ro (.var 1 k)) (.lit 0) (.var 2 n), .slice true (.ro (.var 3 k2)) (.lit 0) (.var 4 n2)] []) = (
    stepsU [.agg (G (k)), .ptr (.rw 0) (n)] = true ∧
    okRU [.agg (encRU [.agg ([.bool (true), .int .u32 (0), .int .u32 (0), .int .u32 (0), .int .u32 (0), .int .u32 (0), .int .u32 (0), .int .u32 (0), .int .u32 (0), .int .u32 (0), .int .u32 (0), .int .u32 (0), .int .u32 (0), .int .u32 (0), .int .u32 (0), .int .u32 (0), .int .u32 (0), .int .u32 (0), .int .u32 (0)] : List AV)]), .agg ([.bool (true), .int .u32 (0), .int .u32 (0), .int .u32 (0), .int .u32 (0), .int .u32 (0), .int .u32 (0), .int .u32 (0), .int .u32 (0), .int .u32 (0), .int .u32 (0), .int .u32 (0), .int .u32 (0), .int .u32 (0), .int .u32 (0), .int .u32 (0), .int .u32 (0), .int .u32 (0), .int .u32 (0)] : List AV)] = true ∧
    okRU [.agg (encRU [.agg ([.bool (true), .int .u32 (0), .int .u32 (0), .int .u32 (0), .int .u32 (0), .int .u32 (0), .int .u32 (0), .int .u32 (0), .int .u32 (0), .int .u32 (0), .int .u32 (0), .int .u32 (0), .int .u32 (0), .int .u32 (0), .int .u32 (0), .int .u32 (0), .int .u32 (0), .int .u32 (0), .int .u32 (0)] : List AV)]), .agg ([.bool (true), .int .u32 (0), .int .u32 (0), .int .u32 (0), .int .u32 (0), .int .u32 (0), .int .u32 (0), .int .u32 (0), .int .u32 (0), .int .u32 (0), .int .u32 (0), .int .u32 (0), .int .u32 (0), .int .u32 (0), .int .u32 (0), .int .u32 (0), .int .u32 (0), .int .u32 (0), .int .u32 (0)] : List AV)] = true ∧
    (∀ l20 : List AV,
    (okU [.agg l20] = true →
    stepsU [.agg (G (k2)), .ptr (.rw 0) (n2)] = true ∧
    okRU [.agg (encRU [.agg ([.bool (true), .int .u32 (0), .int .u32 (0), .int .u32 (0), .int .u32 (0), .int .u32 (0), .int .u32 (0), .int .u32 (0), .int .u32 (0), .int .u32 (0), .int .u32 (0), .int .u32 (0), .int .u32 (0), .int .u32 (0), .int .u32 (0), .int .u32 (0), .int .u32 (0), .int .u32 (0), .int .u32 (0)] : List AV)]), .agg ([.bool (true), .int .u32 (0), .int .u32 (0), .int .u32 (0), .int .u32 (0), .int .u32 (0), .int .u32 (0), .int .u32 (0), .int .u32 (0), .int .u32 (0), .int .u32 (0), .int .u32 (0), .int .u32 (0), .int .u32 (0), .int .u32 (0), .int .u32 (0), .int .u32 (0), .int .u32 (0), .int .u32 (0)] : List AV)] = true ∧
    okRU [.agg (encRU [.agg l20]), .agg l20] = true ∧
    (∀ l21 : List AV,
    (okU [.agg l21] = true →
    okU [.agg l20] = true ∧
    okU [.agg l21] = true ∧
    okRU [.agg (encRU [.agg l20]), .agg l20] = true ∧
    okRU [.agg (encRU [.agg l21]), .agg l21] = true ∧
    (sameU [.agg l20, .agg l21] = true →
      sameU [.agg l20, .agg l21] = true ∧
      okU [.agg l20] = true ∧
      R (.bool (true)) []) ∧
    (sameU [.agg l20, .agg l21] = false →
      (!(sameU [.agg l20, .agg l21])) = true ∧
      okU [.agg l20] = true ∧
      R (.bool (true)) [])))))) := by kernel_rfl
theorem sm_call (G : Nat → List AV) (B : Nat) (k n k2 n2 : Nat) (hk : okI .i64 (G k) 0 (n * 3) = true) (hk2 : okI .i64 (G k2) 0 (n2 * 3) = true) : ACalls (⟨Try.prog, G, B⟩ : Ctx) 6 [.slice true (.ro k) 0 n, .slice true (.ro k2) 0 n2] [] fun v _ => v = .bool true := by
  have hR : ∀ l, okU [.agg l] = true → okRU [.agg (encRU [.agg l]), .agg l] = true := fun l h => by
    have e : l = encP (decP l) := okP_eq h
    rw [e, encRU_enc]
    exact okRU_enc _
  have key := dlaw_ok (C := (⟨Try.prog, G, B⟩ : Ctx)) (f := 6) (R := fun v _ => v = .bool true) (dgSM G B) (by kernel_rfl) (by kernel_rfl) (by kernel_rfl) (fuel := 400) (n0 := 20) (args := [.slice true (.ro (.var 1 k)) (.lit 0) (.var 2 n), .slice true (.ro (.var 3 k2)) (.lit 0) (.var 4 n2)]) (H := []) (by
    rw [sm_run]
    refine ⟨hk, zP_okR, zP_okR, fun l20 h20 => ⟨hk2, zP_okR, hR _ h20, fun l21 h21 => ⟨h20, h21, hR _ h20, hR _ h21, fun h => ⟨h, h20, rfl⟩, fun h => ⟨by rw [h]; rfl, h20, rfl⟩⟩⟩⟩)
  simp only [vVs, vV, vR, vN, vI, vL, vHp, List.map_nil] at key
  exact key
end Go.Am
