/-
  SignalsSteps: the loop's body and the run.
-/
import Derived.Test.YtopenjkaifbnmaaSgStd
namespace Go.Am
open Go.Proofs Crc
set_option maxRecDepth 100000
theorem dgA (G : Nat → List AV) (B : Nat) : DGood (⟨Try.prog, G, B⟩ : Ctx) (Dc Try.prog [9, 18, 21] allS [] 0) [] := dgood (mix G B) (by kernel_rfl) (allS_ok G B) .nil
theorem ss_b (G : Nat → List AV) (cs : List AV) (k n : Nat) (i : Int) (Q : Ex → List AV → Hp → Prop) (R : AV → Hp → Prop) : vT G Q R (dloop (Dc Try.prog [9, 18, 21] allS [] 0) 300 20 0 (loopN Try.f5 0) 47 [0, 2, 3, 4, 5] [.slice true (.ro (.var 1 k)) (.lit 0) (.var 2 n), .bool (.lit false), .ptr (.rw 0) (.lit 0), .ptr (.rw 1) (.lit 0), .int .i64 (.var 6 i)] [some ⟨1, .var 8 cs⟩, some ⟨1, .uf 1002 encRU [.agg (.var 8 cs)]⟩]) = (
    (decide ((i : Int) < ((n : Nat) : Int)) = true →
      (decide ((i : Int) < 400) = true →
        decide ((0 : Int) ≤ i) = true ∧
        decide ((i : Int) < ((n : Nat) : Int)) = true ∧
        leafsOk (G (k)) ((Int.toNat (i)) * 3) [.int .i64, .int .i64, .int .i64] = true ∧
        (((getI (G (k)) ((Int.toNat (i)) * 3) : Int) == 1) = true →
          okU [.agg cs] = true ∧
          (decide ((getI (G (k)) ((Int.toNat (i)) * 3 + 1) : Int) < 0) = true →
            okRU [.agg (encRU [.agg cs]), .agg cs] = true ∧
            decide ((getI (G (k)) ((Int.toNat (i)) * 3 + 1) : Int) < 0) = true ∧
            okRU [.agg (encRU [.agg cs]), .agg cs] = true ∧
            Q .normal [.slice true (.ro (k)) (0) (n), .bool (false), .ptr (.rw 0) (0), .ptr (.rw 1) (0), .int .i64 (IntKind.wrap .i64 (i + 1))] [some ⟨1, cs⟩, some ⟨1, (encRU [.agg cs])⟩, some ⟨1, ([.int .i64 (getI (G (k)) ((Int.toNat (i)) * 3)), .int .i64 (getI (G (k)) ((Int.toNat (i)) * 3 + 1)), .int .i64 (getI (G (k)) ((Int.toNat (i)) * 3 + 2))] : List AV)⟩]) ∧
          (decide ((getI (G (k)) ((Int.toNat (i)) * 3 + 1) : Int) < 0) = false →
            (decide ((getI (G (k)) ((Int.toNat (i)) * 3 + 1) : Int) > 15) = true →
              okRU [.agg (encRU [.agg cs]), .agg cs] = true ∧
              (!(decide ((getI (G (k)) ((Int.toNat (i)) * 3 + 1) : Int) < 0))) = true ∧
              decide ((getI (G (k)) ((Int.toNat (i)) * 3 + 1) : Int) > 15) = true ∧
              okRU [.agg (encRU [.agg cs]), .agg cs] = true ∧
              Q .normal [.slice true (.ro (k)) (0) (n), .bool (false), .ptr (.rw 0) (0), .ptr (.rw 1) (0), .int .i64 (IntKind.wrap .i64 (i + 1))] [some ⟨1, cs⟩, some ⟨1, (encRU [.agg cs])⟩, some ⟨1, ([.int .i64 (getI (G (k)) ((Int.toNat (i)) * 3)), .int .i64 (getI (G (k)) ((Int.toNat (i)) * 3 + 1)), .int .i64 (getI (G (k)) ((Int.toNat (i)) * 3 + 2))] : List AV)⟩]) ∧
            (decide ((getI (G (k)) ((Int.toNat (i)) * 3 + 1) : Int) > 15) = false →
              okRU [.agg (encRU [.agg cs]), .agg cs] = true ∧
              (!(decide ((getI (G (k)) ((Int.toNat (i)) * 3 + 1) : Int) < 0))) = true ∧
              (!(decide ((getI (G (k)) ((Int.toNat (i)) * 3 + 1) : Int) > 15))) = true ∧
              okRU [.agg (encRU [.agg (sendU [.agg cs, .int .i64 (getI (G (k)) ((Int.toNat (i)) * 3 + 1))])]), .agg (sendU [.agg cs, .int .i64 (getI (G (k)) ((Int.toNat (i)) * 3 + 1))])] = true ∧
              Q .normal [.slice true (.ro (k)) (0) (n), .bool (false), .ptr (.rw 0) (0), .ptr (.rw 1) (0), .int .i64 (IntKind.wrap .i64 (i + 1))] [some ⟨1, (sendU [.agg cs, .int .i64 (getI (G (k)) ((Int.toNat (i)) * 3 + 1))])⟩, some ⟨1, (encRU [.agg (sendU [.agg cs, .int .i64 (getI (G (k)) ((Int.toNat (i)) * 3 + 1))])])⟩, some ⟨1, ([.int .i64 (getI (G (k)) ((Int.toNat (i)) * 3)), .int .i64 (getI (G (k)) ((Int.toNat (i)) * 3 + 1)), .int .i64 (getI (G (k)) ((Int.toNat (i)) * 3 + 2))] : List AV)⟩]))) ∧
        (((getI (G (k)) ((Int.toNat (i)) * 3) : Int) == 1) = false →
          (((getI (G (k)) ((Int.toNat (i)) * 3) : Int) == 2) = true →
            okU [.agg cs] = true ∧
            okRU [.agg (encRU [.agg cs]), .agg cs] = true ∧
            ((heldU [.agg cs] : Int) == heldU [.agg cs]) = true ∧
            okRU [.agg (encRU [.agg (maskU [.agg cs, .int .i64 (getI (G (k)) ((Int.toNat (i)) * 3 + 2))])]), .agg (maskU [.agg cs, .int .i64 (getI (G (k)) ((Int.toNat (i)) * 3 + 2))])] = true ∧
            Q .normal [.slice true (.ro (k)) (0) (n), .bool (false), .ptr (.rw 0) (0), .ptr (.rw 1) (0), .int .i64 (IntKind.wrap .i64 (i + 1))] [some ⟨1, (maskU [.agg cs, .int .i64 (getI (G (k)) ((Int.toNat (i)) * 3 + 2))])⟩, some ⟨1, (encRU [.agg (maskU [.agg cs, .int .i64 (getI (G (k)) ((Int.toNat (i)) * 3 + 2))])])⟩, some ⟨1, ([.int .i64 (getI (G (k)) ((Int.toNat (i)) * 3)), .int .i64 (getI (G (k)) ((Int.toNat (i)) * 3 + 1)), .int .i64 (getI (G (k)) ((Int.toNat (i)) * 3 + 2))] : List AV)⟩]) ∧
          (((getI (G (k)) ((Int.toNat (i)) * 3) : Int) == 2) = false →
            (((getI (G (k)) ((Int.toNat (i)) * 3) : Int) == 3) = true →
              okU [.agg cs] = true ∧
              (decide ((getI (G (k)) ((Int.toNat (i)) * 3 + 1) : Int) < 2) = true →
                okRU [.agg (encRU [.agg cs]), .agg cs] = true ∧
                decide ((getI (G (k)) ((Int.toNat (i)) * 3 + 1) : Int) < 2) = true ∧
                okRU [.agg (encRU [.agg cs]), .agg cs] = true ∧
                Q .normal [.slice true (.ro (k)) (0) (n), .bool (false), .ptr (.rw 0) (0), .ptr (.rw 1) (0), .int .i64 (IntKind.wrap .i64 (i + 1))] [some ⟨1, cs⟩, some ⟨1, (encRU [.agg cs])⟩, some ⟨1, ([.int .i64 (getI (G (k)) ((Int.toNat (i)) * 3)), .int .i64 (getI (G (k)) ((Int.toNat (i)) * 3 + 1)), .int .i64 (getI (G (k)) ((Int.toNat (i)) * 3 + 2))] : List AV)⟩]) ∧
              (decide ((getI (G (k)) ((Int.toNat (i)) * 3 + 1) : Int) < 2) = false →
                (decide ((getI (G (k)) ((Int.toNat (i)) * 3 + 1) : Int) > 15) = true →
                  okRU [.agg (encRU [.agg cs]), .agg cs] = true ∧
                  (!(decide ((getI (G (k)) ((Int.toNat (i)) * 3 + 1) : Int) < 2))) = true ∧
                  decide ((getI (G (k)) ((Int.toNat (i)) * 3 + 1) : Int) > 15) = true ∧
                  okRU [.agg (encRU [.agg cs]), .agg cs] = true ∧
                  Q .normal [.slice true (.ro (k)) (0) (n), .bool (false), .ptr (.rw 0) (0), .ptr (.rw 1) (0), .int .i64 (IntKind.wrap .i64 (i + 1))] [some ⟨1, cs⟩, some ⟨1, (encRU [.agg cs])⟩, some ⟨1, ([.int .i64 (getI (G (k)) ((Int.toNat (i)) * 3)), .int .i64 (getI (G (k)) ((Int.toNat (i)) * 3 + 1)), .int .i64 (getI (G (k)) ((Int.toNat (i)) * 3 + 2))] : List AV)⟩]) ∧
                (decide ((getI (G (k)) ((Int.toNat (i)) * 3 + 1) : Int) > 15) = false →
                  (decide ((getI (G (k)) ((Int.toNat (i)) * 3 + 2) : Int) < 0) = true →
                    okRU [.agg (encRU [.agg cs]), .agg cs] = true ∧
                    (!(decide ((getI (G (k)) ((Int.toNat (i)) * 3 + 1) : Int) < 2))) = true ∧
                    (!(decide ((getI (G (k)) ((Int.toNat (i)) * 3 + 1) : Int) > 15))) = true ∧
                    decide ((getI (G (k)) ((Int.toNat (i)) * 3 + 2) : Int) < 0) = true ∧
                    okRU [.agg (encRU [.agg cs]), .agg cs] = true ∧
                    Q .normal [.slice true (.ro (k)) (0) (n), .bool (false), .ptr (.rw 0) (0), .ptr (.rw 1) (0), .int .i64 (IntKind.wrap .i64 (i + 1))] [some ⟨1, cs⟩, some ⟨1, (encRU [.agg cs])⟩, some ⟨1, ([.int .i64 (getI (G (k)) ((Int.toNat (i)) * 3)), .int .i64 (getI (G (k)) ((Int.toNat (i)) * 3 + 1)), .int .i64 (getI (G (k)) ((Int.toNat (i)) * 3 + 2))] : List AV)⟩]) ∧
                  (decide ((getI (G (k)) ((Int.toNat (i)) * 3 + 2) : Int) < 0) = false →
                    (decide ((getI (G (k)) ((Int.toNat (i)) * 3 + 2) : Int) > 4294967295) = true →
                      okRU [.agg (encRU [.agg cs]), .agg cs] = true ∧
                      (!(decide ((getI (G (k)) ((Int.toNat (i)) * 3 + 1) : Int) < 2))) = true ∧
                      (!(decide ((getI (G (k)) ((Int.toNat (i)) * 3 + 1) : Int) > 15))) = true ∧
                      (!(decide ((getI (G (k)) ((Int.toNat (i)) * 3 + 2) : Int) < 0))) = true ∧
                      decide ((getI (G (k)) ((Int.toNat (i)) * 3 + 2) : Int) > 4294967295) = true ∧
                      okRU [.agg (encRU [.agg cs]), .agg cs] = true ∧
                      Q .normal [.slice true (.ro (k)) (0) (n), .bool (false), .ptr (.rw 0) (0), .ptr (.rw 1) (0), .int .i64 (IntKind.wrap .i64 (i + 1))] [some ⟨1, cs⟩, some ⟨1, (encRU [.agg cs])⟩, some ⟨1, ([.int .i64 (getI (G (k)) ((Int.toNat (i)) * 3)), .int .i64 (getI (G (k)) ((Int.toNat (i)) * 3 + 1)), .int .i64 (getI (G (k)) ((Int.toNat (i)) * 3 + 2))] : List AV)⟩]) ∧
                    (decide ((getI (G (k)) ((Int.toNat (i)) * 3 + 2) : Int) > 4294967295) = false →
                      okRU [.agg (encRU [.agg cs]), .agg cs] = true ∧
                      (!(decide ((getI (G (k)) ((Int.toNat (i)) * 3 + 1) : Int) < 2))) = true ∧
                      (!(decide ((getI (G (k)) ((Int.toNat (i)) * 3 + 1) : Int) > 15))) = true ∧
                      (!(decide ((getI (G (k)) ((Int.toNat (i)) * 3 + 2) : Int) < 0))) = true ∧
                      (!(decide ((getI (G (k)) ((Int.toNat (i)) * 3 + 2) : Int) > 4294967295))) = true ∧
                      ((atU [.agg cs, .int .i64 (getI (G (k)) ((Int.toNat (i)) * 3 + 1))] : Int) == atU [.agg cs, .int .i64 (getI (G (k)) ((Int.toNat (i)) * 3 + 1))]) = true ∧
                      okRU [.agg (encRU [.agg (handleU [.agg cs, .int .i64 (getI (G (k)) ((Int.toNat (i)) * 3 + 1)), .int .i64 (getI (G (k)) ((Int.toNat (i)) * 3 + 2))])]), .agg (handleU [.agg cs, .int .i64 (getI (G (k)) ((Int.toNat (i)) * 3 + 1)), .int .i64 (getI (G (k)) ((Int.toNat (i)) * 3 + 2))])] = true ∧
                      Q .normal [.slice true (.ro (k)) (0) (n), .bool (false), .ptr (.rw 0) (0), .ptr (.rw 1) (0), .int .i64 (IntKind.wrap .i64 (i + 1))] [some ⟨1, (handleU [.agg cs, .int .i64 (getI (G (k)) ((Int.toNat (i)) * 3 + 1)), .int .i64 (getI (G (k)) ((Int.toNat (i)) * 3 + 2))])⟩, some ⟨1, (encRU [.agg (handleU [.agg cs, .int .i64 (getI (G (k)) ((Int.toNat (i)) * 3 + 1)), .int .i64 (getI (G (k)) ((Int.toNat (i)) * 3 + 2))])])⟩, some ⟨1, ([.int .i64 (getI (G (k)) ((Int.toNat (i)) * 3)), .int .i64 (getI (G (k)) ((Int.toNat (i)) * 3 + 1)), .int .i64 (getI (G (k)) ((Int.toNat (i)) * 3 + 2))] : List AV)⟩]))))) ∧
            (((getI (G (k)) ((Int.toNat (i)) * 3) : Int) == 3) = false →
              (((getI (G (k)) ((Int.toNat (i)) * 3) : Int) == 4) = true →
                okU [.agg cs] = true ∧
                okRU [.agg (encRU [.agg cs]), .agg cs] = true ∧
                ((tkSigU [.agg cs] : Int) == tkSigU [.agg cs]) = true ∧
                (tkEndsU [.agg cs] = true →
                  tkEndsU [.agg cs] = true ∧
                  ((tkAtU [.agg cs] : Int) == tkAtU [.agg cs]) = true ∧
                  (tkOkU [.agg cs] = true →
                    tkOkU [.agg cs] = true ∧
                    okRU [.agg (encRU [.agg (tkU [.agg cs])]), .agg (tkU [.agg cs])] = true ∧
                    Q .normal [.slice true (.ro (k)) (0) (n), .bool (false), .ptr (.rw 0) (0), .ptr (.rw 1) (0), .int .i64 (IntKind.wrap .i64 (i + 1))] [some ⟨1, (tkU [.agg cs])⟩, some ⟨1, (encRU [.agg (tkU [.agg cs])])⟩, some ⟨1, ([.int .i64 (getI (G (k)) ((Int.toNat (i)) * 3)), .int .i64 (getI (G (k)) ((Int.toNat (i)) * 3 + 1)), .int .i64 (getI (G (k)) ((Int.toNat (i)) * 3 + 2))] : List AV)⟩, some ⟨1, ([.int .i64 (tkSigU [.agg cs]), .bool (tkEndsU [.agg cs]), .int .u32 (tkAtU [.agg cs])] : List AV)⟩, some ⟨1, ([.int .i64 (tkSigU [.agg cs]), .bool (tkEndsU [.agg cs]), .int .u32 (tkAtU [.agg cs])] : List AV)⟩]) ∧
                  (tkOkU [.agg cs] = false →
                    (!(tkOkU [.agg cs])) = true ∧
                    okRU [.agg (encRU [.agg (tkU [.agg cs])]), .agg (tkU [.agg cs])] = true ∧
                    Q .normal [.slice true (.ro (k)) (0) (n), .bool (false), .ptr (.rw 0) (0), .ptr (.rw 1) (0), .int .i64 (IntKind.wrap .i64 (i + 1))] [some ⟨1, (tkU [.agg cs])⟩, some ⟨1, (encRU [.agg (tkU [.agg cs])])⟩, some ⟨1, ([.int .i64 (getI (G (k)) ((Int.toNat (i)) * 3)), .int .i64 (getI (G (k)) ((Int.toNat (i)) * 3 + 1)), .int .i64 (getI (G (k)) ((Int.toNat (i)) * 3 + 2))] : List AV)⟩, some ⟨1, ([.int .i64 (tkSigU [.agg cs]), .bool (tkEndsU [.agg cs]), .int .u32 (tkAtU [.agg cs])] : List AV)⟩, some ⟨1, ([.int .i64 (tkSigU [.agg cs]), .bool (tkEndsU [.agg cs]), .int .u32 (tkAtU [.agg cs])] : List AV)⟩])) ∧
                (tkEndsU [.agg cs] = false →
                  (!(tkEndsU [.agg cs])) = true ∧
                  ((tkAtU [.agg cs] : Int) == tkAtU [.agg cs]) = true ∧
                  (tkOkU [.agg cs] = true →
                    tkOkU [.agg cs] = true ∧
                    okRU [.agg (encRU [.agg (tkU [.agg cs])]), .agg (tkU [.agg cs])] = true ∧
                    Q .normal [.slice true (.ro (k)) (0) (n), .bool (false), .ptr (.rw 0) (0), .ptr (.rw 1) (0), .int .i64 (IntKind.wrap .i64 (i + 1))] [some ⟨1, (tkU [.agg cs])⟩, some ⟨1, (encRU [.agg (tkU [.agg cs])])⟩, some ⟨1, ([.int .i64 (getI (G (k)) ((Int.toNat (i)) * 3)), .int .i64 (getI (G (k)) ((Int.toNat (i)) * 3 + 1)), .int .i64 (getI (G (k)) ((Int.toNat (i)) * 3 + 2))] : List AV)⟩, some ⟨1, ([.int .i64 (tkSigU [.agg cs]), .bool (tkEndsU [.agg cs]), .int .u32 (tkAtU [.agg cs])] : List AV)⟩, some ⟨1, ([.int .i64 (tkSigU [.agg cs]), .bool (tkEndsU [.agg cs]), .int .u32 (tkAtU [.agg cs])] : List AV)⟩]) ∧
                  (tkOkU [.agg cs] = false →
                    (!(tkOkU [.agg cs])) = true ∧
                    okRU [.agg (encRU [.agg (tkU [.agg cs])]), .agg (tkU [.agg cs])] = true ∧
                    Q .normal [.slice true (.ro (k)) (0) (n), .bool (false), .ptr (.rw 0) (0), .ptr (.rw 1) (0), .int .i64 (IntKind.wrap .i64 (i + 1))] [some ⟨1, (tkU [.agg cs])⟩, some ⟨1, (encRU [.agg (tkU [.agg cs])])⟩, some ⟨1, ([.int .i64 (getI (G (k)) ((Int.toNat (i)) * 3)), .int .i64 (getI (G (k)) ((Int.toNat (i)) * 3 + 1)), .int .i64 (getI (G (k)) ((Int.toNat (i)) * 3 + 2))] : List AV)⟩, some ⟨1, ([.int .i64 (tkSigU [.agg cs]), .bool (tkEndsU [.agg cs]), .int .u32 (tkAtU [.agg cs])] : List AV)⟩, some ⟨1, ([.int .i64 (tkSigU [.agg cs]), .bool (tkEndsU [.agg cs]), .int .u32 (tkAtU [.agg cs])] : List AV)⟩]))) ∧
              (((getI (G (k)) ((Int.toNat (i)) * 3) : Int) == 4) = false →
                (((getI (G (k)) ((Int.toNat (i)) * 3) : Int) == 5) = true →
                  okU [.agg cs] = true ∧
                  okRU [.agg (encRU [.agg cs]), .agg cs] = true ∧
                  okU [.agg cs] = true ∧
                  (!(decide ((1 : Int) < 0))) = true ∧
                  (!(decide ((1 : Int) > 15))) = true ∧
                  okRU [.agg (encRU [.agg cs]), .agg cs] = true ∧
                  okRU [.agg (encRU [.agg (childU [.agg cs])]), .agg (childU [.agg cs])] = true ∧
                  Q .normal [.slice true (.ro (k)) (0) (n), .bool (false), .ptr (.rw 3) (0), .ptr (.rw 4) (0), .int .i64 (IntKind.wrap .i64 (i + 1))] [some ⟨1, (sendU [.agg cs, .int .i64 (1)])⟩, some ⟨1, (encRU [.agg cs])⟩, some ⟨1, ([.int .i64 (getI (G (k)) ((Int.toNat (i)) * 3)), .int .i64 (getI (G (k)) ((Int.toNat (i)) * 3 + 1)), .int .i64 (getI (G (k)) ((Int.toNat (i)) * 3 + 2))] : List AV)⟩, some ⟨1, (childU [.agg cs])⟩, some ⟨1, (encRU [.agg (childU [.agg cs])])⟩]) ∧
                (((getI (G (k)) ((Int.toNat (i)) * 3) : Int) == 5) = false →
                  (((getI (G (k)) ((Int.toNat (i)) * 3) : Int) == 6) = true →
                    okU [.agg cs] = true ∧
                    okU [.agg cs] = true ∧
                    okU [.agg cs] = true ∧
                    okU [.agg cs] = true ∧
                    okU [.agg (maskU [.agg cs, .int .i64 ((-1))])] = true ∧
                    (!(decide ((1 : Int) < 0))) = true ∧
                    (!(decide ((1 : Int) > 15))) = true ∧
                    okU [.agg (sendU [.agg (maskU [.agg cs, .int .i64 ((-1))]), .int .i64 (1)])] = true ∧
                    (!(decide ((2 : Int) < 2))) = true ∧
                    (!(decide ((2 : Int) > 15))) = true ∧
                    (!(decide ((77 : Int) < 0))) = true ∧
                    (!(decide ((77 : Int) > 4294967295))) = true ∧
                    (sameU [.agg cs, .agg cs] = true →
                      okRU [.agg (encRU [.agg cs]), .agg cs] = true ∧
                      Q .normal [.slice true (.ro (k)) (0) (n), .bool (false), .ptr (.rw 3) (0), .ptr (.rw 1) (0), .int .i64 (IntKind.wrap .i64 (i + 1))] [some ⟨1, (handleU [.agg (sendU [.agg (maskU [.agg cs, .int .i64 ((-1))]), .int .i64 (1)]), .int .i64 (2), .int .i64 (77)])⟩, some ⟨1, (encRU [.agg cs])⟩, some ⟨1, ([.int .i64 (getI (G (k)) ((Int.toNat (i)) * 3)), .int .i64 (getI (G (k)) ((Int.toNat (i)) * 3 + 1)), .int .i64 (getI (G (k)) ((Int.toNat (i)) * 3 + 2))] : List AV)⟩, some ⟨1, cs⟩]) ∧
                    (sameU [.agg cs, .agg cs] = false →
                      Q .ret [.slice true (.ro (k)) (0) (n), .bool (false), .ptr (.rw 3) (0), .ptr (.rw 1) (0), .int .i64 (i)] [some ⟨1, (handleU [.agg (sendU [.agg (maskU [.agg cs, .int .i64 ((-1))]), .int .i64 (1)]), .int .i64 (2), .int .i64 (77)])⟩, some ⟨1, (encRU [.agg cs])⟩, some ⟨1, ([.int .i64 (getI (G (k)) ((Int.toNat (i)) * 3)), .int .i64 (getI (G (k)) ((Int.toNat (i)) * 3 + 1)), .int .i64 (getI (G (k)) ((Int.toNat (i)) * 3 + 2))] : List AV)⟩, some ⟨1, cs⟩])) ∧
                  (((getI (G (k)) ((Int.toNat (i)) * 3) : Int) == 6) = false →
                    okRU [.agg (encRU [.agg cs]), .agg cs] = true ∧
                    Q .normal [.slice true (.ro (k)) (0) (n), .bool (false), .ptr (.rw 0) (0), .ptr (.rw 1) (0), .int .i64 (IntKind.wrap .i64 (i + 1))] [some ⟨1, cs⟩, some ⟨1, (encRU [.agg cs])⟩, some ⟨1, ([.int .i64 (getI (G (k)) ((Int.toNat (i)) * 3)), .int .i64 (getI (G (k)) ((Int.toNat (i)) * 3 + 1)), .int .i64 (getI (G (k)) ((Int.toNat (i)) * 3 + 2))] : List AV)⟩]))))))) ∧
      (decide ((i : Int) < 400) = false →
        Q (.exit 0) [.slice true (.ro (k)) (0) (n), .bool (false), .ptr (.rw 0) (0), .ptr (.rw 1) (0), .int .i64 (i)] [some ⟨1, cs⟩, some ⟨1, (encRU [.agg cs])⟩])) ∧
    (decide ((i : Int) < ((n : Nat) : Int)) = false →
      Q (.exit 0) [.slice true (.ro (k)) (0) (n), .bool (false), .ptr (.rw 0) (0), .ptr (.rw 1) (0), .int .i64 (i)] [some ⟨1, cs⟩, some ⟨1, (encRU [.agg cs])⟩])) := by kernel_rfl
def JS (k n : Nat) (j : Nat) (vs : List AV) (H : Hp) : Prop := ∃ i : Nat, i ≤ n ∧ i ≤ 400 ∧ j = 400 - i ∧ vs = [.slice true (.ro k) 0 n, .bool false, .ptr (.rw 0) 0, .ptr (.rw 1) 0, .int .i64 (i : Int)] ∧ ∃ q : Sg, H = [some ⟨1, encP q⟩, some ⟨1, encR q⟩]
theorem leafs3 {k i : Nat} {n : Nat} {cs : List AV} (hk : okI .i64 cs 0 (n * 3) = true) (h : i < n) : leafsOk cs (i * 3) [.int .i64, .int .i64, .int .i64] = true := by
  have hst : ∀ j, j < 3 → isI .i64 cs (i * 3 + j) = true := fun j hj => by
    have := okI_get hk (j := i * 3 + j) (by omega)
    rwa [Nat.zero_add] at this
  have h0 := hst 0 (by omega)
  have h1 := hst 1 (by omega)
  have h2 := hst 2 (by omega)
  simp only [Nat.add_zero] at h0
  simp [leafsOk, leafOk, h0, h1, h2]
theorem ss_loop (G : Nat → List AV) (B : Nat) (p : Sg) (k n : Nat) (hk : okI .i64 (G k) 0 (n * 3) = true) :
    AWp (⟨Try.prog, G, B⟩ : Ctx) 0 (.loop (loopN Try.f5 0)) (fl 47 [0, 2, 3, 4, 5] [.slice true (.ro k) 0 n, .bool false, .ptr (.rw 0) 0, .ptr (.rw 1) 0, .int .i64 0]) [some ⟨1, encP p⟩, some ⟨1, encR p⟩]
      (lv 47 [0, 2, 3, 4, 5] fun e vs H => e = .exit 0 ∧ wk [.undef, .bool false, .ptr (.rw 0) 0, .ptr (.rw 1) 0, .undef] vs ∧ ∃ q : Sg, H = [some ⟨1, encP q⟩, some ⟨1, encR q⟩]) := by
  refine aloop_lv (JS k n) 400 ⟨0, by omega, by omega, rfl, rfl, p, rfl⟩ ?_
  rintro j vs H ⟨i, hi1, hi2, rfl, rfl, q, rfl⟩
  have key := dloop_ok (C := (⟨Try.prog, G, B⟩ : Ctx)) (dgA G B) (fuel := 300) (n0 := 20) (m := 0) (c := loopN Try.f5 0) (N := 47) (live := [0, 2, 3, 4, 5]) (vs := [.slice true (.ro (.var 1 k)) (.lit 0) (.var 2 n), .bool (.lit false), .ptr (.rw 0) (.lit 0), .ptr (.rw 1) (.lit 0), .int .i64 (.var 6 (i : Int))]) (H := [some ⟨1, .var 8 (encP q)⟩, some ⟨1, .uf 1002 encRU [.agg (.var 8 (encP q))]⟩])
    (Q := fun e vs' H' => match e with
      | .normal => ∃ k', k' < 400 - i ∧ (JS k n k' vs' H' ∨ ∃ vs'' H'', JS k n k' vs'' H'' ∧ View 0 vs'' H'' vs' H')
      | e => e = .exit 0 ∧ wk [.undef, .bool false, .ptr (.rw 0) 0, .ptr (.rw 1) 0, .undef] vs' ∧ ∃ q : Sg, H' = [some ⟨1, encP q⟩, some ⟨1, encR q⟩]) (by simp) (by
    rw [ss_b]
    have fr : ∀ (r : Sg), i < n → i < 400 → ∃ k', k' < 400 - i ∧ JS k n k' [.slice true (.ro k) 0 n, .bool false, .ptr (.rw 0) 0, .ptr (.rw 1) 0, .int .i64 (IntKind.wrap .i64 ((i : Int) + 1))] [some ⟨1, encP r⟩, some ⟨1, encR r⟩] := fun r h1 h2 =>
      ⟨400 - (i + 1), by omega, i + 1, by omega, by omega, rfl, by rw [i64_in (by omega)]; rfl, r, rfl⟩
    have nx : ∀ (r : Sg) (e : Hp), i < n → i < 400 → ∃ k', k' < 400 - i ∧ (JS k n k' [.slice true (.ro k) 0 n, .bool false, .ptr (.rw 0) 0, .ptr (.rw 1) 0, .int .i64 (IntKind.wrap .i64 ((i : Int) + 1))] (some ⟨1, encP r⟩ :: some ⟨1, encR r⟩ :: e) ∨ ∃ vs'' H'', JS k n k' vs'' H'' ∧ View 0 vs'' H'' [.slice true (.ro k) 0 n, .bool false, .ptr (.rw 0) 0, .ptr (.rw 1) 0, .int .i64 (IntKind.wrap .i64 ((i : Int) + 1))] (some ⟨1, encP r⟩ :: some ⟨1, encR r⟩ :: e)) := fun r e h1 h2 => by
      obtain ⟨k', g1, g2⟩ := fr r h1 h2
      refine ⟨k', g1, .inr ⟨_, _, g2, ?_⟩⟩
      exact View.same (H := [some ⟨1, encP r⟩, some ⟨1, encR r⟩]) (G := e) (by simp) (by simp [hpB, encP_flat, encR_flat]) (fv_refl _ (by simp [bnds, bnd]))
    have nx34 : ∀ (r : Sg) (a b c : Option Blk), i < n → i < 400 → ∃ k', k' < 400 - i ∧ (JS k n k' [.slice true (.ro k) 0 n, .bool false, .ptr (.rw 3) 0, .ptr (.rw 4) 0, .int .i64 (IntKind.wrap .i64 ((i : Int) + 1))] [a, b, c, some ⟨1, encP r⟩, some ⟨1, encR r⟩] ∨ ∃ vs'' H'', JS k n k' vs'' H'' ∧ View 0 vs'' H'' [.slice true (.ro k) 0 n, .bool false, .ptr (.rw 3) 0, .ptr (.rw 4) 0, .int .i64 (IntKind.wrap .i64 ((i : Int) + 1))] [a, b, c, some ⟨1, encP r⟩, some ⟨1, encR r⟩]) := fun r a b c h1 h2 => by
      obtain ⟨k', g1, g2⟩ := fr r h1 h2
      refine ⟨k', g1, .inr ⟨_, _, g2, ?_⟩⟩
      exact View.renM (θ := [3, 4]) (by simp) (fun i hi => by omega) (by decide) ⟨⟨encP_flat _ _, by rw [rens_flat _ _ (encP_flat 0 r)]; rfl⟩, ⟨encR_flat _ _, by rw [rens_flat _ _ (encR_flat 0 r)]; rfl⟩, trivial⟩ (by simp [bnds, bnd]) (by simp [rens, ren, wk])
    have nx31 : ∀ (r : Sg) (a c : Option Blk), i < n → i < 400 → ∃ k', k' < 400 - i ∧ (JS k n k' [.slice true (.ro k) 0 n, .bool false, .ptr (.rw 3) 0, .ptr (.rw 1) 0, .int .i64 (IntKind.wrap .i64 ((i : Int) + 1))] [a, some ⟨1, encR r⟩, c, some ⟨1, encP r⟩] ∨ ∃ vs'' H'', JS k n k' vs'' H'' ∧ View 0 vs'' H'' [.slice true (.ro k) 0 n, .bool false, .ptr (.rw 3) 0, .ptr (.rw 1) 0, .int .i64 (IntKind.wrap .i64 ((i : Int) + 1))] [a, some ⟨1, encR r⟩, c, some ⟨1, encP r⟩]) := fun r a c h1 h2 => by
      obtain ⟨k', g1, g2⟩ := fr r h1 h2
      refine ⟨k', g1, .inr ⟨_, _, g2, ?_⟩⟩
      exact View.renM (θ := [3, 1]) (by simp) (fun i hi => by omega) (by decide) ⟨⟨encP_flat _ _, by rw [rens_flat _ _ (encP_flat 0 r)]; rfl⟩, ⟨encR_flat _ _, by rw [rens_flat _ _ (encR_flat 0 r)]; rfl⟩, trivial⟩ (by simp [bnds, bnd]) (by simp [rens, ren, wk])
    have hsame : sameU [.agg (encP q), .agg (encP q)] = true := by rw [sameU_enc]; exact sameB_refl q
    simp only [Int.toNat_natCast, hsame, handleU_enc, maskU_enc, sendU_enc, tkU_enc, tkSigU_enc, tkEndsU_enc, tkAtU_enc, tkOkU_enc, heldU_enc, atU_enc, childU_enc, encRU_enc, okU_enc, okRU_enc]
    repeat' first | refine And.intro ?_ ?_ | intro _
    all_goals try simp only [decide_eq_true_eq, decide_eq_false_iff_not] at *
    all_goals first
      | omega
      | trivial
      | assumption
      | exact leafs3 (k := k) hk (by omega)
      | exact nx _ _ (by omega) (by omega)
      | exact nx34 _ _ _ _ (by omega) (by omega)
      | exact nx31 _ _ _ (by omega) (by omega)
      | (simp; done)
      | (simp [wk]; done)
      | exact ⟨q, rfl⟩
      | (simp_all; done))
  simp only [vVs, vV, vR, vN, vI, vB, vHp, List.map_cons, List.map_nil, Option.map_some, vBlk, vL, encRU_enc] at key
  exact key
def ssL : DL := ⟨0, 47, [0, 2, 3, 4, 5], fun vs H => match vs, H with
  | [.slice true (.ro k) (.lit 0) n, .bool (.lit false), .ptr (.rw 0) (.lit 0), .ptr (.rw 1) (.lit 0), .int .i64 (.lit 0)], [some ⟨1, l⟩, some ⟨1, r⟩] =>
    some (.chk (.uf 1041 stepsU [.agg (.ro k), .ptr (.rw 0) n]) (.chk (.uf 1003 okRU [.agg r, .agg l]) (.allL fun l' => .imp (.uf 1001 okU [.agg l']) (.one (.exit 0) [.undef, .bool (.lit false), .ptr (.rw 0) (.lit 0), .ptr (.rw 1) (.lit 0), .undef] [some ⟨1, l'⟩, some ⟨1, .uf 1002 encRU [.agg l']⟩]))))
  | _, _ => none⟩
theorem ssL_ok (G : Nat → List AV) (B : Nat) : DLoopOk (⟨Try.prog, G, B⟩ : Ctx) 0 (loopN Try.f5 0) ssL := by
  refine .of fun vs H o ho n Q hQ => ?_
  simp only [ssL] at ho
  split at ho
  · rename_i k n l r
    simp only [Option.some.injEq] at ho
    subst ho
    obtain ⟨h1, h2, h3⟩ := hQ
    simp only [vB, vVs, vV, vL, vR, vN, stepsU] at h1
    simp only [vB, vVs, vV, okRU, Bool.and_eq_true] at h2
    have e1 := okP_eq h2.1
    have e2 := eqCs_eq h2.2
    simp only [ssL, vVs, vV, vR, vN, vI, vB, vHp, List.map_cons, List.map_nil, Option.map_some, vBlk]
    rw [e2, e1, decP_enc]
    refine (ss_loop G B _ _ _ h1).lmono ?_
    rintro e vs'' H'' ⟨rfl, g2, q, rfl⟩
    refine .inl ⟨_, g2, ?_⟩
    have := h3 (encP q) (by simp only [vB, vVs, vV, vL]; exact okU_enc q)
    simp only [lHolds, vVs, vV, vR, vN, vI, vB, vL, vHp, List.map_cons, List.map_nil, Option.map_some, vBlk, encRU_enc] at this
    exact this
  · simp at ho
theorem dgSS (G : Nat → List AV) (B : Nat) : DGood (⟨Try.prog, G, B⟩ : Ctx) (Dc Try.prog [9, 18, 21] allS [ssL] 0) (loopsOf (bodyOf Try.f5)) := dgood (mix G B) (by kernel_rfl) (allS_ok G B) (.cast (.cons (i := 0) (by kernel_rfl) rfl (ssL_ok G B) .nil) (by kernel_rfl))
theorem ss_run (G : Nat → List AV) (k n : Nat) (Q : Ex → List AV → Hp → Prop) (R : AV → Hp → Prop) : vT G Q R (dlaw (Dc Try.prog [9, 18, 21] allS [ssL] 0) 400 20 Try.f5 [.slice true (.ro (.var 1 k)) (.lit 0) (.var 2 n)] []) = (
    okRU [.agg (encRU [.agg ([.bool (true), .int .u32 (0), .int .u32 (0), .int .u32 (0), .int .u32 (0), .int .u32 (0), .int .u32 (0), .int .u32 (0), .int .u32 (0), .int .u32 (0), .int .u32 (0), .int .u32 (0), .int .u32 (0), .int .u32 (0), .int .u32 (0), .int .u32 (0), .int .u32 (0), .int .u32 (0), .int .u32 (0)] : List AV)]), .agg ([.bool (true), .int .u32 (0), .int .u32 (0), .int .u32 (0), .int .u32 (0), .int .u32 (0), .int .u32 (0), .int .u32 (0), .int .u32 (0), .int .u32 (0), .int .u32 (0), .int .u32 (0), .int .u32 (0), .int .u32 (0), .int .u32 (0), .int .u32 (0), .int .u32 (0), .int .u32 (0), .int .u32 (0)] : List AV)] = true ∧
    stepsU [.agg (G (k)), .ptr (.rw 0) (n)] = true ∧
    okRU [.agg (encRU [.agg ([.bool (true), .int .u32 (0), .int .u32 (0), .int .u32 (0), .int .u32 (0), .int .u32 (0), .int .u32 (0), .int .u32 (0), .int .u32 (0), .int .u32 (0), .int .u32 (0), .int .u32 (0), .int .u32 (0), .int .u32 (0), .int .u32 (0), .int .u32 (0), .int .u32 (0), .int .u32 (0), .int .u32 (0)] : List AV)]), .agg ([.bool (true), .int .u32 (0), .int .u32 (0), .int .u32 (0), .int .u32 (0), .int .u32 (0), .int .u32 (0), .int .u32 (0), .int .u32 (0), .int .u32 (0), .int .u32 (0), .int .u32 (0), .int .u32 (0), .int .u32 (0), .int .u32 (0), .int .u32 (0), .int .u32 (0), .int .u32 (0), .int .u32 (0)] : List AV)] = true ∧
    (∀ l20 : List AV,
    (okU [.agg l20] = true →
    R (.bool (true)) []))) := by kernel_rfl
theorem zP_okR : okRU [.agg (encRU [.agg (encP zeroP)]), .agg (encP zeroP)] = true := by rw [encRU_enc]; exact okRU_enc _
theorem ss_call (G : Nat → List AV) (B : Nat) (k n : Nat) (hk : okI .i64 (G k) 0 (n * 3) = true) : ACalls (⟨Try.prog, G, B⟩ : Ctx) 5 [.slice true (.ro k) 0 n] [] fun v _ => v = .bool true := by
  have key := dlaw_ok (C := (⟨Try.prog, G, B⟩ : Ctx)) (f := 5) (R := fun v _ => v = .bool true) (dgSS G B) (by kernel_rfl) (by kernel_rfl) (by kernel_rfl) (fuel := 400) (n0 := 20) (args := [.slice true (.ro (.var 1 k)) (.lit 0) (.var 2 n)]) (H := []) (by
    rw [ss_run]
    exact ⟨zP_okR, hk, zP_okR, fun _ _ => rfl⟩)
  simp only [vVs, vV, vR, vN, vI, vL, vHp, List.map_nil] at key
  exact key
end Go.Am
