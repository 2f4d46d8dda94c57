/-
  Processes: the program's Fork.
-/
import Derived.Test.YtkabjomhnddnoaaPrI
namespace Go.Am
open Go.Proofs Crc
set_option maxRecDepth 100000
theorem f_b (G : Nat → List AV) (tb sl : List AV) (n i : Int) (Q : Ex → List AV → Hp → Prop) (R : AV → Hp → Prop) : vT G Q R (dloop (Dc Try.prog [36, 39] [] [] 0) 300 40 14 (loopN Try.f26 0) 50 [0, 1, 4, 5, 7] [.ptr (.rw 0) (.lit 0), .int .i64 (.var 3 n), .int .i64 (.lit 0), .int .i64 (.lit 0), .int .i64 (.var 4 i)] [some ⟨1, .var 1 tb⟩, some ⟨1, .row (.var 2 sl) (.lit 0)⟩, some ⟨1, .row (.var 2 sl) (.lit 1)⟩, some ⟨1, .row (.var 2 sl) (.lit 2)⟩, some ⟨1, .row (.var 2 sl) (.lit 3)⟩, some ⟨1, .row (.var 2 sl) (.lit 4)⟩, some ⟨1, .row (.var 2 sl) (.lit 5)⟩, some ⟨1, .row (.var 2 sl) (.lit 6)⟩, some ⟨1, .row (.var 2 sl) (.lit 7)⟩, some ⟨1, .row (.var 2 sl) (.lit 8)⟩, some ⟨1, .row (.var 2 sl) (.lit 9)⟩, some ⟨1, .row (.var 2 sl) (.lit 10)⟩, some ⟨1, .row (.var 2 sl) (.lit 11)⟩, some ⟨1, .row (.var 2 sl) (.lit 12)⟩]) = (
    (decide ((i : Int) ≤ 12) = true →
      isB tb (0) = true ∧
      (getB tb (0) = true →
        (decide ((i : Int) ≥ 1) = true →
          decide ((i : Int) ≤ 12) = true ∧
          decide ((0 : Int) ≤ i) = true ∧
          decide ((i : Int) < 13) = true ∧
          isI .i64 tb ((Int.toNat (i)) * 7 + 1) = true ∧
          (((getI tb ((Int.toNat (i)) * 7 + 1) : Int) == i) = true →
            Q .normal [.ptr (.rw 0) (0), .int .i64 (n), .int .i64 (0), .int .i64 (0), .int .i64 (IntKind.wrap .i64 (i + 1))] [some ⟨1, tb⟩, some ⟨1, (rowA sl (0))⟩, some ⟨1, (rowA sl (1))⟩, some ⟨1, (rowA sl (2))⟩, some ⟨1, (rowA sl (3))⟩, some ⟨1, (rowA sl (4))⟩, some ⟨1, (rowA sl (5))⟩, some ⟨1, (rowA sl (6))⟩, some ⟨1, (rowA sl (7))⟩, some ⟨1, (rowA sl (8))⟩, some ⟨1, (rowA sl (9))⟩, some ⟨1, (rowA sl (10))⟩, some ⟨1, (rowA sl (11))⟩, some ⟨1, (rowA sl (12))⟩]) ∧
          (((getI tb ((Int.toNat (i)) * 7 + 1) : Int) == i) = false →
            Q (.exit 0) [.ptr (.rw 0) (0), .int .i64 (n), .int .i64 (0), .int .i64 (0), .int .i64 (i)] [some ⟨1, tb⟩, some ⟨1, (rowA sl (0))⟩, some ⟨1, (rowA sl (1))⟩, some ⟨1, (rowA sl (2))⟩, some ⟨1, (rowA sl (3))⟩, some ⟨1, (rowA sl (4))⟩, some ⟨1, (rowA sl (5))⟩, some ⟨1, (rowA sl (6))⟩, some ⟨1, (rowA sl (7))⟩, some ⟨1, (rowA sl (8))⟩, some ⟨1, (rowA sl (9))⟩, some ⟨1, (rowA sl (10))⟩, some ⟨1, (rowA sl (11))⟩, some ⟨1, (rowA sl (12))⟩])) ∧
        (decide ((i : Int) ≥ 1) = false →
          Q (.exit 0) [.ptr (.rw 0) (0), .int .i64 (n), .int .i64 (0), .int .i64 (0), .int .i64 (i)] [some ⟨1, tb⟩, some ⟨1, (rowA sl (0))⟩, some ⟨1, (rowA sl (1))⟩, some ⟨1, (rowA sl (2))⟩, some ⟨1, (rowA sl (3))⟩, some ⟨1, (rowA sl (4))⟩, some ⟨1, (rowA sl (5))⟩, some ⟨1, (rowA sl (6))⟩, some ⟨1, (rowA sl (7))⟩, some ⟨1, (rowA sl (8))⟩, some ⟨1, (rowA sl (9))⟩, some ⟨1, (rowA sl (10))⟩, some ⟨1, (rowA sl (11))⟩, some ⟨1, (rowA sl (12))⟩])) ∧
      (getB tb (0) = false →
        Q (.exit 0) [.ptr (.rw 0) (0), .int .i64 (n), .int .i64 (0), .int .i64 (0), .int .i64 (i)] [some ⟨1, tb⟩, some ⟨1, (rowA sl (0))⟩, some ⟨1, (rowA sl (1))⟩, some ⟨1, (rowA sl (2))⟩, some ⟨1, (rowA sl (3))⟩, some ⟨1, (rowA sl (4))⟩, some ⟨1, (rowA sl (5))⟩, some ⟨1, (rowA sl (6))⟩, some ⟨1, (rowA sl (7))⟩, some ⟨1, (rowA sl (8))⟩, some ⟨1, (rowA sl (9))⟩, some ⟨1, (rowA sl (10))⟩, some ⟨1, (rowA sl (11))⟩, some ⟨1, (rowA sl (12))⟩])) ∧
    (decide ((i : Int) ≤ 12) = false →
      Q (.exit 0) [.ptr (.rw 0) (0), .int .i64 (n), .int .i64 (0), .int .i64 (0), .int .i64 (i)] [some ⟨1, tb⟩, some ⟨1, (rowA sl (0))⟩, some ⟨1, (rowA sl (1))⟩, some ⟨1, (rowA sl (2))⟩, some ⟨1, (rowA sl (3))⟩, some ⟨1, (rowA sl (4))⟩, some ⟨1, (rowA sl (5))⟩, some ⟨1, (rowA sl (6))⟩, some ⟨1, (rowA sl (7))⟩, some ⟨1, (rowA sl (8))⟩, some ⟨1, (rowA sl (9))⟩, some ⟨1, (rowA sl (10))⟩, some ⟨1, (rowA sl (11))⟩, some ⟨1, (rowA sl (12))⟩])) := by kernel_rfl
theorem f_c (G : Nat → List AV) (rl : List AV → Bool) (tb sl : List AV) (n : Int) (c : Nat) (Q : Ex → List AV → Hp → Prop) (R : AV → Hp → Prop) : vT G Q R (dcall (Df Try.prog [(48, 1, 13)] [36, 38, 39, 20] [(58, fChildS sideP)] [DLat 2330 (rl) 0 50 [0, 1, 4, 5, 7] (.one (.exit 0) [.ptr (.rw 0) (.lit 0), .int .i64 (.var 3 n), .int .i64 (.lit 0), .int .i64 (.lit 0), .int .i64 (.ofN (.var 6 c))] [some ⟨1, .var 1 tb⟩, some ⟨1, .row (.var 2 sl) (.lit 0)⟩, some ⟨1, .row (.var 2 sl) (.lit 1)⟩, some ⟨1, .row (.var 2 sl) (.lit 2)⟩, some ⟨1, .row (.var 2 sl) (.lit 3)⟩, some ⟨1, .row (.var 2 sl) (.lit 4)⟩, some ⟨1, .row (.var 2 sl) (.lit 5)⟩, some ⟨1, .row (.var 2 sl) (.lit 6)⟩, some ⟨1, .row (.var 2 sl) (.lit 7)⟩, some ⟨1, .row (.var 2 sl) (.lit 8)⟩, some ⟨1, .row (.var 2 sl) (.lit 9)⟩, some ⟨1, .row (.var 2 sl) (.lit 10)⟩, some ⟨1, .row (.var 2 sl) (.lit 11)⟩, some ⟨1, .row (.var 2 sl) (.lit 12)⟩])] 14) 300 40 Try.f26 [.ptr (.rw 0) (.lit 0), .int .i64 (.var 3 n)] [some ⟨1, .var 1 tb⟩, some ⟨1, .row (.var 2 sl) (.lit 0)⟩, some ⟨1, .row (.var 2 sl) (.lit 1)⟩, some ⟨1, .row (.var 2 sl) (.lit 2)⟩, some ⟨1, .row (.var 2 sl) (.lit 3)⟩, some ⟨1, .row (.var 2 sl) (.lit 4)⟩, some ⟨1, .row (.var 2 sl) (.lit 5)⟩, some ⟨1, .row (.var 2 sl) (.lit 6)⟩, some ⟨1, .row (.var 2 sl) (.lit 7)⟩, some ⟨1, .row (.var 2 sl) (.lit 8)⟩, some ⟨1, .row (.var 2 sl) (.lit 9)⟩, some ⟨1, .row (.var 2 sl) (.lit 10)⟩, some ⟨1, .row (.var 2 sl) (.lit 11)⟩, some ⟨1, .row (.var 2 sl) (.lit 12)⟩] 16) = (
    isB tb (0) = true ∧
    (getB tb (0) = true →
      isB tb (0) = true ∧
      getB tb (0) = true ∧
      (decide ((n : Int) ≥ 1) = true →
        (decide ((n : Int) ≤ 12) = true →
          decide ((0 : Int) ≤ n) = true ∧
          decide ((n : Int) < 13) = true ∧
          isI .i64 tb ((Int.toNat (n)) * 7 + 1) = true ∧
          (((getI tb ((Int.toNat (n)) * 7 + 1) : Int) == n) = true →
            decide ((0 : Int) ≤ n) = true ∧
            decide ((n : Int) < 13) = true ∧
            isB tb ((Int.toNat (n)) * 7 + 5) = true ∧
            (getB tb ((Int.toNat (n)) * 7 + 5) = true →
              R (.tup [.int .i64 (0), .int .i64 (6)]) [some ⟨1, tb⟩, some ⟨1, (rowA sl (0))⟩, some ⟨1, (rowA sl (1))⟩, some ⟨1, (rowA sl (2))⟩, some ⟨1, (rowA sl (3))⟩, some ⟨1, (rowA sl (4))⟩, some ⟨1, (rowA sl (5))⟩, some ⟨1, (rowA sl (6))⟩, some ⟨1, (rowA sl (7))⟩, some ⟨1, (rowA sl (8))⟩, some ⟨1, (rowA sl (9))⟩, some ⟨1, (rowA sl (10))⟩, some ⟨1, (rowA sl (11))⟩, some ⟨1, (rowA sl (12))⟩]) ∧
            (getB tb ((Int.toNat (n)) * 7 + 5) = false →
              (rl) [.agg ([.ptr (.rw 0) (0), .int .i64 (n), .int .i64 (0), .int .i64 (0), .int .i64 (1)] : List AV), .agg ([.tup [.int .i64 (1), .agg tb], .tup [.int .i64 (1), .agg (rowA sl (0))], .tup [.int .i64 (1), .agg (rowA sl (1))], .tup [.int .i64 (1), .agg (rowA sl (2))], .tup [.int .i64 (1), .agg (rowA sl (3))], .tup [.int .i64 (1), .agg (rowA sl (4))], .tup [.int .i64 (1), .agg (rowA sl (5))], .tup [.int .i64 (1), .agg (rowA sl (6))], .tup [.int .i64 (1), .agg (rowA sl (7))], .tup [.int .i64 (1), .agg (rowA sl (8))], .tup [.int .i64 (1), .agg (rowA sl (9))], .tup [.int .i64 (1), .agg (rowA sl (10))], .tup [.int .i64 (1), .agg (rowA sl (11))], .tup [.int .i64 (1), .agg (rowA sl (12))]] : List AV)] = true ∧
              (decide ((((c : Nat) : Int) : Int) > 12) = true →
                R (.tup [.int .i64 (0), .int .i64 (5)]) [some ⟨1, tb⟩, some ⟨1, (rowA sl (0))⟩, some ⟨1, (rowA sl (1))⟩, some ⟨1, (rowA sl (2))⟩, some ⟨1, (rowA sl (3))⟩, some ⟨1, (rowA sl (4))⟩, some ⟨1, (rowA sl (5))⟩, some ⟨1, (rowA sl (6))⟩, some ⟨1, (rowA sl (7))⟩, some ⟨1, (rowA sl (8))⟩, some ⟨1, (rowA sl (9))⟩, some ⟨1, (rowA sl (10))⟩, some ⟨1, (rowA sl (11))⟩, some ⟨1, (rowA sl (12))⟩]) ∧
              (decide ((((c : Nat) : Int) : Int) > 12) = false →
                decide ((0 : Int) ≤ n) = true ∧
                decide ((n : Int) < 13) = true ∧
                leB ((Int.toNat (n)) * 7 + 8) (List.length tb) = true ∧
                cellsB (subL tb ((Int.toNat (n)) * 7 + 1) (7)) = true ∧
                Nat.beq (List.length (subL tb ((Int.toNat (n)) * 7 + 1) (7))) (7) = true ∧
                isI .i64 (subL tb ((Int.toNat (n)) * 7 + 1) (7)) (2) = true ∧
                isI .i64 (subL tb ((Int.toNat (n)) * 7 + 1) (7)) (3) = true ∧
                (isNilA (subL tb ((Int.toNat (n)) * 7 + 1) (7)) (6) = true →
                  False) ∧
                (isNilA (subL tb ((Int.toNat (n)) * 7 + 1) (7)) (6) = false →
                  isPA 1 13 (subL tb ((Int.toNat (n)) * 7 + 1) (7)) (6) = true ∧
                  Nat.beq (foA (subL tb ((Int.toNat (n)) * 7 + 1) (7)) (6)) (0) = true ∧
                  leB (fkA 1 (subL tb ((Int.toNat (n)) * 7 + 1) (7)) (6) + 1) (13) = true ∧
                  rowsA sl [.agg sl, .agg sl, .agg sl, .agg sl, .agg sl, .agg sl, .agg sl, .agg sl, .agg sl, .agg sl, .agg sl, .agg sl, .agg sl] = true ∧
                  leB (fkA 1 (subL tb ((Int.toNat (n)) * 7 + 1) (7)) (6) + 1) (List.length sl) = true ∧
                  okU [.agg (rowA sl (fkA 1 (subL tb ((Int.toNat (n)) * 7 + 1) (7)) (6)))] = true ∧
                  decide ((0 : Int) ≤ ((c : Nat) : Int)) = true ∧
                  decide ((((c : Nat) : Int) : Int) < 13) = true ∧
                  leB ((c) * 7 + 8) (List.length tb) = true ∧
                  R (.tup [.int .i64 (((c : Nat) : Int)), .int .i64 (0)]) [some ⟨1, (setPart tb ((c) * 7 + 1) (.agg ([.int .i64 (((c : Nat) : Int)), .int .i64 (n), .int .i64 (getI (subL tb ((Int.toNat (n)) * 7 + 1) (7)) (2)), .int .i64 (getI (subL tb ((Int.toNat (n)) * 7 + 1) (7)) (3)), .bool (false), .int .i64 (0), .ptr (.rw 15) (0)] : List AV)))⟩, some ⟨1, (rowA sl (0))⟩, some ⟨1, (rowA sl (1))⟩, some ⟨1, (rowA sl (2))⟩, some ⟨1, (rowA sl (3))⟩, some ⟨1, (rowA sl (4))⟩, some ⟨1, (rowA sl (5))⟩, some ⟨1, (rowA sl (6))⟩, some ⟨1, (rowA sl (7))⟩, some ⟨1, (rowA sl (8))⟩, some ⟨1, (rowA sl (9))⟩, some ⟨1, (rowA sl (10))⟩, some ⟨1, (rowA sl (11))⟩, some ⟨1, (rowA sl (12))⟩, some ⟨1, (subL tb ((Int.toNat (n)) * 7 + 1) (7))⟩, some ⟨1, (childU [.agg (rowA sl (fkA 1 (subL tb ((Int.toNat (n)) * 7 + 1) (7)) (6)))])⟩])))) ∧
          (((getI tb ((Int.toNat (n)) * 7 + 1) : Int) == n) = false →
            R (.tup [.int .i64 (0), .int .i64 (6)]) [some ⟨1, tb⟩, some ⟨1, (rowA sl (0))⟩, some ⟨1, (rowA sl (1))⟩, some ⟨1, (rowA sl (2))⟩, some ⟨1, (rowA sl (3))⟩, some ⟨1, (rowA sl (4))⟩, some ⟨1, (rowA sl (5))⟩, some ⟨1, (rowA sl (6))⟩, some ⟨1, (rowA sl (7))⟩, some ⟨1, (rowA sl (8))⟩, some ⟨1, (rowA sl (9))⟩, some ⟨1, (rowA sl (10))⟩, some ⟨1, (rowA sl (11))⟩, some ⟨1, (rowA sl (12))⟩])) ∧
        (decide ((n : Int) ≤ 12) = false →
          R (.tup [.int .i64 (0), .int .i64 (6)]) [some ⟨1, tb⟩, some ⟨1, (rowA sl (0))⟩, some ⟨1, (rowA sl (1))⟩, some ⟨1, (rowA sl (2))⟩, some ⟨1, (rowA sl (3))⟩, some ⟨1, (rowA sl (4))⟩, some ⟨1, (rowA sl (5))⟩, some ⟨1, (rowA sl (6))⟩, some ⟨1, (rowA sl (7))⟩, some ⟨1, (rowA sl (8))⟩, some ⟨1, (rowA sl (9))⟩, some ⟨1, (rowA sl (10))⟩, some ⟨1, (rowA sl (11))⟩, some ⟨1, (rowA sl (12))⟩])) ∧
      (decide ((n : Int) ≥ 1) = false →
        R (.tup [.int .i64 (0), .int .i64 (6)]) [some ⟨1, tb⟩, some ⟨1, (rowA sl (0))⟩, some ⟨1, (rowA sl (1))⟩, some ⟨1, (rowA sl (2))⟩, some ⟨1, (rowA sl (3))⟩, some ⟨1, (rowA sl (4))⟩, some ⟨1, (rowA sl (5))⟩, some ⟨1, (rowA sl (6))⟩, some ⟨1, (rowA sl (7))⟩, some ⟨1, (rowA sl (8))⟩, some ⟨1, (rowA sl (9))⟩, some ⟨1, (rowA sl (10))⟩, some ⟨1, (rowA sl (11))⟩, some ⟨1, (rowA sl (12))⟩])) ∧
    (getB tb (0) = false →
      R (.tup [.int .i64 (0), .int .i64 (1)]) [some ⟨1, tb⟩, some ⟨1, (rowA sl (0))⟩, some ⟨1, (rowA sl (1))⟩, some ⟨1, (rowA sl (2))⟩, some ⟨1, (rowA sl (3))⟩, some ⟨1, (rowA sl (4))⟩, some ⟨1, (rowA sl (5))⟩, some ⟨1, (rowA sl (6))⟩, some ⟨1, (rowA sl (7))⟩, some ⟨1, (rowA sl (8))⟩, some ⟨1, (rowA sl (9))⟩, some ⟨1, (rowA sl (10))⟩, some ⟨1, (rowA sl (11))⟩, some ⟨1, (rowA sl (12))⟩])) := by kernel_rfl
def lowF (s : Ptb) : Nat := (((List.range 12).find? fun (j : Nat) => !isP s ((j : Int) + 1)).getD 12) + 1
theorem f_loop (G : Nat → List AV) (B : Nat) {s : Ptb} (n : Int) : AWp (⟨Try.prog, G, B⟩ : Ctx) 14 (.loop (loopN Try.f26 0)) (fl 50 [0, 1, 4, 5, 7] [.ptr (.rw 0) 0, .int .i64 n, .int .i64 0, .int .i64 0, .int .i64 1]) (vHp G [some ⟨1, .var 1 (encT 1 s)⟩, some ⟨1, .row (.var 2 (setsL encP s)) (.lit 0)⟩, some ⟨1, .row (.var 2 (setsL encP s)) (.lit 1)⟩, some ⟨1, .row (.var 2 (setsL encP s)) (.lit 2)⟩, some ⟨1, .row (.var 2 (setsL encP s)) (.lit 3)⟩, some ⟨1, .row (.var 2 (setsL encP s)) (.lit 4)⟩, some ⟨1, .row (.var 2 (setsL encP s)) (.lit 5)⟩, some ⟨1, .row (.var 2 (setsL encP s)) (.lit 6)⟩, some ⟨1, .row (.var 2 (setsL encP s)) (.lit 7)⟩, some ⟨1, .row (.var 2 (setsL encP s)) (.lit 8)⟩, some ⟨1, .row (.var 2 (setsL encP s)) (.lit 9)⟩, some ⟨1, .row (.var 2 (setsL encP s)) (.lit 10)⟩, some ⟨1, .row (.var 2 (setsL encP s)) (.lit 11)⟩, some ⟨1, .row (.var 2 (setsL encP s)) (.lit 12)⟩]) (lv 50 [0, 1, 4, 5, 7] (LOut.post G 14 (.one (.exit 0) [.ptr (.rw 0) (.lit 0), .int .i64 (.var 3 n), .int .i64 (.lit 0), .int .i64 (.lit 0), .int .i64 (.ofN (.var 6 (lowF s)))] [some ⟨1, .var 1 (encT 1 s)⟩, some ⟨1, .row (.var 2 (setsL encP s)) (.lit 0)⟩, some ⟨1, .row (.var 2 (setsL encP s)) (.lit 1)⟩, some ⟨1, .row (.var 2 (setsL encP s)) (.lit 2)⟩, some ⟨1, .row (.var 2 (setsL encP s)) (.lit 3)⟩, some ⟨1, .row (.var 2 (setsL encP s)) (.lit 4)⟩, some ⟨1, .row (.var 2 (setsL encP s)) (.lit 5)⟩, some ⟨1, .row (.var 2 (setsL encP s)) (.lit 6)⟩, some ⟨1, .row (.var 2 (setsL encP s)) (.lit 7)⟩, some ⟨1, .row (.var 2 (setsL encP s)) (.lit 8)⟩, some ⟨1, .row (.var 2 (setsL encP s)) (.lit 9)⟩, some ⟨1, .row (.var 2 (setsL encP s)) (.lit 10)⟩, some ⟨1, .row (.var 2 (setsL encP s)) (.lit 11)⟩, some ⟨1, .row (.var 2 (setsL encP s)) (.lit 12)⟩]))) := by
  refine scanP (fun i => ∀ j, j < i → isP s ((j : Int) + 1) = true) 12 (fun i => [.ptr (.rw 0) 0, .int .i64 n, .int .i64 0, .int .i64 0, .int .i64 ((i : Int) + 1)]) (fun _ => vHp G [some ⟨1, .var 1 (encT 1 s)⟩, some ⟨1, .row (.var 2 (setsL encP s)) (.lit 0)⟩, some ⟨1, .row (.var 2 (setsL encP s)) (.lit 1)⟩, some ⟨1, .row (.var 2 (setsL encP s)) (.lit 2)⟩, some ⟨1, .row (.var 2 (setsL encP s)) (.lit 3)⟩, some ⟨1, .row (.var 2 (setsL encP s)) (.lit 4)⟩, some ⟨1, .row (.var 2 (setsL encP s)) (.lit 5)⟩, some ⟨1, .row (.var 2 (setsL encP s)) (.lit 6)⟩, some ⟨1, .row (.var 2 (setsL encP s)) (.lit 7)⟩, some ⟨1, .row (.var 2 (setsL encP s)) (.lit 8)⟩, some ⟨1, .row (.var 2 (setsL encP s)) (.lit 9)⟩, some ⟨1, .row (.var 2 (setsL encP s)) (.lit 10)⟩, some ⟨1, .row (.var 2 (setsL encP s)) (.lit 11)⟩, some ⟨1, .row (.var 2 (setsL encP s)) (.lit 12)⟩]) (fun j h => by omega) fun i hi hP => ?_
  refine dloop_ok (C := (⟨Try.prog, G, B⟩ : Ctx)) (K := Dc Try.prog [36, 39] [] [] 0) (dgood (mix G B) (by kernel_rfl) .nil .nil) (fuel := 300) (n0 := 40) (m := 14) (c := loopN Try.f26 0)
    (vs := [.ptr (.rw 0) (.lit 0), .int .i64 (.var 3 n), .int .i64 (.lit 0), .int .i64 (.lit 0), .int .i64 (.var 4 ((i : Int) + 1))]) (H := [some ⟨1, .var 1 (encT 1 s)⟩, some ⟨1, .row (.var 2 (setsL encP s)) (.lit 0)⟩, some ⟨1, .row (.var 2 (setsL encP s)) (.lit 1)⟩, some ⟨1, .row (.var 2 (setsL encP s)) (.lit 2)⟩, some ⟨1, .row (.var 2 (setsL encP s)) (.lit 3)⟩, some ⟨1, .row (.var 2 (setsL encP s)) (.lit 4)⟩, some ⟨1, .row (.var 2 (setsL encP s)) (.lit 5)⟩, some ⟨1, .row (.var 2 (setsL encP s)) (.lit 6)⟩, some ⟨1, .row (.var 2 (setsL encP s)) (.lit 7)⟩, some ⟨1, .row (.var 2 (setsL encP s)) (.lit 8)⟩, some ⟨1, .row (.var 2 (setsL encP s)) (.lit 9)⟩, some ⟨1, .row (.var 2 (setsL encP s)) (.lit 10)⟩, some ⟨1, .row (.var 2 (setsL encP s)) (.lit 11)⟩, some ⟨1, .row (.var 2 (setsL encP s)) (.lit 12)⟩]) (by simp) ?_
  rw [f_b]
  have out : lowF s = i + 1 → LOut.post G 14 (.one (.exit 0) [.ptr (.rw 0) (.lit 0), .int .i64 (.var 3 n), .int .i64 (.lit 0), .int .i64 (.lit 0), .int .i64 (.ofN (.var 6 (lowF s)))] [some ⟨1, .var 1 (encT 1 s)⟩, some ⟨1, .row (.var 2 (setsL encP s)) (.lit 0)⟩, some ⟨1, .row (.var 2 (setsL encP s)) (.lit 1)⟩, some ⟨1, .row (.var 2 (setsL encP s)) (.lit 2)⟩, some ⟨1, .row (.var 2 (setsL encP s)) (.lit 3)⟩, some ⟨1, .row (.var 2 (setsL encP s)) (.lit 4)⟩, some ⟨1, .row (.var 2 (setsL encP s)) (.lit 5)⟩, some ⟨1, .row (.var 2 (setsL encP s)) (.lit 6)⟩, some ⟨1, .row (.var 2 (setsL encP s)) (.lit 7)⟩, some ⟨1, .row (.var 2 (setsL encP s)) (.lit 8)⟩, some ⟨1, .row (.var 2 (setsL encP s)) (.lit 9)⟩, some ⟨1, .row (.var 2 (setsL encP s)) (.lit 10)⟩, some ⟨1, .row (.var 2 (setsL encP s)) (.lit 11)⟩, some ⟨1, .row (.var 2 (setsL encP s)) (.lit 12)⟩]) (.exit 0) [.ptr (.rw 0) 0, .int .i64 n, .int .i64 0, .int .i64 0, .int .i64 ((i : Int) + 1)] (vHp G [some ⟨1, .var 1 (encT 1 s)⟩, some ⟨1, .row (.var 2 (setsL encP s)) (.lit 0)⟩, some ⟨1, .row (.var 2 (setsL encP s)) (.lit 1)⟩, some ⟨1, .row (.var 2 (setsL encP s)) (.lit 2)⟩, some ⟨1, .row (.var 2 (setsL encP s)) (.lit 3)⟩, some ⟨1, .row (.var 2 (setsL encP s)) (.lit 4)⟩, some ⟨1, .row (.var 2 (setsL encP s)) (.lit 5)⟩, some ⟨1, .row (.var 2 (setsL encP s)) (.lit 6)⟩, some ⟨1, .row (.var 2 (setsL encP s)) (.lit 7)⟩, some ⟨1, .row (.var 2 (setsL encP s)) (.lit 8)⟩, some ⟨1, .row (.var 2 (setsL encP s)) (.lit 9)⟩, some ⟨1, .row (.var 2 (setsL encP s)) (.lit 10)⟩, some ⟨1, .row (.var 2 (setsL encP s)) (.lit 11)⟩, some ⟨1, .row (.var 2 (setsL encP s)) (.lit 12)⟩]) := fun e => by
    refine ⟨rfl, .inl ⟨?_, rfl⟩⟩
    rw [e]
    simp [wk, vVs, vV, vR, vN, vI]
  have low : i < 12 → isP s ((i : Int) + 1) = false → lowF s = i + 1 := fun h12 h0 => by
    unfold lowF
    have := find_at (l := List.range 12) (p := fun (j : Nat) => !isP s ((j : Int) + 1)) (i := i) (by simpa using h12) (by simp [h0]) (fun j hj hji => by
      simp only [List.getElem_range]
      rw [hP j hji]; rfl)
    rw [this]
    simp
  refine ⟨fun h => ⟨rfl, fun _ => ⟨fun h1 => ?_, fun h1 => absurd (of_decide_eq_false h1) (by omega)⟩, fun h0 => by cases h0⟩, fun h => out ?_⟩
  · have h12 : i < 12 := by have := of_decide_eq_true h; omega
    have t := T_num (b := 1) (s := s) (n := i + 1) (by omega)
    rw [show Int.toNat ((i : Int) + 1) = i + 1 by omega]
    refine ⟨h, decide_eq_true (by omega), decide_eq_true (by omega), t.1, fun h2 => ⟨h12, fun j hj => ?_, .inl ⟨?_, rfl⟩⟩, fun h2 => out (low h12 ?_)⟩
    · by_cases e : j = i
      · subst e
        rw [t.2] at h2
        exact isP_iff.2 ⟨by omega, by omega, by rw [show Int.toNat ((j : Int) + 1) = j + 1 by omega]; exact eq_of_beq h2⟩
      · exact hP j (by omega)
    · rw [i64_in (by omega)]; rfl
    · rw [t.2] at h2
      cases e : isP s ((i : Int) + 1) with
      | false => rfl
      | true =>
        have := (isP_iff.1 e).2.2
        rw [show Int.toNat ((i : Int) + 1) = i + 1 by omega] at this
        rw [this, beq_self_eq_true] at h2; cases h2
  · have he : i = 12 := by have := of_decide_eq_false h; omega
    subst he
    unfold lowF
    rw [find_none fun j hj => by
      simp only [List.length_range] at hj
      simp only [List.getElem_range]
      rw [hP j hj]; rfl]
    rfl
def childOf (p : Sg) : Sg := setW p 0#32
def forkP (s : Ptb) (n : Int) (c : Nat) : Pc := ⟨(c : Int), n, (s.at_ n.toNat).grp, (s.at_ n.toNat).usr, false, 0⟩
def forkX (s : Ptb) (n : Int) (c : Nat) : Ptb := ⟨fun j => if j = c then forkP s n c else s.at_ j, fun j => if j = c then some (childOf (sgD s n.toNat)) else s.sg j⟩
def forkR (s : Ptb) (n : Int) : (Int × Int) × Ptb :=
  if live s n = true then
    if 12 < lowF s then ((0, 5), s) else (((lowF s : Int), 0), forkX s n (lowF s))
  else ((0, 6), s)
theorem lowF_spec {s : Ptb} (hw : Wf s) : lowF s ≤ 13 ∧ (lowF s ≤ 12 → lowF s ≠ 1 ∧ 1 ≤ lowF s ∧ isP s (lowF s : Int) = false) := by
  unfold lowF
  cases h : (List.range 12).find? fun (j : Nat) => !isP s ((j : Int) + 1) with
  | none => exact ⟨Nat.le_refl _, fun h => absurd h (by simp)⟩
  | some j =>
    have h1 := List.mem_range.1 (List.mem_of_find?_eq_some h)
    have h2 := List.find?_some h
    simp only [Bool.not_eq_true'] at h2
    simp only [Option.getD_some]
    refine ⟨by omega, fun _ => ⟨fun e => ?_, by omega, by rw [show ((j + 1 : Nat) : Int) = (j : Int) + 1 by omega]; exact h2⟩⟩
    have : j = 0 := by omega
    subst this
    have : isP s 1 = true := isP_iff.2 ⟨by omega, by omega, hw.one.1⟩
    rw [show (((0 : Nat) : Int) + 1) = 1 from rfl] at h2
    rw [this] at h2; cases h2
theorem Wf.forkX {s : Ptb} (h : Wf s) {n : Int} (hl : live s n = true) {c : Nat} (h1 : c ≠ 1) (h2 : 1 ≤ c) (h3 : c ≤ 12) : Wf (forkX s n c) := by
  have hl' := live_iff.1 hl
  refine ⟨fun j hj => ?_, fun j => ?_, ?_⟩
  · obtain ⟨b1, b2⟩ := h.z j hj
    show (if j = c then forkP s n c else s.at_ j) = zc ∧ (if j = c then some (childOf (sgD s n.toNat)) else s.sg j) = none
    rw [if_neg (by omega), if_neg (by omega)]; exact ⟨b1, b2⟩
  · show ((if j = c then forkP s n c else s.at_ j) = zc ∧ (if j = c then some (childOf (sgD s n.toNat)) else s.sg j) = none) ∨ ((if j = c then forkP s n c else s.at_ j).num = (j : Int) ∧ 1 ≤ j ∧ j ≤ 12 ∧ (if j = c then some (childOf (sgD s n.toNat)) else s.sg j).isSome = true ∧ 1 ≤ (if j = c then forkP s n c else s.at_ j).grp ∧ (if j = c then forkP s n c else s.at_ j).grp ≤ 12)
    by_cases e : j = c
    · subst e
      rw [if_pos rfl, if_pos rfl]
      exact .inr ⟨rfl, h2, h3, rfl, h.grp (by omega)⟩
    · rw [if_neg e, if_neg e]; exact h.p j
  · show (if 1 = c then forkP s n c else s.at_ 1).num = 1 ∧ (if 1 = c then forkP s n c else s.at_ 1).par = 0
    rw [if_neg (fun e => h1 e.symm)]; exact h.one
theorem Wf.forkR {s : Ptb} (h : Wf s) (n : Int) : Wf (forkR s n).2 := by
  unfold Go.Am.forkR
  split
  · rename_i hl
    split
    · exact h
    · obtain ⟨_, a2⟩ := lowF_spec h
      obtain ⟨b1, b2, _⟩ := a2 (by omega)
      exact h.forkX hl b1 b2 (by omega)
  · exact h
end Go.Am
