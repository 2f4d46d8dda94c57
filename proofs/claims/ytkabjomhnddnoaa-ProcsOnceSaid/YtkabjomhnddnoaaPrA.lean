/-
  Processes: the program's calls without loops.
-/
import Derived.Test.YtkabjomhnddnoaaBase8
import Derived.Test.YtkabjomhnddnoaaPsTk
namespace Go.Am
open Go.Proofs Crc
set_option maxRecDepth 100000
theorem q28 (G : Nat → List AV) (tb sl : List AV) (n a : Int) (Q : Ex → List AV → Hp → Prop) (R : AV → Hp → Prop) : vT G Q R (dcall (Df Try.prog [(48, 1, 13)] [36, 38, 39, 20] [] [] 0) 300 20 Try.f28 [.ptr (.rw 0) (.lit 0), .int .i64 (.var 3 n), .int .i64 (.var 4 a)] [some ⟨1, .var 1 tb⟩, some ⟨1, .row (.var 2 sl) (.lit 0)⟩, some ⟨1, .row (.var 2 sl) (.lit 1)⟩, some ⟨1, .row (.var 2 sl) (.lit 2)⟩, some ⟨1, .row (.var 2 sl) (.lit 3)⟩, some ⟨1, .row (.var 2 sl) (.lit 4)⟩, some ⟨1, .row (.var 2 sl) (.lit 5)⟩, some ⟨1, .row (.var 2 sl) (.lit 6)⟩, some ⟨1, .row (.var 2 sl) (.lit 7)⟩, some ⟨1, .row (.var 2 sl) (.lit 8)⟩, some ⟨1, .row (.var 2 sl) (.lit 9)⟩, some ⟨1, .row (.var 2 sl) (.lit 10)⟩, some ⟨1, .row (.var 2 sl) (.lit 11)⟩, some ⟨1, .row (.var 2 sl) (.lit 12)⟩] 14) = (
    isB tb (0) = true ∧
    (getB tb (0) = true →
      isB tb (0) = true ∧
      getB tb (0) = true ∧
      (decide ((n : Int) ≥ 1) = true →
        (decide ((n : Int) ≤ 12) = true →
          decide ((0 : Int) ≤ n) = true ∧
          decide ((n : Int) < 13) = true ∧
          isI .i64 tb ((Int.toNat (n)) * 7 + 1) = true ∧
          (((getI tb ((Int.toNat (n)) * 7 + 1) : Int) == n) = true →
            decide ((0 : Int) ≤ n) = true ∧
            decide ((n : Int) < 13) = true ∧
            isB tb ((Int.toNat (n)) * 7 + 5) = true ∧
            (getB tb ((Int.toNat (n)) * 7 + 5) = true →
              R (.int .i64 (6)) [some ⟨1, tb⟩, some ⟨1, (rowA sl (0))⟩, some ⟨1, (rowA sl (1))⟩, some ⟨1, (rowA sl (2))⟩, some ⟨1, (rowA sl (3))⟩, some ⟨1, (rowA sl (4))⟩, some ⟨1, (rowA sl (5))⟩, some ⟨1, (rowA sl (6))⟩, some ⟨1, (rowA sl (7))⟩, some ⟨1, (rowA sl (8))⟩, some ⟨1, (rowA sl (9))⟩, some ⟨1, (rowA sl (10))⟩, some ⟨1, (rowA sl (11))⟩, some ⟨1, (rowA sl (12))⟩]) ∧
            (getB tb ((Int.toNat (n)) * 7 + 5) = false →
              (decide ((a : Int) < 1) = true →
                R (.int .i64 (2)) [some ⟨1, tb⟩, some ⟨1, (rowA sl (0))⟩, some ⟨1, (rowA sl (1))⟩, some ⟨1, (rowA sl (2))⟩, some ⟨1, (rowA sl (3))⟩, some ⟨1, (rowA sl (4))⟩, some ⟨1, (rowA sl (5))⟩, some ⟨1, (rowA sl (6))⟩, some ⟨1, (rowA sl (7))⟩, some ⟨1, (rowA sl (8))⟩, some ⟨1, (rowA sl (9))⟩, some ⟨1, (rowA sl (10))⟩, some ⟨1, (rowA sl (11))⟩, some ⟨1, (rowA sl (12))⟩]) ∧
              (decide ((a : Int) < 1) = false →
                (decide ((a : Int) > 12) = true →
                  R (.int .i64 (2)) [some ⟨1, tb⟩, some ⟨1, (rowA sl (0))⟩, some ⟨1, (rowA sl (1))⟩, some ⟨1, (rowA sl (2))⟩, some ⟨1, (rowA sl (3))⟩, some ⟨1, (rowA sl (4))⟩, some ⟨1, (rowA sl (5))⟩, some ⟨1, (rowA sl (6))⟩, some ⟨1, (rowA sl (7))⟩, some ⟨1, (rowA sl (8))⟩, some ⟨1, (rowA sl (9))⟩, some ⟨1, (rowA sl (10))⟩, some ⟨1, (rowA sl (11))⟩, some ⟨1, (rowA sl (12))⟩]) ∧
                (decide ((a : Int) > 12) = false →
                  decide ((0 : Int) ≤ n) = true ∧
                  decide ((n : Int) < 13) = true ∧
                  leB ((Int.toNat (n)) * 7 + 4) (List.length tb) = true ∧
                  R (.int .i64 (0)) [some ⟨1, (setPart tb ((Int.toNat (n)) * 7 + 3) (.int .i64 (a)))⟩, some ⟨1, (rowA sl (0))⟩, some ⟨1, (rowA sl (1))⟩, some ⟨1, (rowA sl (2))⟩, some ⟨1, (rowA sl (3))⟩, some ⟨1, (rowA sl (4))⟩, some ⟨1, (rowA sl (5))⟩, some ⟨1, (rowA sl (6))⟩, some ⟨1, (rowA sl (7))⟩, some ⟨1, (rowA sl (8))⟩, some ⟨1, (rowA sl (9))⟩, some ⟨1, (rowA sl (10))⟩, some ⟨1, (rowA sl (11))⟩, some ⟨1, (rowA sl (12))⟩])))) ∧
          (((getI tb ((Int.toNat (n)) * 7 + 1) : Int) == n) = false →
            R (.int .i64 (6)) [some ⟨1, tb⟩, some ⟨1, (rowA sl (0))⟩, some ⟨1, (rowA sl (1))⟩, some ⟨1, (rowA sl (2))⟩, some ⟨1, (rowA sl (3))⟩, some ⟨1, (rowA sl (4))⟩, some ⟨1, (rowA sl (5))⟩, some ⟨1, (rowA sl (6))⟩, some ⟨1, (rowA sl (7))⟩, some ⟨1, (rowA sl (8))⟩, some ⟨1, (rowA sl (9))⟩, some ⟨1, (rowA sl (10))⟩, some ⟨1, (rowA sl (11))⟩, some ⟨1, (rowA sl (12))⟩])) ∧
        (decide ((n : Int) ≤ 12) = false →
          R (.int .i64 (6)) [some ⟨1, tb⟩, some ⟨1, (rowA sl (0))⟩, some ⟨1, (rowA sl (1))⟩, some ⟨1, (rowA sl (2))⟩, some ⟨1, (rowA sl (3))⟩, some ⟨1, (rowA sl (4))⟩, some ⟨1, (rowA sl (5))⟩, some ⟨1, (rowA sl (6))⟩, some ⟨1, (rowA sl (7))⟩, some ⟨1, (rowA sl (8))⟩, some ⟨1, (rowA sl (9))⟩, some ⟨1, (rowA sl (10))⟩, some ⟨1, (rowA sl (11))⟩, some ⟨1, (rowA sl (12))⟩])) ∧
      (decide ((n : Int) ≥ 1) = false →
        R (.int .i64 (6)) [some ⟨1, tb⟩, some ⟨1, (rowA sl (0))⟩, some ⟨1, (rowA sl (1))⟩, some ⟨1, (rowA sl (2))⟩, some ⟨1, (rowA sl (3))⟩, some ⟨1, (rowA sl (4))⟩, some ⟨1, (rowA sl (5))⟩, some ⟨1, (rowA sl (6))⟩, some ⟨1, (rowA sl (7))⟩, some ⟨1, (rowA sl (8))⟩, some ⟨1, (rowA sl (9))⟩, some ⟨1, (rowA sl (10))⟩, some ⟨1, (rowA sl (11))⟩, some ⟨1, (rowA sl (12))⟩])) ∧
    (getB tb (0) = false →
      R (.int .i64 (1)) [some ⟨1, tb⟩, some ⟨1, (rowA sl (0))⟩, some ⟨1, (rowA sl (1))⟩, some ⟨1, (rowA sl (2))⟩, some ⟨1, (rowA sl (3))⟩, some ⟨1, (rowA sl (4))⟩, some ⟨1, (rowA sl (5))⟩, some ⟨1, (rowA sl (6))⟩, some ⟨1, (rowA sl (7))⟩, some ⟨1, (rowA sl (8))⟩, some ⟨1, (rowA sl (9))⟩, some ⟨1, (rowA sl (10))⟩, some ⟨1, (rowA sl (11))⟩, some ⟨1, (rowA sl (12))⟩])) := by kernel_rfl
theorem q32 (G : Nat → List AV) (tb sl : List AV) (n a : Int) (Q : Ex → List AV → Hp → Prop) (R : AV → Hp → Prop) : vT G Q R (dcall (Df Try.prog [(48, 1, 13)] [36, 38, 39, 20] [] [] 0) 300 20 Try.f32 [.ptr (.rw 0) (.lit 0), .int .i64 (.var 3 n), .int .i64 (.var 4 a)] [some ⟨1, .var 1 tb⟩, some ⟨1, .row (.var 2 sl) (.lit 0)⟩, some ⟨1, .row (.var 2 sl) (.lit 1)⟩, some ⟨1, .row (.var 2 sl) (.lit 2)⟩, some ⟨1, .row (.var 2 sl) (.lit 3)⟩, some ⟨1, .row (.var 2 sl) (.lit 4)⟩, some ⟨1, .row (.var 2 sl) (.lit 5)⟩, some ⟨1, .row (.var 2 sl) (.lit 6)⟩, some ⟨1, .row (.var 2 sl) (.lit 7)⟩, some ⟨1, .row (.var 2 sl) (.lit 8)⟩, some ⟨1, .row (.var 2 sl) (.lit 9)⟩, some ⟨1, .row (.var 2 sl) (.lit 10)⟩, some ⟨1, .row (.var 2 sl) (.lit 11)⟩, some ⟨1, .row (.var 2 sl) (.lit 12)⟩] 14) = (
    isB tb (0) = true ∧
    (getB tb (0) = true →
      isB tb (0) = true ∧
      getB tb (0) = true ∧
      (decide ((n : Int) ≥ 1) = true →
        (decide ((n : Int) ≤ 12) = true →
          decide ((0 : Int) ≤ n) = true ∧
          decide ((n : Int) < 13) = true ∧
          isI .i64 tb ((Int.toNat (n)) * 7 + 1) = true ∧
          (((getI tb ((Int.toNat (n)) * 7 + 1) : Int) == n) = true →
            decide ((0 : Int) ≤ n) = true ∧
            decide ((n : Int) < 13) = true ∧
            isB tb ((Int.toNat (n)) * 7 + 5) = true ∧
            (getB tb ((Int.toNat (n)) * 7 + 5) = true →
              R (.int .i64 (6)) [some ⟨1, tb⟩, some ⟨1, (rowA sl (0))⟩, some ⟨1, (rowA sl (1))⟩, some ⟨1, (rowA sl (2))⟩, some ⟨1, (rowA sl (3))⟩, some ⟨1, (rowA sl (4))⟩, some ⟨1, (rowA sl (5))⟩, some ⟨1, (rowA sl (6))⟩, some ⟨1, (rowA sl (7))⟩, some ⟨1, (rowA sl (8))⟩, some ⟨1, (rowA sl (9))⟩, some ⟨1, (rowA sl (10))⟩, some ⟨1, (rowA sl (11))⟩, some ⟨1, (rowA sl (12))⟩]) ∧
            (getB tb ((Int.toNat (n)) * 7 + 5) = false →
              (((a : Int) == IntKind.wrap .i64 (IntKind.wrap .u16 (a))) = true →
                decide ((0 : Int) ≤ n) = true ∧
                decide ((n : Int) < 13) = true ∧
                isI .i64 tb ((Int.toNat (n)) * 7 + 4) = true ∧
                (((getI tb ((Int.toNat (n)) * 7 + 4) : Int) == 0) = true →
                  decide ((0 : Int) ≤ n) = true ∧
                  decide ((n : Int) < 13) = true ∧
                  leB ((Int.toNat (n)) * 7 + 5) (List.length tb) = true ∧
                  R (.int .i64 (0)) [some ⟨1, (setPart tb ((Int.toNat (n)) * 7 + 4) (.int .i64 (a)))⟩, some ⟨1, (rowA sl (0))⟩, some ⟨1, (rowA sl (1))⟩, some ⟨1, (rowA sl (2))⟩, some ⟨1, (rowA sl (3))⟩, some ⟨1, (rowA sl (4))⟩, some ⟨1, (rowA sl (5))⟩, some ⟨1, (rowA sl (6))⟩, some ⟨1, (rowA sl (7))⟩, some ⟨1, (rowA sl (8))⟩, some ⟨1, (rowA sl (9))⟩, some ⟨1, (rowA sl (10))⟩, some ⟨1, (rowA sl (11))⟩, some ⟨1, (rowA sl (12))⟩]) ∧
                (((getI tb ((Int.toNat (n)) * 7 + 4) : Int) == 0) = false →
                  R (.int .i64 (8)) [some ⟨1, tb⟩, some ⟨1, (rowA sl (0))⟩, some ⟨1, (rowA sl (1))⟩, some ⟨1, (rowA sl (2))⟩, some ⟨1, (rowA sl (3))⟩, some ⟨1, (rowA sl (4))⟩, some ⟨1, (rowA sl (5))⟩, some ⟨1, (rowA sl (6))⟩, some ⟨1, (rowA sl (7))⟩, some ⟨1, (rowA sl (8))⟩, some ⟨1, (rowA sl (9))⟩, some ⟨1, (rowA sl (10))⟩, some ⟨1, (rowA sl (11))⟩, some ⟨1, (rowA sl (12))⟩])) ∧
              (((a : Int) == IntKind.wrap .i64 (IntKind.wrap .u16 (a))) = false →
                R (.int .i64 (2)) [some ⟨1, tb⟩, some ⟨1, (rowA sl (0))⟩, some ⟨1, (rowA sl (1))⟩, some ⟨1, (rowA sl (2))⟩, some ⟨1, (rowA sl (3))⟩, some ⟨1, (rowA sl (4))⟩, some ⟨1, (rowA sl (5))⟩, some ⟨1, (rowA sl (6))⟩, some ⟨1, (rowA sl (7))⟩, some ⟨1, (rowA sl (8))⟩, some ⟨1, (rowA sl (9))⟩, some ⟨1, (rowA sl (10))⟩, some ⟨1, (rowA sl (11))⟩, some ⟨1, (rowA sl (12))⟩]))) ∧
          (((getI tb ((Int.toNat (n)) * 7 + 1) : Int) == n) = false →
            R (.int .i64 (6)) [some ⟨1, tb⟩, some ⟨1, (rowA sl (0))⟩, some ⟨1, (rowA sl (1))⟩, some ⟨1, (rowA sl (2))⟩, some ⟨1, (rowA sl (3))⟩, some ⟨1, (rowA sl (4))⟩, some ⟨1, (rowA sl (5))⟩, some ⟨1, (rowA sl (6))⟩, some ⟨1, (rowA sl (7))⟩, some ⟨1, (rowA sl (8))⟩, some ⟨1, (rowA sl (9))⟩, some ⟨1, (rowA sl (10))⟩, some ⟨1, (rowA sl (11))⟩, some ⟨1, (rowA sl (12))⟩])) ∧
        (decide ((n : Int) ≤ 12) = false →
          R (.int .i64 (6)) [some ⟨1, tb⟩, some ⟨1, (rowA sl (0))⟩, some ⟨1, (rowA sl (1))⟩, some ⟨1, (rowA sl (2))⟩, some ⟨1, (rowA sl (3))⟩, some ⟨1, (rowA sl (4))⟩, some ⟨1, (rowA sl (5))⟩, some ⟨1, (rowA sl (6))⟩, some ⟨1, (rowA sl (7))⟩, some ⟨1, (rowA sl (8))⟩, some ⟨1, (rowA sl (9))⟩, some ⟨1, (rowA sl (10))⟩, some ⟨1, (rowA sl (11))⟩, some ⟨1, (rowA sl (12))⟩])) ∧
      (decide ((n : Int) ≥ 1) = false →
        R (.int .i64 (6)) [some ⟨1, tb⟩, some ⟨1, (rowA sl (0))⟩, some ⟨1, (rowA sl (1))⟩, some ⟨1, (rowA sl (2))⟩, some ⟨1, (rowA sl (3))⟩, some ⟨1, (rowA sl (4))⟩, some ⟨1, (rowA sl (5))⟩, some ⟨1, (rowA sl (6))⟩, some ⟨1, (rowA sl (7))⟩, some ⟨1, (rowA sl (8))⟩, some ⟨1, (rowA sl (9))⟩, some ⟨1, (rowA sl (10))⟩, some ⟨1, (rowA sl (11))⟩, some ⟨1, (rowA sl (12))⟩])) ∧
    (getB tb (0) = false →
      R (.int .i64 (1)) [some ⟨1, tb⟩, some ⟨1, (rowA sl (0))⟩, some ⟨1, (rowA sl (1))⟩, some ⟨1, (rowA sl (2))⟩, some ⟨1, (rowA sl (3))⟩, some ⟨1, (rowA sl (4))⟩, some ⟨1, (rowA sl (5))⟩, some ⟨1, (rowA sl (6))⟩, some ⟨1, (rowA sl (7))⟩, some ⟨1, (rowA sl (8))⟩, some ⟨1, (rowA sl (9))⟩, some ⟨1, (rowA sl (10))⟩, some ⟨1, (rowA sl (11))⟩, some ⟨1, (rowA sl (12))⟩])) := by kernel_rfl
theorem q16 (G : Nat → List AV) (tb sl : List AV) (n : Int) (Q : Ex → List AV → Hp → Prop) (R : AV → Hp → Prop) : vT G Q R (dcall (Df Try.prog [(48, 1, 13)] [36, 38, 39, 20] [] [] 0) 300 20 Try.f16 [.ptr (.rw 0) (.lit 0), .int .i64 (.var 3 n)] [some ⟨1, .var 1 tb⟩, some ⟨1, .row (.var 2 sl) (.lit 0)⟩, some ⟨1, .row (.var 2 sl) (.lit 1)⟩, some ⟨1, .row (.var 2 sl) (.lit 2)⟩, some ⟨1, .row (.var 2 sl) (.lit 3)⟩, some ⟨1, .row (.var 2 sl) (.lit 4)⟩, some ⟨1, .row (.var 2 sl) (.lit 5)⟩, some ⟨1, .row (.var 2 sl) (.lit 6)⟩, some ⟨1, .row (.var 2 sl) (.lit 7)⟩, some ⟨1, .row (.var 2 sl) (.lit 8)⟩, some ⟨1, .row (.var 2 sl) (.lit 9)⟩, some ⟨1, .row (.var 2 sl) (.lit 10)⟩, some ⟨1, .row (.var 2 sl) (.lit 11)⟩, some ⟨1, .row (.var 2 sl) (.lit 12)⟩] 14) = (
    isB tb (0) = true ∧
    (getB tb (0) = true →
      (decide ((n : Int) ≥ 1) = true →
        (decide ((n : Int) ≤ 12) = true →
          decide ((0 : Int) ≤ n) = true ∧
          decide ((n : Int) < 13) = true ∧
          isI .i64 tb ((Int.toNat (n)) * 7 + 1) = true ∧
          (((getI tb ((Int.toNat (n)) * 7 + 1) : Int) == n) = true →
            decide ((0 : Int) ≤ n) = true ∧
            decide ((n : Int) < 13) = true ∧
            leB ((Int.toNat (n)) * 7 + 7) (List.length tb) = true ∧
            cellsB (subL tb ((Int.toNat (n)) * 7 + 1) (6)) = true ∧
            Nat.beq (List.length (subL tb ((Int.toNat (n)) * 7 + 1) (6))) (6) = true ∧
            leB (6) (List.length (subL tb ((Int.toNat (n)) * 7 + 1) (6))) = true ∧
            R (.tup [.agg (subL (subL tb ((Int.toNat (n)) * 7 + 1) (6)) (0) (6)), .bool (true)]) [some ⟨1, tb⟩, some ⟨1, (rowA sl (0))⟩, some ⟨1, (rowA sl (1))⟩, some ⟨1, (rowA sl (2))⟩, some ⟨1, (rowA sl (3))⟩, some ⟨1, (rowA sl (4))⟩, some ⟨1, (rowA sl (5))⟩, some ⟨1, (rowA sl (6))⟩, some ⟨1, (rowA sl (7))⟩, some ⟨1, (rowA sl (8))⟩, some ⟨1, (rowA sl (9))⟩, some ⟨1, (rowA sl (10))⟩, some ⟨1, (rowA sl (11))⟩, some ⟨1, (rowA sl (12))⟩]) ∧
          (((getI tb ((Int.toNat (n)) * 7 + 1) : Int) == n) = false →
            R (.tup [.agg ([.int .i64 (0), .int .i64 (0), .int .i64 (0), .int .i64 (0), .bool (false), .int .i64 (0)] : List AV), .bool (false)]) [some ⟨1, tb⟩, some ⟨1, (rowA sl (0))⟩, some ⟨1, (rowA sl (1))⟩, some ⟨1, (rowA sl (2))⟩, some ⟨1, (rowA sl (3))⟩, some ⟨1, (rowA sl (4))⟩, some ⟨1, (rowA sl (5))⟩, some ⟨1, (rowA sl (6))⟩, some ⟨1, (rowA sl (7))⟩, some ⟨1, (rowA sl (8))⟩, some ⟨1, (rowA sl (9))⟩, some ⟨1, (rowA sl (10))⟩, some ⟨1, (rowA sl (11))⟩, some ⟨1, (rowA sl (12))⟩])) ∧
        (decide ((n : Int) ≤ 12) = false →
          R (.tup [.agg ([.int .i64 (0), .int .i64 (0), .int .i64 (0), .int .i64 (0), .bool (false), .int .i64 (0)] : List AV), .bool (false)]) [some ⟨1, tb⟩, some ⟨1, (rowA sl (0))⟩, some ⟨1, (rowA sl (1))⟩, some ⟨1, (rowA sl (2))⟩, some ⟨1, (rowA sl (3))⟩, some ⟨1, (rowA sl (4))⟩, some ⟨1, (rowA sl (5))⟩, some ⟨1, (rowA sl (6))⟩, some ⟨1, (rowA sl (7))⟩, some ⟨1, (rowA sl (8))⟩, some ⟨1, (rowA sl (9))⟩, some ⟨1, (rowA sl (10))⟩, some ⟨1, (rowA sl (11))⟩, some ⟨1, (rowA sl (12))⟩])) ∧
      (decide ((n : Int) ≥ 1) = false →
        R (.tup [.agg ([.int .i64 (0), .int .i64 (0), .int .i64 (0), .int .i64 (0), .bool (false), .int .i64 (0)] : List AV), .bool (false)]) [some ⟨1, tb⟩, some ⟨1, (rowA sl (0))⟩, some ⟨1, (rowA sl (1))⟩, some ⟨1, (rowA sl (2))⟩, some ⟨1, (rowA sl (3))⟩, some ⟨1, (rowA sl (4))⟩, some ⟨1, (rowA sl (5))⟩, some ⟨1, (rowA sl (6))⟩, some ⟨1, (rowA sl (7))⟩, some ⟨1, (rowA sl (8))⟩, some ⟨1, (rowA sl (9))⟩, some ⟨1, (rowA sl (10))⟩, some ⟨1, (rowA sl (11))⟩, some ⟨1, (rowA sl (12))⟩])) ∧
    (getB tb (0) = false →
      R (.tup [.agg ([.int .i64 (0), .int .i64 (0), .int .i64 (0), .int .i64 (0), .bool (false), .int .i64 (0)] : List AV), .bool (false)]) [some ⟨1, tb⟩, some ⟨1, (rowA sl (0))⟩, some ⟨1, (rowA sl (1))⟩, some ⟨1, (rowA sl (2))⟩, some ⟨1, (rowA sl (3))⟩, some ⟨1, (rowA sl (4))⟩, some ⟨1, (rowA sl (5))⟩, some ⟨1, (rowA sl (6))⟩, some ⟨1, (rowA sl (7))⟩, some ⟨1, (rowA sl (8))⟩, some ⟨1, (rowA sl (9))⟩, some ⟨1, (rowA sl (10))⟩, some ⟨1, (rowA sl (11))⟩, some ⟨1, (rowA sl (12))⟩])) := by kernel_rfl
theorem hT (G : Nat → List AV) (s : Ptb) : vHp G [some ⟨1, .var 1 (encT 1 s)⟩, some ⟨1, .row (.var 2 (setsL encP s)) (.lit 0)⟩, some ⟨1, .row (.var 2 (setsL encP s)) (.lit 1)⟩, some ⟨1, .row (.var 2 (setsL encP s)) (.lit 2)⟩, some ⟨1, .row (.var 2 (setsL encP s)) (.lit 3)⟩, some ⟨1, .row (.var 2 (setsL encP s)) (.lit 4)⟩, some ⟨1, .row (.var 2 (setsL encP s)) (.lit 5)⟩, some ⟨1, .row (.var 2 (setsL encP s)) (.lit 6)⟩, some ⟨1, .row (.var 2 (setsL encP s)) (.lit 7)⟩, some ⟨1, .row (.var 2 (setsL encP s)) (.lit 8)⟩, some ⟨1, .row (.var 2 (setsL encP s)) (.lit 9)⟩, some ⟨1, .row (.var 2 (setsL encP s)) (.lit 10)⟩, some ⟨1, .row (.var 2 (setsL encP s)) (.lit 11)⟩, some ⟨1, .row (.var 2 (setsL encP s)) (.lit 12)⟩] = can tsP s := hp_can (t := tsP) (s := s)
theorem isP_tree (b : Nat) {s : Ptb} {n : Int} {A B : Prop} (h1 : isP s n = true → A) (h2 : isP s n = false → B) :
    (decide (n ≥ 1) = true → (decide (n ≤ 12) = true → decide ((0 : Int) ≤ n) = true ∧ decide ((n : Int) < 13) = true ∧ isI .i64 (encT b s) (n.toNat * 7 + 1) = true ∧ ((getI (encT b s) (n.toNat * 7 + 1) == n) = true → A) ∧ ((getI (encT b s) (n.toNat * 7 + 1) == n) = false → B)) ∧ (decide (n ≤ 12) = false → B)) ∧ (decide (n ≥ 1) = false → B) := by
  have ff : ¬ (1 ≤ n ∧ n ≤ 12 ∧ (s.at_ n.toNat).num = n) → isP s n = false := fun h => by
    cases e : isP s n with
    | false => rfl
    | true => exact absurd (isP_iff.1 e) h
  refine ⟨fun a1 => ⟨fun a2 => ?_, fun a2 => h2 (ff fun h => ?_)⟩, fun a1 => h2 (ff fun h => ?_)⟩
  · have a1 := of_decide_eq_true a1
    have a2 := of_decide_eq_true a2
    have t := T_num (b := b) (s := s) (n := n.toNat) (by omega)
    refine ⟨decide_eq_true (by omega), decide_eq_true (by omega), t.1, fun h => h1 (isP_iff.2 ⟨by omega, a2, ?_⟩), fun h => h2 (ff fun h' => ?_)⟩
    · rw [t.2] at h; exact eq_of_beq h
    · rw [t.2, h'.2.2, beq_self_eq_true] at h; cases h
  · have := of_decide_eq_false a2; omega
  · have := of_decide_eq_false a1; omega
theorem live_tree (b : Nat) {s : Ptb} {n : Int} {A B : Prop} (h1 : live s n = true → A) (h2 : live s n = false → B) :
    (decide (n ≥ 1) = true → (decide (n ≤ 12) = true → decide ((0 : Int) ≤ n) = true ∧ decide ((n : Int) < 13) = true ∧ isI .i64 (encT b s) (n.toNat * 7 + 1) = true ∧
      ((getI (encT b s) (n.toNat * 7 + 1) == n) = true → decide ((0 : Int) ≤ n) = true ∧ decide ((n : Int) < 13) = true ∧ isB (encT b s) (n.toNat * 7 + 5) = true ∧ (getB (encT b s) (n.toNat * 7 + 5) = true → B) ∧ (getB (encT b s) (n.toNat * 7 + 5) = false → A)) ∧
      ((getI (encT b s) (n.toNat * 7 + 1) == n) = false → B)) ∧ (decide (n ≤ 12) = false → B)) ∧ (decide (n ≥ 1) = false → B) := by
  refine isP_tree b (fun h => ?_) fun h => h2 (by unfold live; rw [h]; rfl)
  obtain ⟨a1, a2, a3⟩ := isP_iff.1 h
  have t := T_en (b := b) (s := s) (n := n.toNat) (by omega)
  refine ⟨decide_eq_true (by omega), decide_eq_true (by omega), t.1, fun h' => h2 ?_, fun h' => h1 ?_⟩
  · rw [t.2] at h'; unfold live; rw [h, h']; rfl
  · rw [t.2] at h'; unfold live; rw [h, h']; rfl
theorem dgM {G : Nat → List AV} {B : Nat} {fn : Func} {sums : List (Nat × DSum)} (h : loopsOf (bodyOf fn) = []) (hs : DSumsOk (⟨Try.prog, G, B⟩ : Ctx) sums) : DGood (⟨Try.prog, G, B⟩ : Ctx) (Df Try.prog [(48, 1, 13)] [36, 38, 39, 20] sums [] 0) (loopsOf (bodyOf fn)) := by
  rw [h]; exact dgoodf (mix G B) (by kernel_rfl) hs .nil
theorem m_stay (G : Nat → List AV) (B : Nat) {f : FuncId} {fn : Func} {sums : List (Nat × DSum)} {s s' : Ptb} {rest : List EV} {v : AV} (hl : loopsOf (bodyOf fn) = []) (hs : DSumsOk (⟨Try.prog, G, B⟩ : Ctx) sums) (hf : Try.prog.funcs[f]? = some fn) (hb : fn.body = some (bodyOf fn)) (hn : (fn.name == "runtime.NumGoroutine") = false) (hv : bnd 0 v = true)
    (h : vT G (fun _ _ _ => False) (fun v' H' => v' = v ∧ Seen tsP s' 13 H') (dcall (Df Try.prog [(48, 1, 13)] [36, 38, 39, 20] sums [] 0) 300 20 fn (.ptr (.rw 0) (.lit 0) :: rest) [some ⟨1, .var 1 (encT 1 s)⟩, some ⟨1, .row (.var 2 (setsL encP s)) (.lit 0)⟩, some ⟨1, .row (.var 2 (setsL encP s)) (.lit 1)⟩, some ⟨1, .row (.var 2 (setsL encP s)) (.lit 2)⟩, some ⟨1, .row (.var 2 (setsL encP s)) (.lit 3)⟩, some ⟨1, .row (.var 2 (setsL encP s)) (.lit 4)⟩, some ⟨1, .row (.var 2 (setsL encP s)) (.lit 5)⟩, some ⟨1, .row (.var 2 (setsL encP s)) (.lit 6)⟩, some ⟨1, .row (.var 2 (setsL encP s)) (.lit 7)⟩, some ⟨1, .row (.var 2 (setsL encP s)) (.lit 8)⟩, some ⟨1, .row (.var 2 (setsL encP s)) (.lit 9)⟩, some ⟨1, .row (.var 2 (setsL encP s)) (.lit 10)⟩, some ⟨1, .row (.var 2 (setsL encP s)) (.lit 11)⟩, some ⟨1, .row (.var 2 (setsL encP s)) (.lit 12)⟩] 14)) :
    ACalls (⟨Try.prog, G, B⟩ : Ctx) f (.ptr (.rw 0) 0 :: vVs G rest) (can tsP s) fun v' H' => v' = v ∧ H' = can tsP s' := by
  have := dcall_ok (C := (⟨Try.prog, G, B⟩ : Ctx)) (f := f) (R := fun v' H' => v' = v ∧ Seen tsP s' 13 H') (dgM (B := B) hl hs) hf hb hn h
  rw [hT] at this
  exact pm_stay tsP_ok this hv
theorem seen_same {s : Ptb} : Seen tsP s 13 (some ⟨1, encT 1 s⟩ :: (List.range 13).map fun n => some ⟨1, rowA (setsL encP s) n⟩) := seen_rows (t := tsP) rfl tsP_ok (sets_same (t := tsP) (s := s) fun _ _ h => h)
theorem seen_updC {s : Ptb} {c : Nat} {x : Pc} {l : List AV} (h : l = encT 1 (updC s c x)) : Seen tsP (updC s c x) 13 (some ⟨1, l⟩ :: (List.range 13).map fun n => some ⟨1, rowA (setsL encP s) n⟩) := seen_rows (t := tsP) h tsP_ok (sets_same (t := tsP) (s := s) fun _ _ h => h)
theorem p_group (G : Nat → List AV) (B : Nat) {s : Ptb} (n a : Int) : ACalls (⟨Try.prog, G, B⟩ : Ctx) 28 [.ptr (.rw 0) 0, .int .i64 n, .int .i64 a] (can tsP s) fun v H' => v = .int .i64 (groupE s n a) ∧ H' = can tsP (groupX s n a) := by
  refine m_stay G B (fn := Try.f28) (rest := [.int .i64 (.var 3 n), .int .i64 (.var 4 a)]) (by kernel_rfl) .nil (by kernel_rfl) (by kernel_rfl) (by kernel_rfl) rfl ?_
  rw [q28]
  refine ⟨rfl, fun _ => ⟨rfl, rfl, live_tree 1 (fun hl => ?_) fun hl => ?_⟩, fun h => by cases h⟩
  · have h := live_iff.1 hl
    refine ⟨fun h1 => ?_, fun h1 => ⟨fun h2 => ?_, fun h2 => ⟨decide_eq_true (by omega), decide_eq_true (by omega), leB_iff.2 (by rw [encT_len]; omega), ?_⟩⟩⟩
    · have h1 := of_decide_eq_true h1
      unfold groupE groupX
      rw [if_pos hl, if_pos hl, if_pos (by omega), if_pos (by omega)]; exact ⟨rfl, seen_same⟩
    · have h2 := of_decide_eq_true h2
      unfold groupE groupX
      rw [if_pos hl, if_pos hl, if_pos (by omega), if_pos (by omega)]; exact ⟨rfl, seen_same⟩
    · have h1 := of_decide_eq_false h1
      have h2 := of_decide_eq_false h2
      unfold groupE groupX
      rw [if_pos hl, if_pos hl, if_neg (by omega), if_neg (by omega)]
      exact ⟨rfl, seen_updC (T_set (k := 2) (by omega) (by intro l h; cases h) (fun j hj => by
        match j, hj with
        | 0, _ | 1, _ | 2, _ | 3, _ | 4, _ | 5, _ | 6, _ => rfl))⟩
  · unfold groupE groupX
    rw [hl]; exact ⟨rfl, seen_same⟩
theorem fam_facts {s : Ptb} {n : Nat} {p : Sg} (hn : n < 13) (hp : s.sg n = some p) : isNilA (encT 1 s) (n * 7 + 7) = false ∧ isPA 1 13 (encT 1 s) (n * 7 + 7) = true ∧ fkA 1 (encT 1 s) (n * 7 + 7) = n ∧ foA (encT 1 s) (n * 7 + 7) = 0 ∧ rowA (setsL encP s) n = encP p := by
  have h := T_ptr (b := 1) (s := s) hn
  have e := ptr_fam hn h (by rw [hp]; rfl)
  exact ⟨by rw [ptr_nil h, hp]; rfl, e.1, e.2.1, e.2.2, by rw [rowA_sets hn, hp]; rfl⟩
theorem u16_in {a : Int} : (a == IntKind.wrap .i64 (IntKind.wrap .u16 a)) = decide (0 ≤ a ∧ a ≤ 65535) := by
  have e : IntKind.wrap .u16 a = a % 65536 := rfl
  rw [e, i64_in (by omega), Bool.eq_iff_iff, beq_iff_eq, decide_eq_true_iff]
  omega
theorem p_user (G : Nat → List AV) (B : Nat) {s : Ptb} (n a : Int) : ACalls (⟨Try.prog, G, B⟩ : Ctx) 32 [.ptr (.rw 0) 0, .int .i64 n, .int .i64 a] (can tsP s) fun v H' => v = .int .i64 (userE s n a) ∧ H' = can tsP (userX s n a) := by
  refine m_stay G B (fn := Try.f32) (rest := [.int .i64 (.var 3 n), .int .i64 (.var 4 a)]) (by kernel_rfl) .nil (by kernel_rfl) (by kernel_rfl) (by kernel_rfl) rfl ?_
  rw [q32, u16_in]
  refine ⟨rfl, fun _ => ⟨rfl, rfl, live_tree 1 (fun hl => ?_) fun hl => ?_⟩, fun h => by cases h⟩
  · have h := live_iff.1 hl
    have t := T_usr (b := 1) (s := s) (n := n.toNat) (by omega)
    refine ⟨fun h1 => ⟨decide_eq_true (by omega), decide_eq_true (by omega), t.1, fun h2 => ⟨decide_eq_true (by omega), decide_eq_true (by omega), leB_iff.2 (by rw [encT_len]; omega), ?_⟩, fun h2 => ?_⟩, fun h1 => ?_⟩
    · have h1 := of_decide_eq_true h1
      rw [t.2] at h2
      have h2 := eq_of_beq h2
      unfold userE userX
      have hr : ¬ (a < 0 ∨ 65535 < a) := by omega
      rw [if_pos hl, if_pos hl, if_neg hr, if_neg hr, if_pos h2, if_pos h2]
      exact ⟨rfl, seen_updC (T_set (k := 3) (by omega) (by intro l h; cases h) (fun j hj => by
        match j, hj with
        | 0, _ | 1, _ | 2, _ | 3, _ | 4, _ | 5, _ | 6, _ => rfl))⟩
    · have h1 := of_decide_eq_true h1
      rw [t.2] at h2
      have h2 : ¬ (s.at_ n.toNat).usr = 0 := fun e => by rw [e] at h2; cases h2
      unfold userE userX
      have hr : ¬ (a < 0 ∨ 65535 < a) := by omega
      rw [if_pos hl, if_pos hl, if_neg hr, if_neg hr, if_neg h2, if_neg h2]
      exact ⟨rfl, seen_same⟩
    · have h1 := of_decide_eq_false h1
      unfold userE userX
      rw [if_pos hl, if_pos hl, if_pos (by omega), if_pos (by omega)]; exact ⟨rfl, seen_same⟩
  · unfold userE userX
    rw [hl]; exact ⟨rfl, seen_same⟩
theorem p_tell (G : Nat → List AV) (B : Nat) {s : Ptb} (n : Int) : ACalls (⟨Try.prog, G, B⟩ : Ctx) 16 [.ptr (.rw 0) 0, .int .i64 n] (can tsP s) fun v H' => v = .tup [.agg (rowU (tellX s n)), .bool (isP s n)] ∧ H' = can tsP s := by
  refine m_stay G B (fn := Try.f16) (rest := [.int .i64 (.var 3 n)]) (by kernel_rfl) .nil (by kernel_rfl) (by kernel_rfl) (by kernel_rfl) rfl ?_
  rw [q16]
  refine ⟨rfl, fun _ => isP_tree 1 (fun hl => ?_) fun hl => ?_, fun h => by cases h⟩
  · have h := isP_iff.1 hl
    have e : subL (encT 1 s) (n.toNat * 7 + 1) 6 = rowU (s.at_ n.toNat) := by
      have r := T_row (b := 1) (s := s) (n := n.toNat) (by omega)
      have : subL (encT 1 s) (n.toNat * 7 + 1) 6 = (subL (encT 1 s) (n.toNat * 7 + 1) 7).take 6 := by unfold subL; rw [List.take_take]; rfl
      rw [this, r]; rfl
    rw [e]
    refine ⟨decide_eq_true (by omega), decide_eq_true (by omega), leB_iff.2 (by rw [encT_len]; omega), rfl, rfl, rfl, ?_⟩
    unfold tellX
    rw [if_pos hl, hl]
    exact ⟨rfl, seen_same⟩
  · unfold tellX
    rw [hl]; exact ⟨rfl, seen_same⟩
end Go.Am
