/-
  Processes: the program's Copy: trees.
-/
import Derived.Test.YtkabjomhnddnoaaPrV
import Derived.Test.YtkabjomhnddnoaaPrG
namespace Go.Am
open Go.Proofs Crc
set_option maxRecDepth 100000
def HCd (T1 S1 T2 S2 : EL) : DHp := [some ⟨1, T1⟩, some ⟨1, .row S1 (.lit 0)⟩, some ⟨1, .row S1 (.lit 1)⟩, some ⟨1, .row S1 (.lit 2)⟩, some ⟨1, .row S1 (.lit 3)⟩, some ⟨1, .row S1 (.lit 4)⟩, some ⟨1, .row S1 (.lit 5)⟩, some ⟨1, .row S1 (.lit 6)⟩, some ⟨1, .row S1 (.lit 7)⟩, some ⟨1, .row S1 (.lit 8)⟩, some ⟨1, .row S1 (.lit 9)⟩, some ⟨1, .row S1 (.lit 10)⟩, some ⟨1, .row S1 (.lit 11)⟩, some ⟨1, .row S1 (.lit 12)⟩, some ⟨1, T2⟩, some ⟨1, .row S2 (.lit 0)⟩, some ⟨1, .row S2 (.lit 1)⟩, some ⟨1, .row S2 (.lit 2)⟩, some ⟨1, .row S2 (.lit 3)⟩, some ⟨1, .row S2 (.lit 4)⟩, some ⟨1, .row S2 (.lit 5)⟩, some ⟨1, .row S2 (.lit 6)⟩, some ⟨1, .row S2 (.lit 7)⟩, some ⟨1, .row S2 (.lit 8)⟩, some ⟨1, .row S2 (.lit 9)⟩, some ⟨1, .row S2 (.lit 10)⟩, some ⟨1, .row S2 (.lit 11)⟩, some ⟨1, .row S2 (.lit 12)⟩]
theorem cp_b (G : Nat → List AV) (tb sl tc sc : List AV) (i : Nat) (Q : Ex → List AV → Hp → Prop) (R : AV → Hp → Prop) : vT G Q R (dloop (Df Try.prog [(48, 1, 13)] [36, 37, 55] [(37, fCopyS sideP)] [] 0) 300 20 15 (loopN Try.f12 0) 27 [0, 2, 3, 11] [.ptr (.rw 0) (.lit 0), .nilp, .ptr (.rw 14) (.lit 0), .int .i64 (.ofN (.var 8 i))] (HCd (.var 1 tb) (.var 2 sl) (.var 21 tc) (.var 22 sc))) = (
    (decide ((((i : Nat) : Int) : Int) < 13) = true →
      decide ((0 : Int) ≤ ((i : Nat) : Int)) = true ∧
      decide ((((i : Nat) : Int) : Int) < 13) = true ∧
      (isNilA tb ((i) * 7 + 7) = true →
        decide ((0 : Int) ≤ ((i : Nat) : Int)) = true ∧
        decide ((((i : Nat) : Int) : Int) < 13) = true ∧
        leB ((i) * 7 + 8) (List.length tc) = true ∧
        Q .normal [.ptr (.rw 0) (0), .nilp, .ptr (.rw 14) (0), .int .i64 (IntKind.wrap .i64 (((i : Nat) : Int) + 1))] [some ⟨1, tb⟩, some ⟨1, (rowA sl (0))⟩, some ⟨1, (rowA sl (1))⟩, some ⟨1, (rowA sl (2))⟩, some ⟨1, (rowA sl (3))⟩, some ⟨1, (rowA sl (4))⟩, some ⟨1, (rowA sl (5))⟩, some ⟨1, (rowA sl (6))⟩, some ⟨1, (rowA sl (7))⟩, some ⟨1, (rowA sl (8))⟩, some ⟨1, (rowA sl (9))⟩, some ⟨1, (rowA sl (10))⟩, some ⟨1, (rowA sl (11))⟩, some ⟨1, (rowA sl (12))⟩, some ⟨1, (setPart tc ((i) * 7 + 7) (.nilp))⟩, some ⟨1, (rowA sc (0))⟩, some ⟨1, (rowA sc (1))⟩, some ⟨1, (rowA sc (2))⟩, some ⟨1, (rowA sc (3))⟩, some ⟨1, (rowA sc (4))⟩, some ⟨1, (rowA sc (5))⟩, some ⟨1, (rowA sc (6))⟩, some ⟨1, (rowA sc (7))⟩, some ⟨1, (rowA sc (8))⟩, some ⟨1, (rowA sc (9))⟩, some ⟨1, (rowA sc (10))⟩, some ⟨1, (rowA sc (11))⟩, some ⟨1, (rowA sc (12))⟩]) ∧
      (isNilA tb ((i) * 7 + 7) = false →
        isPA 1 13 tb ((i) * 7 + 7) = true ∧
        leB (fkA 1 tb ((i) * 7 + 7) + 1) (13) = true ∧
        rowsA sl [.agg sl, .agg sl, .agg sl, .agg sl, .agg sl, .agg sl, .agg sl, .agg sl, .agg sl, .agg sl, .agg sl, .agg sl, .agg sl] = true ∧
        isB (rowA sl (fkA 1 tb ((i) * 7 + 7))) (foA tb ((i) * 7 + 7)) = true ∧
        (getB (rowA sl (fkA 1 tb ((i) * 7 + 7))) (foA tb ((i) * 7 + 7)) = true →
          leB (fkA 1 tb ((i) * 7 + 7) + 1) (13) = true ∧
          rowsA sl [.agg sl, .agg sl, .agg sl, .agg sl, .agg sl, .agg sl, .agg sl, .agg sl, .agg sl, .agg sl, .agg sl, .agg sl, .agg sl] = true ∧
          leB (foA tb ((i) * 7 + 7) + 19) (List.length (rowA sl (fkA 1 tb ((i) * 7 + 7)))) = true ∧
          cellsB (subL (rowA sl (fkA 1 tb ((i) * 7 + 7))) (foA tb ((i) * 7 + 7)) (19)) = true ∧
          Nat.beq (List.length (subL (rowA sl (fkA 1 tb ((i) * 7 + 7))) (foA tb ((i) * 7 + 7)) (19))) (19) = true ∧
          decide ((0 : Int) ≤ ((i : Nat) : Int)) = true ∧
          decide ((((i : Nat) : Int) : Int) < 13) = true ∧
          leB ((i) * 7 + 8) (List.length tc) = true ∧
          Q .normal [.ptr (.rw 0) (0), .nilp, .ptr (.rw 14) (0), .int .i64 (IntKind.wrap .i64 (((i : Nat) : Int) + 1))] [some ⟨1, tb⟩, some ⟨1, (rowA sl (0))⟩, some ⟨1, (rowA sl (1))⟩, some ⟨1, (rowA sl (2))⟩, some ⟨1, (rowA sl (3))⟩, some ⟨1, (rowA sl (4))⟩, some ⟨1, (rowA sl (5))⟩, some ⟨1, (rowA sl (6))⟩, some ⟨1, (rowA sl (7))⟩, some ⟨1, (rowA sl (8))⟩, some ⟨1, (rowA sl (9))⟩, some ⟨1, (rowA sl (10))⟩, some ⟨1, (rowA sl (11))⟩, some ⟨1, (rowA sl (12))⟩, some ⟨1, (setPart tc ((i) * 7 + 7) (.ptr (.rw 28) (0)))⟩, some ⟨1, (rowA sc (0))⟩, some ⟨1, (rowA sc (1))⟩, some ⟨1, (rowA sc (2))⟩, some ⟨1, (rowA sc (3))⟩, some ⟨1, (rowA sc (4))⟩, some ⟨1, (rowA sc (5))⟩, some ⟨1, (rowA sc (6))⟩, some ⟨1, (rowA sc (7))⟩, some ⟨1, (rowA sc (8))⟩, some ⟨1, (rowA sc (9))⟩, some ⟨1, (rowA sc (10))⟩, some ⟨1, (rowA sc (11))⟩, some ⟨1, (rowA sc (12))⟩, some ⟨1, (subL (rowA sl (fkA 1 tb ((i) * 7 + 7))) (foA tb ((i) * 7 + 7)) (19))⟩]) ∧
        (getB (rowA sl (fkA 1 tb ((i) * 7 + 7))) (foA tb ((i) * 7 + 7)) = false →
          decide ((0 : Int) ≤ ((i : Nat) : Int)) = true ∧
          decide ((((i : Nat) : Int) : Int) < 13) = true ∧
          leB ((i) * 7 + 8) (List.length tc) = true ∧
          Q .normal [.ptr (.rw 0) (0), .nilp, .ptr (.rw 14) (0), .int .i64 (IntKind.wrap .i64 (((i : Nat) : Int) + 1))] [some ⟨1, tb⟩, some ⟨1, (rowA sl (0))⟩, some ⟨1, (rowA sl (1))⟩, some ⟨1, (rowA sl (2))⟩, some ⟨1, (rowA sl (3))⟩, some ⟨1, (rowA sl (4))⟩, some ⟨1, (rowA sl (5))⟩, some ⟨1, (rowA sl (6))⟩, some ⟨1, (rowA sl (7))⟩, some ⟨1, (rowA sl (8))⟩, some ⟨1, (rowA sl (9))⟩, some ⟨1, (rowA sl (10))⟩, some ⟨1, (rowA sl (11))⟩, some ⟨1, (rowA sl (12))⟩, some ⟨1, (setPart tc ((i) * 7 + 7) (.nilp))⟩, some ⟨1, (rowA sc (0))⟩, some ⟨1, (rowA sc (1))⟩, some ⟨1, (rowA sc (2))⟩, some ⟨1, (rowA sc (3))⟩, some ⟨1, (rowA sc (4))⟩, some ⟨1, (rowA sc (5))⟩, some ⟨1, (rowA sc (6))⟩, some ⟨1, (rowA sc (7))⟩, some ⟨1, (rowA sc (8))⟩, some ⟨1, (rowA sc (9))⟩, some ⟨1, (rowA sc (10))⟩, some ⟨1, (rowA sc (11))⟩, some ⟨1, (rowA sc (12))⟩]))) ∧
    (decide ((((i : Nat) : Int) : Int) < 13) = false →
      Q (.exit 0) [.ptr (.rw 0) (0), .nilp, .ptr (.rw 14) (0), .int .i64 (((i : Nat) : Int))] [some ⟨1, tb⟩, some ⟨1, (rowA sl (0))⟩, some ⟨1, (rowA sl (1))⟩, some ⟨1, (rowA sl (2))⟩, some ⟨1, (rowA sl (3))⟩, some ⟨1, (rowA sl (4))⟩, some ⟨1, (rowA sl (5))⟩, some ⟨1, (rowA sl (6))⟩, some ⟨1, (rowA sl (7))⟩, some ⟨1, (rowA sl (8))⟩, some ⟨1, (rowA sl (9))⟩, some ⟨1, (rowA sl (10))⟩, some ⟨1, (rowA sl (11))⟩, some ⟨1, (rowA sl (12))⟩, some ⟨1, tc⟩, some ⟨1, (rowA sc (0))⟩, some ⟨1, (rowA sc (1))⟩, some ⟨1, (rowA sc (2))⟩, some ⟨1, (rowA sc (3))⟩, some ⟨1, (rowA sc (4))⟩, some ⟨1, (rowA sc (5))⟩, some ⟨1, (rowA sc (6))⟩, some ⟨1, (rowA sc (7))⟩, some ⟨1, (rowA sc (8))⟩, some ⟨1, (rowA sc (9))⟩, some ⟨1, (rowA sc (10))⟩, some ⟨1, (rowA sc (11))⟩, some ⟨1, (rowA sc (12))⟩])) := by kernel_rfl
theorem cp_c (G : Nat → List AV) (rl : List AV → Bool) (tb sl tc sc : List AV) (Q : Ex → List AV → Hp → Prop) (R : AV → Hp → Prop) : vT G Q R (dcall (Df Try.prog [] [36, 37, 55] [] [DLat 2360 (rl) 0 27 [0, 2, 3, 11] (.one (.exit 0) [.undef, .undef, .ptr (.rw 14) (.lit 0), .undef] (HCd (.var 1 tb) (.var 2 sl) (.var 21 tc) (.var 22 sc)))] 15) 300 20 Try.f12 [.ptr (.rw 0) (.lit 0)] [some ⟨1, .var 1 tb⟩, some ⟨1, .row (.var 2 sl) (.lit 0)⟩, some ⟨1, .row (.var 2 sl) (.lit 1)⟩, some ⟨1, .row (.var 2 sl) (.lit 2)⟩, some ⟨1, .row (.var 2 sl) (.lit 3)⟩, some ⟨1, .row (.var 2 sl) (.lit 4)⟩, some ⟨1, .row (.var 2 sl) (.lit 5)⟩, some ⟨1, .row (.var 2 sl) (.lit 6)⟩, some ⟨1, .row (.var 2 sl) (.lit 7)⟩, some ⟨1, .row (.var 2 sl) (.lit 8)⟩, some ⟨1, .row (.var 2 sl) (.lit 9)⟩, some ⟨1, .row (.var 2 sl) (.lit 10)⟩, some ⟨1, .row (.var 2 sl) (.lit 11)⟩, some ⟨1, .row (.var 2 sl) (.lit 12)⟩] 28) = (
    isB tb (0) = true ∧
    (getB tb (0) = true →
      leB (92) (List.length tb) = true ∧
      cellsB (subL tb (0) (92)) = true ∧
      Nat.beq (List.length (subL tb (0) (92))) (92) = true ∧
      (rl) [.agg ([.ptr (.rw 0) (0), .nilp, .ptr (.rw 14) (0), .int .i64 (0)] : List AV), .agg ([.tup [.int .i64 (1), .agg tb], .tup [.int .i64 (1), .agg (rowA sl (0))], .tup [.int .i64 (1), .agg (rowA sl (1))], .tup [.int .i64 (1), .agg (rowA sl (2))], .tup [.int .i64 (1), .agg (rowA sl (3))], .tup [.int .i64 (1), .agg (rowA sl (4))], .tup [.int .i64 (1), .agg (rowA sl (5))], .tup [.int .i64 (1), .agg (rowA sl (6))], .tup [.int .i64 (1), .agg (rowA sl (7))], .tup [.int .i64 (1), .agg (rowA sl (8))], .tup [.int .i64 (1), .agg (rowA sl (9))], .tup [.int .i64 (1), .agg (rowA sl (10))], .tup [.int .i64 (1), .agg (rowA sl (11))], .tup [.int .i64 (1), .agg (rowA sl (12))], .tup [.int .i64 (1), .agg (subL tb (0) (92))]] : List AV)] = true ∧
      R (.ptr (.rw 14) (0)) [some ⟨1, tb⟩, some ⟨1, (rowA sl (0))⟩, some ⟨1, (rowA sl (1))⟩, some ⟨1, (rowA sl (2))⟩, some ⟨1, (rowA sl (3))⟩, some ⟨1, (rowA sl (4))⟩, some ⟨1, (rowA sl (5))⟩, some ⟨1, (rowA sl (6))⟩, some ⟨1, (rowA sl (7))⟩, some ⟨1, (rowA sl (8))⟩, some ⟨1, (rowA sl (9))⟩, some ⟨1, (rowA sl (10))⟩, some ⟨1, (rowA sl (11))⟩, some ⟨1, (rowA sl (12))⟩, some ⟨1, tc⟩, some ⟨1, (rowA sc (0))⟩, some ⟨1, (rowA sc (1))⟩, some ⟨1, (rowA sc (2))⟩, some ⟨1, (rowA sc (3))⟩, some ⟨1, (rowA sc (4))⟩, some ⟨1, (rowA sc (5))⟩, some ⟨1, (rowA sc (6))⟩, some ⟨1, (rowA sc (7))⟩, some ⟨1, (rowA sc (8))⟩, some ⟨1, (rowA sc (9))⟩, some ⟨1, (rowA sc (10))⟩, some ⟨1, (rowA sc (11))⟩, some ⟨1, (rowA sc (12))⟩]) ∧
    (getB tb (0) = false →
      R (.nilp) [some ⟨1, tb⟩, some ⟨1, (rowA sl (0))⟩, some ⟨1, (rowA sl (1))⟩, some ⟨1, (rowA sl (2))⟩, some ⟨1, (rowA sl (3))⟩, some ⟨1, (rowA sl (4))⟩, some ⟨1, (rowA sl (5))⟩, some ⟨1, (rowA sl (6))⟩, some ⟨1, (rowA sl (7))⟩, some ⟨1, (rowA sl (8))⟩, some ⟨1, (rowA sl (9))⟩, some ⟨1, (rowA sl (10))⟩, some ⟨1, (rowA sl (11))⟩, some ⟨1, (rowA sl (12))⟩])) := by kernel_rfl
end Go.Am
