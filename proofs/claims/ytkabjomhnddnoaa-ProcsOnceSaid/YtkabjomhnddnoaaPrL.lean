/-
  Processes: the program's End: trees.
-/
import Derived.Test.YtkabjomhnddnoaaPrK
namespace Go.Am
open Go.Proofs Crc
set_option maxRecDepth 100000
theorem e_l0 (G : Nat → List AV) (tb sl z ks : List AV) (c i : Nat) (Q : Ex → List AV → Hp → Prop) (R : AV → Hp → Prop) : vT G Q R (dloop (Dc Try.prog [] [] [] 0) 300 40 14 (loopN Try.f27 0) 82 [0, 6, 44, 45, 46] [.ptr (.rw 0) (.lit 0), .int .i64 (.lit 0), .slice true (.rw 15) (.lit 0) (.var 6 c), .int .i64 (.ofN (.var 6 c)), .int .i64 (.ofN (.var 8 i))] [some ⟨1, .var 1 tb⟩, some ⟨1, .row (.var 2 sl) (.lit 0)⟩, some ⟨1, .row (.var 2 sl) (.lit 1)⟩, some ⟨1, .row (.var 2 sl) (.lit 2)⟩, some ⟨1, .row (.var 2 sl) (.lit 3)⟩, some ⟨1, .row (.var 2 sl) (.lit 4)⟩, some ⟨1, .row (.var 2 sl) (.lit 5)⟩, some ⟨1, .row (.var 2 sl) (.lit 6)⟩, some ⟨1, .row (.var 2 sl) (.lit 7)⟩, some ⟨1, .row (.var 2 sl) (.lit 8)⟩, some ⟨1, .row (.var 2 sl) (.lit 9)⟩, some ⟨1, .row (.var 2 sl) (.lit 10)⟩, some ⟨1, .row (.var 2 sl) (.lit 11)⟩, some ⟨1, .row (.var 2 sl) (.lit 12)⟩, some ⟨1, .var 23 z⟩, some ⟨1, .var 22 ks⟩]) = (
    (decide ((((i : Nat) : Int) : Int) < ((c : Nat) : Int)) = true →
      decide ((0 : Int) ≤ ((i : Nat) : Int)) = true ∧
      decide ((((i : Nat) : Int) : Int) < ((c : Nat) : Int)) = true ∧
      isI .i64 ks (i) = true ∧
      decide ((0 : Int) ≤ getI ks (i)) = true ∧
      decide ((getI ks (i) : Int) < 13) = true ∧
      leB ((Int.toNat (getI ks (i))) * 7 + 3) (List.length tb) = true ∧
      Q .normal [.ptr (.rw 0) (0), .int .i64 (0), .slice true (.rw 15) (0) (c), .int .i64 (((c : Nat) : Int)), .int .i64 (IntKind.wrap .i64 (((i : Nat) : Int) + 1))] [some ⟨1, (setPart tb ((Int.toNat (getI ks (i))) * 7 + 2) (.int .i64 (1)))⟩, some ⟨1, (rowA sl (0))⟩, some ⟨1, (rowA sl (1))⟩, some ⟨1, (rowA sl (2))⟩, some ⟨1, (rowA sl (3))⟩, some ⟨1, (rowA sl (4))⟩, some ⟨1, (rowA sl (5))⟩, some ⟨1, (rowA sl (6))⟩, some ⟨1, (rowA sl (7))⟩, some ⟨1, (rowA sl (8))⟩, some ⟨1, (rowA sl (9))⟩, some ⟨1, (rowA sl (10))⟩, some ⟨1, (rowA sl (11))⟩, some ⟨1, (rowA sl (12))⟩, some ⟨1, z⟩, some ⟨1, ks⟩]) ∧
    (decide ((((i : Nat) : Int) : Int) < ((c : Nat) : Int)) = false →
      Q (.exit 0) [.ptr (.rw 0) (0), .int .i64 (0), .slice true (.rw 15) (0) (c), .int .i64 (((c : Nat) : Int)), .int .i64 (((i : Nat) : Int))] [some ⟨1, tb⟩, some ⟨1, (rowA sl (0))⟩, some ⟨1, (rowA sl (1))⟩, some ⟨1, (rowA sl (2))⟩, some ⟨1, (rowA sl (3))⟩, some ⟨1, (rowA sl (4))⟩, some ⟨1, (rowA sl (5))⟩, some ⟨1, (rowA sl (6))⟩, some ⟨1, (rowA sl (7))⟩, some ⟨1, (rowA sl (8))⟩, some ⟨1, (rowA sl (9))⟩, some ⟨1, (rowA sl (10))⟩, some ⟨1, (rowA sl (11))⟩, some ⟨1, (rowA sl (12))⟩, some ⟨1, z⟩, some ⟨1, ks⟩])) := by kernel_rfl
theorem e_l2 (G : Nat → List AV) (tb sl z ks kt : List AV) (c i : Nat) (Q : Ex → List AV → Hp → Prop) (R : AV → Hp → Prop) : vT G Q R (dloop (Dc Try.prog [] [] [] 0) 300 40 14 (loopN Try.f27 1) 82 [0, 6, 61, 62, 63] [.ptr (.rw 0) (.lit 0), .int .i64 (.lit 0), .slice true (.rw 16) (.lit 0) (.var 6 c), .int .i64 (.ofN (.var 6 c)), .int .i64 (.ofN (.var 8 i))] [some ⟨1, .var 1 tb⟩, some ⟨1, .row (.var 2 sl) (.lit 0)⟩, some ⟨1, .row (.var 2 sl) (.lit 1)⟩, some ⟨1, .row (.var 2 sl) (.lit 2)⟩, some ⟨1, .row (.var 2 sl) (.lit 3)⟩, some ⟨1, .row (.var 2 sl) (.lit 4)⟩, some ⟨1, .row (.var 2 sl) (.lit 5)⟩, some ⟨1, .row (.var 2 sl) (.lit 6)⟩, some ⟨1, .row (.var 2 sl) (.lit 7)⟩, some ⟨1, .row (.var 2 sl) (.lit 8)⟩, some ⟨1, .row (.var 2 sl) (.lit 9)⟩, some ⟨1, .row (.var 2 sl) (.lit 10)⟩, some ⟨1, .row (.var 2 sl) (.lit 11)⟩, some ⟨1, .row (.var 2 sl) (.lit 12)⟩, some ⟨1, .var 23 z⟩, some ⟨1, .var 22 ks⟩, some ⟨1, .var 25 kt⟩]) = (
    (decide ((((i : Nat) : Int) : Int) < ((c : Nat) : Int)) = true →
      decide ((0 : Int) ≤ ((i : Nat) : Int)) = true ∧
      decide ((((i : Nat) : Int) : Int) < ((c : Nat) : Int)) = true ∧
      isI .i64 kt (i) = true ∧
      decide ((0 : Int) ≤ getI kt (i)) = true ∧
      decide ((getI kt (i) : Int) < 13) = true ∧
      isB tb ((Int.toNat (getI kt (i))) * 7 + 5) = true ∧
      (getB tb ((Int.toNat (getI kt (i))) * 7 + 5) = true →
        decide ((0 : Int) ≤ getI kt (i)) = true ∧
        decide ((getI kt (i) : Int) < 13) = true ∧
        leB ((Int.toNat (getI kt (i))) * 7 + 8) (List.length tb) = true ∧
        Q .normal [.ptr (.rw 0) (0), .int .i64 (0), .slice true (.rw 16) (0) (c), .int .i64 (((c : Nat) : Int)), .int .i64 (IntKind.wrap .i64 (((i : Nat) : Int) + 1))] [some ⟨1, (setPart tb ((Int.toNat (getI kt (i))) * 7 + 1) (.agg ([.int .i64 (0), .int .i64 (0), .int .i64 (0), .int .i64 (0), .bool (false), .int .i64 (0), .nilp] : List AV)))⟩, some ⟨1, (rowA sl (0))⟩, some ⟨1, (rowA sl (1))⟩, some ⟨1, (rowA sl (2))⟩, some ⟨1, (rowA sl (3))⟩, some ⟨1, (rowA sl (4))⟩, some ⟨1, (rowA sl (5))⟩, some ⟨1, (rowA sl (6))⟩, some ⟨1, (rowA sl (7))⟩, some ⟨1, (rowA sl (8))⟩, some ⟨1, (rowA sl (9))⟩, some ⟨1, (rowA sl (10))⟩, some ⟨1, (rowA sl (11))⟩, some ⟨1, (rowA sl (12))⟩, some ⟨1, z⟩, some ⟨1, ks⟩, some ⟨1, kt⟩]) ∧
      (getB tb ((Int.toNat (getI kt (i))) * 7 + 5) = false →
        Q .normal [.ptr (.rw 0) (0), .int .i64 (0), .slice true (.rw 16) (0) (c), .int .i64 (((c : Nat) : Int)), .int .i64 (IntKind.wrap .i64 (((i : Nat) : Int) + 1))] [some ⟨1, tb⟩, some ⟨1, (rowA sl (0))⟩, some ⟨1, (rowA sl (1))⟩, some ⟨1, (rowA sl (2))⟩, some ⟨1, (rowA sl (3))⟩, some ⟨1, (rowA sl (4))⟩, some ⟨1, (rowA sl (5))⟩, some ⟨1, (rowA sl (6))⟩, some ⟨1, (rowA sl (7))⟩, some ⟨1, (rowA sl (8))⟩, some ⟨1, (rowA sl (9))⟩, some ⟨1, (rowA sl (10))⟩, some ⟨1, (rowA sl (11))⟩, some ⟨1, (rowA sl (12))⟩, some ⟨1, z⟩, some ⟨1, ks⟩, some ⟨1, kt⟩])) ∧
    (decide ((((i : Nat) : Int) : Int) < ((c : Nat) : Int)) = false →
      Q (.exit 2) [.ptr (.rw 0) (0), .int .i64 (0), .slice true (.rw 16) (0) (c), .int .i64 (((c : Nat) : Int)), .int .i64 (((i : Nat) : Int))] [some ⟨1, tb⟩, some ⟨1, (rowA sl (0))⟩, some ⟨1, (rowA sl (1))⟩, some ⟨1, (rowA sl (2))⟩, some ⟨1, (rowA sl (3))⟩, some ⟨1, (rowA sl (4))⟩, some ⟨1, (rowA sl (5))⟩, some ⟨1, (rowA sl (6))⟩, some ⟨1, (rowA sl (7))⟩, some ⟨1, (rowA sl (8))⟩, some ⟨1, (rowA sl (9))⟩, some ⟨1, (rowA sl (10))⟩, some ⟨1, (rowA sl (11))⟩, some ⟨1, (rowA sl (12))⟩, some ⟨1, z⟩, some ⟨1, ks⟩, some ⟨1, kt⟩])) := by kernel_rfl
theorem e_c (G : Nat → List AV) (k15 k14 rl rm : List AV → Bool) (tb sl z ks kt t2 t3 : List AV) (n a : Int) (Q : Ex → List AV → Hp → Prop) (R : AV → Hp → Prop) : vT G Q R (dcall (Df Try.prog [(48, 1, 13)] [36, 38, 39, 20] [(31, kidsQ k15 k14), (58, fChildS sideP)] [DLat 2340 (rl) 0 82 [0, 6, 44, 45, 46] (.one (.exit 0) [.ptr (.rw 0) (.lit 0), .int .i64 (.lit 0), .undef, .undef, .undef] [some ⟨1, .var 21 t2⟩, some ⟨1, .row (.var 2 sl) (.lit 0)⟩, some ⟨1, .row (.var 2 sl) (.lit 1)⟩, some ⟨1, .row (.var 2 sl) (.lit 2)⟩, some ⟨1, .row (.var 2 sl) (.lit 3)⟩, some ⟨1, .row (.var 2 sl) (.lit 4)⟩, some ⟨1, .row (.var 2 sl) (.lit 5)⟩, some ⟨1, .row (.var 2 sl) (.lit 6)⟩, some ⟨1, .row (.var 2 sl) (.lit 7)⟩, some ⟨1, .row (.var 2 sl) (.lit 8)⟩, some ⟨1, .row (.var 2 sl) (.lit 9)⟩, some ⟨1, .row (.var 2 sl) (.lit 10)⟩, some ⟨1, .row (.var 2 sl) (.lit 11)⟩, some ⟨1, .row (.var 2 sl) (.lit 12)⟩, some ⟨1, .var 23 z⟩, some ⟨1, .var 22 ks⟩]), DLat 2341 (rm) 2 82 [0, 6, 61, 62, 63] (.one (.exit 2) [.ptr (.rw 0) (.lit 0), .int .i64 (.lit 0), .undef, .undef, .undef] [some ⟨1, .var 26 t3⟩, some ⟨1, .row (.var 2 sl) (.lit 0)⟩, some ⟨1, .row (.var 2 sl) (.lit 1)⟩, some ⟨1, .row (.var 2 sl) (.lit 2)⟩, some ⟨1, .row (.var 2 sl) (.lit 3)⟩, some ⟨1, .row (.var 2 sl) (.lit 4)⟩, some ⟨1, .row (.var 2 sl) (.lit 5)⟩, some ⟨1, .row (.var 2 sl) (.lit 6)⟩, some ⟨1, .row (.var 2 sl) (.lit 7)⟩, some ⟨1, .row (.var 2 sl) (.lit 8)⟩, some ⟨1, .row (.var 2 sl) (.lit 9)⟩, some ⟨1, .row (.var 2 sl) (.lit 10)⟩, some ⟨1, .row (.var 2 sl) (.lit 11)⟩, some ⟨1, .row (.var 2 sl) (.lit 12)⟩, some ⟨1, .var 23 z⟩, some ⟨1, .var 22 ks⟩, some ⟨1, .var 25 kt⟩])] 14) 300 40 Try.f27 [.ptr (.rw 0) (.lit 0), .int .i64 (.var 3 n), .int .i64 (.var 4 a)] [some ⟨1, .var 1 tb⟩, some ⟨1, .row (.var 2 sl) (.lit 0)⟩, some ⟨1, .row (.var 2 sl) (.lit 1)⟩, some ⟨1, .row (.var 2 sl) (.lit 2)⟩, some ⟨1, .row (.var 2 sl) (.lit 3)⟩, some ⟨1, .row (.var 2 sl) (.lit 4)⟩, some ⟨1, .row (.var 2 sl) (.lit 5)⟩, some ⟨1, .row (.var 2 sl) (.lit 6)⟩, some ⟨1, .row (.var 2 sl) (.lit 7)⟩, some ⟨1, .row (.var 2 sl) (.lit 8)⟩, some ⟨1, .row (.var 2 sl) (.lit 9)⟩, some ⟨1, .row (.var 2 sl) (.lit 10)⟩, some ⟨1, .row (.var 2 sl) (.lit 11)⟩, some ⟨1, .row (.var 2 sl) (.lit 12)⟩] 15) = (
    isB tb (0) = true ∧
    (getB tb (0) = true →
      isB tb (0) = true ∧
      getB tb (0) = true ∧
      (decide ((n : Int) ≥ 1) = true →
        (decide ((n : Int) ≤ 12) = true →
          decide ((0 : Int) ≤ n) = true ∧
          decide ((n : Int) < 13) = true ∧
          isI .i64 tb ((Int.toNat (n)) * 7 + 1) = true ∧
          (((getI tb ((Int.toNat (n)) * 7 + 1) : Int) == n) = true →
            decide ((0 : Int) ≤ n) = true ∧
            decide ((n : Int) < 13) = true ∧
            isB tb ((Int.toNat (n)) * 7 + 5) = true ∧
            (getB tb ((Int.toNat (n)) * 7 + 5) = true →
              R (.int .i64 (6)) [some ⟨1, tb⟩, some ⟨1, (rowA sl (0))⟩, some ⟨1, (rowA sl (1))⟩, some ⟨1, (rowA sl (2))⟩, some ⟨1, (rowA sl (3))⟩, some ⟨1, (rowA sl (4))⟩, some ⟨1, (rowA sl (5))⟩, some ⟨1, (rowA sl (6))⟩, some ⟨1, (rowA sl (7))⟩, some ⟨1, (rowA sl (8))⟩, some ⟨1, (rowA sl (9))⟩, some ⟨1, (rowA sl (10))⟩, some ⟨1, (rowA sl (11))⟩, some ⟨1, (rowA sl (12))⟩]) ∧
            (getB tb ((Int.toNat (n)) * 7 + 5) = false →
              decide ((0 : Int) ≤ n) = true ∧
              decide ((n : Int) < 13) = true ∧
              (isNilA tb ((Int.toNat (n)) * 7 + 7) = true →
                False) ∧
              (isNilA tb ((Int.toNat (n)) * 7 + 7) = false →
                isPA 1 13 tb ((Int.toNat (n)) * 7 + 7) = true ∧
                Nat.beq (foA tb ((Int.toNat (n)) * 7 + 7)) (0) = true ∧
                leB (fkA 1 tb ((Int.toNat (n)) * 7 + 7) + 1) (13) = true ∧
                rowsA sl [.agg sl, .agg sl, .agg sl, .agg sl, .agg sl, .agg sl, .agg sl, .agg sl, .agg sl, .agg sl, .agg sl, .agg sl, .agg sl] = true ∧
                leB (fkA 1 tb ((Int.toNat (n)) * 7 + 7) + 1) (List.length sl) = true ∧
                okU [.agg (rowA sl (fkA 1 tb ((Int.toNat (n)) * 7 + 7)))] = true ∧
                leB ((Int.toNat (n)) * 7 + 6) (List.length tb) = true ∧
                leB ((Int.toNat (n)) * 7 + 7) (List.length (setPart tb ((Int.toNat (n)) * 7 + 5) (.bool (true)))) = true ∧
                leB ((Int.toNat (n)) * 7 + 8) (List.length (setPart (setPart tb ((Int.toNat (n)) * 7 + 5) (.bool (true))) ((Int.toNat (n)) * 7 + 6) (.int .i64 (kAnd .i64 (a) (255))))) = true ∧
                rowsA sl [.agg sl, .agg sl, .agg sl, .agg sl, .agg sl, .agg sl, .agg sl, .agg sl, .agg sl, .agg sl, .agg sl, .agg sl, .agg sl] = true ∧
                k15 [.agg (setPart (setPart (setPart tb ((Int.toNat (n)) * 7 + 5) (.bool (true))) ((Int.toNat (n)) * 7 + 6) (.int .i64 (kAnd .i64 (a) (255)))) ((Int.toNat (n)) * 7 + 7) (.ptr (.rw 14) (0))), .agg sl, .agg (childU [.agg (rowA sl (fkA 1 tb ((Int.toNat (n)) * 7 + 7)))])] = true ∧
                (rl) [.agg ([.ptr (.rw 0) (0), .int .i64 (0), .slice true (.rw 15) (0) (kidNU [.agg (setPart (setPart (setPart tb ((Int.toNat (n)) * 7 + 5) (.bool (true))) ((Int.toNat (n)) * 7 + 6) (.int .i64 (kAnd .i64 (a) (255)))) ((Int.toNat (n)) * 7 + 7) (.ptr (.rw 14) (0))), .int .i64 (n)]), .int .i64 (((kidNU [.agg (setPart (setPart (setPart tb ((Int.toNat (n)) * 7 + 5) (.bool (true))) ((Int.toNat (n)) * 7 + 6) (.int .i64 (kAnd .i64 (a) (255)))) ((Int.toNat (n)) * 7 + 7) (.ptr (.rw 14) (0))), .int .i64 (n)] : Nat) : Int)), .int .i64 (0)] : List AV), .agg ([.tup [.int .i64 (1), .agg (setPart (setPart (setPart tb ((Int.toNat (n)) * 7 + 5) (.bool (true))) ((Int.toNat (n)) * 7 + 6) (.int .i64 (kAnd .i64 (a) (255)))) ((Int.toNat (n)) * 7 + 7) (.ptr (.rw 14) (0)))], .tup [.int .i64 (1), .agg (rowA sl (0))], .tup [.int .i64 (1), .agg (rowA sl (1))], .tup [.int .i64 (1), .agg (rowA sl (2))], .tup [.int .i64 (1), .agg (rowA sl (3))], .tup [.int .i64 (1), .agg (rowA sl (4))], .tup [.int .i64 (1), .agg (rowA sl (5))], .tup [.int .i64 (1), .agg (rowA sl (6))], .tup [.int .i64 (1), .agg (rowA sl (7))], .tup [.int .i64 (1), .agg (rowA sl (8))], .tup [.int .i64 (1), .agg (rowA sl (9))], .tup [.int .i64 (1), .agg (rowA sl (10))], .tup [.int .i64 (1), .agg (rowA sl (11))], .tup [.int .i64 (1), .agg (rowA sl (12))], .tup [.int .i64 (1), .agg (childU [.agg (rowA sl (fkA 1 tb ((Int.toNat (n)) * 7 + 7)))])], .tup [.int .i64 (1), .agg (kidLU [.agg (setPart (setPart (setPart tb ((Int.toNat (n)) * 7 + 5) (.bool (true))) ((Int.toNat (n)) * 7 + 6) (.int .i64 (kAnd .i64 (a) (255)))) ((Int.toNat (n)) * 7 + 7) (.ptr (.rw 14) (0))), .int .i64 (n)])]] : List AV)] = true ∧
                isB t2 (0) = true ∧
                (getB t2 (0) = true →
                  isI .i64 t2 (8) = true ∧
                  (((getI t2 (8) : Int) == 1) = true →
                    isB t2 (12) = true ∧
                    (getB t2 (12) = true →
                      rowsA sl [.agg sl, .agg sl, .agg sl, .agg sl, .agg sl, .agg sl, .agg sl, .agg sl, .agg sl, .agg sl, .agg sl, .agg sl, .agg sl] = true ∧
                      k15 [.agg t2, .agg sl, .agg z] = true ∧
                      (rm) [.agg ([.ptr (.rw 0) (0), .int .i64 (0), .slice true (.rw 16) (0) (kidNU [.agg t2, .int .i64 (1)]), .int .i64 (((kidNU [.agg t2, .int .i64 (1)] : Nat) : Int)), .int .i64 (0)] : List AV), .agg ([.tup [.int .i64 (1), .agg t2], .tup [.int .i64 (1), .agg (rowA sl (0))], .tup [.int .i64 (1), .agg (rowA sl (1))], .tup [.int .i64 (1), .agg (rowA sl (2))], .tup [.int .i64 (1), .agg (rowA sl (3))], .tup [.int .i64 (1), .agg (rowA sl (4))], .tup [.int .i64 (1), .agg (rowA sl (5))], .tup [.int .i64 (1), .agg (rowA sl (6))], .tup [.int .i64 (1), .agg (rowA sl (7))], .tup [.int .i64 (1), .agg (rowA sl (8))], .tup [.int .i64 (1), .agg (rowA sl (9))], .tup [.int .i64 (1), .agg (rowA sl (10))], .tup [.int .i64 (1), .agg (rowA sl (11))], .tup [.int .i64 (1), .agg (rowA sl (12))], .tup [.int .i64 (1), .agg z], .tup [.int .i64 (1), .agg ks], .tup [.int .i64 (1), .agg (kidLU [.agg t2, .int .i64 (1)])]] : List AV)] = true ∧
                      R (.int .i64 (0)) [some ⟨1, t3⟩, some ⟨1, (rowA sl (0))⟩, some ⟨1, (rowA sl (1))⟩, some ⟨1, (rowA sl (2))⟩, some ⟨1, (rowA sl (3))⟩, some ⟨1, (rowA sl (4))⟩, some ⟨1, (rowA sl (5))⟩, some ⟨1, (rowA sl (6))⟩, some ⟨1, (rowA sl (7))⟩, some ⟨1, (rowA sl (8))⟩, some ⟨1, (rowA sl (9))⟩, some ⟨1, (rowA sl (10))⟩, some ⟨1, (rowA sl (11))⟩, some ⟨1, (rowA sl (12))⟩, some ⟨1, z⟩]) ∧
                    (getB t2 (12) = false →
                      R (.int .i64 (0)) [some ⟨1, t2⟩, some ⟨1, (rowA sl (0))⟩, some ⟨1, (rowA sl (1))⟩, some ⟨1, (rowA sl (2))⟩, some ⟨1, (rowA sl (3))⟩, some ⟨1, (rowA sl (4))⟩, some ⟨1, (rowA sl (5))⟩, some ⟨1, (rowA sl (6))⟩, some ⟨1, (rowA sl (7))⟩, some ⟨1, (rowA sl (8))⟩, some ⟨1, (rowA sl (9))⟩, some ⟨1, (rowA sl (10))⟩, some ⟨1, (rowA sl (11))⟩, some ⟨1, (rowA sl (12))⟩, some ⟨1, z⟩])) ∧
                  (((getI t2 (8) : Int) == 1) = false →
                    rowsA sl [.agg sl, .agg sl, .agg sl, .agg sl, .agg sl, .agg sl, .agg sl, .agg sl, .agg sl, .agg sl, .agg sl, .agg sl, .agg sl] = true ∧
                    k15 [.agg t2, .agg sl, .agg z] = true ∧
                    (rm) [.agg ([.ptr (.rw 0) (0), .int .i64 (0), .slice true (.rw 16) (0) (kidNU [.agg t2, .int .i64 (1)]), .int .i64 (((kidNU [.agg t2, .int .i64 (1)] : Nat) : Int)), .int .i64 (0)] : List AV), .agg ([.tup [.int .i64 (1), .agg t2], .tup [.int .i64 (1), .agg (rowA sl (0))], .tup [.int .i64 (1), .agg (rowA sl (1))], .tup [.int .i64 (1), .agg (rowA sl (2))], .tup [.int .i64 (1), .agg (rowA sl (3))], .tup [.int .i64 (1), .agg (rowA sl (4))], .tup [.int .i64 (1), .agg (rowA sl (5))], .tup [.int .i64 (1), .agg (rowA sl (6))], .tup [.int .i64 (1), .agg (rowA sl (7))], .tup [.int .i64 (1), .agg (rowA sl (8))], .tup [.int .i64 (1), .agg (rowA sl (9))], .tup [.int .i64 (1), .agg (rowA sl (10))], .tup [.int .i64 (1), .agg (rowA sl (11))], .tup [.int .i64 (1), .agg (rowA sl (12))], .tup [.int .i64 (1), .agg z], .tup [.int .i64 (1), .agg ks], .tup [.int .i64 (1), .agg (kidLU [.agg t2, .int .i64 (1)])]] : List AV)] = true ∧
                    R (.int .i64 (0)) [some ⟨1, t3⟩, some ⟨1, (rowA sl (0))⟩, some ⟨1, (rowA sl (1))⟩, some ⟨1, (rowA sl (2))⟩, some ⟨1, (rowA sl (3))⟩, some ⟨1, (rowA sl (4))⟩, some ⟨1, (rowA sl (5))⟩, some ⟨1, (rowA sl (6))⟩, some ⟨1, (rowA sl (7))⟩, some ⟨1, (rowA sl (8))⟩, some ⟨1, (rowA sl (9))⟩, some ⟨1, (rowA sl (10))⟩, some ⟨1, (rowA sl (11))⟩, some ⟨1, (rowA sl (12))⟩, some ⟨1, z⟩])) ∧
                (getB t2 (0) = false →
                  rowsA sl [.agg sl, .agg sl, .agg sl, .agg sl, .agg sl, .agg sl, .agg sl, .agg sl, .agg sl, .agg sl, .agg sl, .agg sl, .agg sl] = true ∧
                  k15 [.agg t2, .agg sl, .agg z] = true ∧
                  (rm) [.agg ([.ptr (.rw 0) (0), .int .i64 (0), .slice true (.rw 16) (0) (kidNU [.agg t2, .int .i64 (1)]), .int .i64 (((kidNU [.agg t2, .int .i64 (1)] : Nat) : Int)), .int .i64 (0)] : List AV), .agg ([.tup [.int .i64 (1), .agg t2], .tup [.int .i64 (1), .agg (rowA sl (0))], .tup [.int .i64 (1), .agg (rowA sl (1))], .tup [.int .i64 (1), .agg (rowA sl (2))], .tup [.int .i64 (1), .agg (rowA sl (3))], .tup [.int .i64 (1), .agg (rowA sl (4))], .tup [.int .i64 (1), .agg (rowA sl (5))], .tup [.int .i64 (1), .agg (rowA sl (6))], .tup [.int .i64 (1), .agg (rowA sl (7))], .tup [.int .i64 (1), .agg (rowA sl (8))], .tup [.int .i64 (1), .agg (rowA sl (9))], .tup [.int .i64 (1), .agg (rowA sl (10))], .tup [.int .i64 (1), .agg (rowA sl (11))], .tup [.int .i64 (1), .agg (rowA sl (12))], .tup [.int .i64 (1), .agg z], .tup [.int .i64 (1), .agg ks], .tup [.int .i64 (1), .agg (kidLU [.agg t2, .int .i64 (1)])]] : List AV)] = true ∧
                  R (.int .i64 (0)) [some ⟨1, t3⟩, some ⟨1, (rowA sl (0))⟩, some ⟨1, (rowA sl (1))⟩, some ⟨1, (rowA sl (2))⟩, some ⟨1, (rowA sl (3))⟩, some ⟨1, (rowA sl (4))⟩, some ⟨1, (rowA sl (5))⟩, some ⟨1, (rowA sl (6))⟩, some ⟨1, (rowA sl (7))⟩, some ⟨1, (rowA sl (8))⟩, some ⟨1, (rowA sl (9))⟩, some ⟨1, (rowA sl (10))⟩, some ⟨1, (rowA sl (11))⟩, some ⟨1, (rowA sl (12))⟩, some ⟨1, z⟩])))) ∧
          (((getI tb ((Int.toNat (n)) * 7 + 1) : Int) == n) = false →
            R (.int .i64 (6)) [some ⟨1, tb⟩, some ⟨1, (rowA sl (0))⟩, some ⟨1, (rowA sl (1))⟩, some ⟨1, (rowA sl (2))⟩, some ⟨1, (rowA sl (3))⟩, some ⟨1, (rowA sl (4))⟩, some ⟨1, (rowA sl (5))⟩, some ⟨1, (rowA sl (6))⟩, some ⟨1, (rowA sl (7))⟩, some ⟨1, (rowA sl (8))⟩, some ⟨1, (rowA sl (9))⟩, some ⟨1, (rowA sl (10))⟩, some ⟨1, (rowA sl (11))⟩, some ⟨1, (rowA sl (12))⟩])) ∧
        (decide ((n : Int) ≤ 12) = false →
          R (.int .i64 (6)) [some ⟨1, tb⟩, some ⟨1, (rowA sl (0))⟩, some ⟨1, (rowA sl (1))⟩, some ⟨1, (rowA sl (2))⟩, some ⟨1, (rowA sl (3))⟩, some ⟨1, (rowA sl (4))⟩, some ⟨1, (rowA sl (5))⟩, some ⟨1, (rowA sl (6))⟩, some ⟨1, (rowA sl (7))⟩, some ⟨1, (rowA sl (8))⟩, some ⟨1, (rowA sl (9))⟩, some ⟨1, (rowA sl (10))⟩, some ⟨1, (rowA sl (11))⟩, some ⟨1, (rowA sl (12))⟩])) ∧
      (decide ((n : Int) ≥ 1) = false →
        R (.int .i64 (6)) [some ⟨1, tb⟩, some ⟨1, (rowA sl (0))⟩, some ⟨1, (rowA sl (1))⟩, some ⟨1, (rowA sl (2))⟩, some ⟨1, (rowA sl (3))⟩, some ⟨1, (rowA sl (4))⟩, some ⟨1, (rowA sl (5))⟩, some ⟨1, (rowA sl (6))⟩, some ⟨1, (rowA sl (7))⟩, some ⟨1, (rowA sl (8))⟩, some ⟨1, (rowA sl (9))⟩, some ⟨1, (rowA sl (10))⟩, some ⟨1, (rowA sl (11))⟩, some ⟨1, (rowA sl (12))⟩])) ∧
    (getB tb (0) = false →
      R (.int .i64 (1)) [some ⟨1, tb⟩, some ⟨1, (rowA sl (0))⟩, some ⟨1, (rowA sl (1))⟩, some ⟨1, (rowA sl (2))⟩, some ⟨1, (rowA sl (3))⟩, some ⟨1, (rowA sl (4))⟩, some ⟨1, (rowA sl (5))⟩, some ⟨1, (rowA sl (6))⟩, some ⟨1, (rowA sl (7))⟩, some ⟨1, (rowA sl (8))⟩, some ⟨1, (rowA sl (9))⟩, some ⟨1, (rowA sl (10))⟩, some ⟨1, (rowA sl (11))⟩, some ⟨1, (rowA sl (12))⟩])) := by kernel_rfl
end Go.Am
