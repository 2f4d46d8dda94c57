/-
  Filters: what a filter says of each byte, the plain one: the trees.
-/
import Derived.Test.YtnkcfoicbkobbaaFlD
import Derived.Test.YtnkcfoicbkobbaaBase6
namespace Go.Am
open Go.Proofs
set_option maxRecDepth 100000
theorem by_b (G : Nat → List AV) (k n : Nat) (i : Int) (w : Bool) (l z : List AV) (Q : Ex → List AV → Hp → Prop) (R : AV → Hp → Prop) : vT G Q R (dloop (Dc Try.prog [] [] [] 2) 300 20 2 (loopN Try.f28 0) 68 [2, 4, 5, 9, 10, 11] [.ptr (.rw 0) (.lit 0), .ptr (.rw 1) (.lit 0), .bool (.var 7 w), .slice true (.ro (.var 1 k)) (.lit 0) (.var 2 n), .int .i64 (.ofN (.var 2 n)), .int .i64 (.var 6 i)] [some ⟨1, .var 8 z⟩, some ⟨1, .var 9 l⟩]) = (
    (decide ((i : Int) < ((n : Nat) : Int)) = true →
      decide ((0 : Int) ≤ i) = true ∧
      decide ((i : Int) < ((n : Nat) : Int)) = true ∧
      leafsOk (G (k)) ((Int.toNat (i)) * 3) [.int .i64, .int .i64, .int .i64] = true ∧
      decide ((0 : Int) ≤ getI (G (k)) ((Int.toNat (i)) * 3)) = true ∧
      decide ((getI (G (k)) ((Int.toNat (i)) * 3) : Int) < 64) = true ∧
      (((kAndNot .i64 (getI (G (k)) ((Int.toNat (i)) * 3 + 2)) (getI (G (k)) ((Int.toNat (i)) * 3 + 1)) : Int) == 0) = true →
        isB l ((Int.toNat (getI (G (k)) ((Int.toNat (i)) * 3))) * 3) = true ∧
        (getB l ((Int.toNat (getI (G (k)) ((Int.toNat (i)) * 3))) * 3) = true →
          isI .i64 l ((Int.toNat (getI (G (k)) ((Int.toNat (i)) * 3))) * 3 + 2) = true ∧
          isI .i64 l ((Int.toNat (getI (G (k)) ((Int.toNat (i)) * 3))) * 3 + 1) = true ∧
          (((kAnd .i64 (kAnd .i64 (kXor .i64 (getI l ((Int.toNat (getI (G (k)) ((Int.toNat (i)) * 3))) * 3 + 2)) (getI (G (k)) ((Int.toNat (i)) * 3 + 2))) (getI l ((Int.toNat (getI (G (k)) ((Int.toNat (i)) * 3))) * 3 + 1))) (getI (G (k)) ((Int.toNat (i)) * 3 + 1)) : Int) == 0) = true →
            isI .i64 l ((Int.toNat (getI (G (k)) ((Int.toNat (i)) * 3))) * 3 + 1) = true ∧
            isI .i64 l ((Int.toNat (getI (G (k)) ((Int.toNat (i)) * 3))) * 3 + 2) = true ∧
            leB ((Int.toNat (getI (G (k)) ((Int.toNat (i)) * 3))) * 3 + 3) (List.length l) = true ∧
            Q .normal [.ptr (.rw 0) (0), .ptr (.rw 1) (0), .bool (w), .slice true (.ro (k)) (0) (n), .int .i64 (((n : Nat) : Int)), .int .i64 (IntKind.wrap .i64 (i + 1))] [some ⟨1, z⟩, some ⟨1, (setPart l ((Int.toNat (getI (G (k)) ((Int.toNat (i)) * 3))) * 3) (.agg ([.bool (true), .int .i64 (kOr .i64 (getI l ((Int.toNat (getI (G (k)) ((Int.toNat (i)) * 3))) * 3 + 1)) (getI (G (k)) ((Int.toNat (i)) * 3 + 1))), .int .i64 (kOr .i64 (getI l ((Int.toNat (getI (G (k)) ((Int.toNat (i)) * 3))) * 3 + 2)) (getI (G (k)) ((Int.toNat (i)) * 3 + 2)))] : List AV)))⟩, some ⟨1, ([.int .i64 (getI (G (k)) ((Int.toNat (i)) * 3)), .int .i64 (getI (G (k)) ((Int.toNat (i)) * 3 + 1)), .int .i64 (getI (G (k)) ((Int.toNat (i)) * 3 + 2))] : List AV)⟩]) ∧
          (((kAnd .i64 (kAnd .i64 (kXor .i64 (getI l ((Int.toNat (getI (G (k)) ((Int.toNat (i)) * 3))) * 3 + 2)) (getI (G (k)) ((Int.toNat (i)) * 3 + 2))) (getI l ((Int.toNat (getI (G (k)) ((Int.toNat (i)) * 3))) * 3 + 1))) (getI (G (k)) ((Int.toNat (i)) * 3 + 1)) : Int) == 0) = false →
            isI .i64 l ((Int.toNat (getI (G (k)) ((Int.toNat (i)) * 3))) * 3 + 1) = true ∧
            isI .i64 l ((Int.toNat (getI (G (k)) ((Int.toNat (i)) * 3))) * 3 + 2) = true ∧
            leB ((Int.toNat (getI (G (k)) ((Int.toNat (i)) * 3))) * 3 + 3) (List.length l) = true ∧
            Q .normal [.ptr (.rw 0) (0), .ptr (.rw 1) (0), .bool (false), .slice true (.ro (k)) (0) (n), .int .i64 (((n : Nat) : Int)), .int .i64 (IntKind.wrap .i64 (i + 1))] [some ⟨1, z⟩, some ⟨1, (setPart l ((Int.toNat (getI (G (k)) ((Int.toNat (i)) * 3))) * 3) (.agg ([.bool (true), .int .i64 (kOr .i64 (getI l ((Int.toNat (getI (G (k)) ((Int.toNat (i)) * 3))) * 3 + 1)) (getI (G (k)) ((Int.toNat (i)) * 3 + 1))), .int .i64 (kOr .i64 (getI l ((Int.toNat (getI (G (k)) ((Int.toNat (i)) * 3))) * 3 + 2)) (getI (G (k)) ((Int.toNat (i)) * 3 + 2)))] : List AV)))⟩, some ⟨1, ([.int .i64 (getI (G (k)) ((Int.toNat (i)) * 3)), .int .i64 (getI (G (k)) ((Int.toNat (i)) * 3 + 1)), .int .i64 (getI (G (k)) ((Int.toNat (i)) * 3 + 2))] : List AV)⟩])) ∧
        (getB l ((Int.toNat (getI (G (k)) ((Int.toNat (i)) * 3))) * 3) = false →
          isI .i64 l ((Int.toNat (getI (G (k)) ((Int.toNat (i)) * 3))) * 3 + 1) = true ∧
          isI .i64 l ((Int.toNat (getI (G (k)) ((Int.toNat (i)) * 3))) * 3 + 2) = true ∧
          leB ((Int.toNat (getI (G (k)) ((Int.toNat (i)) * 3))) * 3 + 3) (List.length l) = true ∧
          Q .normal [.ptr (.rw 0) (0), .ptr (.rw 1) (0), .bool (w), .slice true (.ro (k)) (0) (n), .int .i64 (((n : Nat) : Int)), .int .i64 (IntKind.wrap .i64 (i + 1))] [some ⟨1, z⟩, some ⟨1, (setPart l ((Int.toNat (getI (G (k)) ((Int.toNat (i)) * 3))) * 3) (.agg ([.bool (true), .int .i64 (kOr .i64 (getI l ((Int.toNat (getI (G (k)) ((Int.toNat (i)) * 3))) * 3 + 1)) (getI (G (k)) ((Int.toNat (i)) * 3 + 1))), .int .i64 (kOr .i64 (getI l ((Int.toNat (getI (G (k)) ((Int.toNat (i)) * 3))) * 3 + 2)) (getI (G (k)) ((Int.toNat (i)) * 3 + 2)))] : List AV)))⟩, some ⟨1, ([.int .i64 (getI (G (k)) ((Int.toNat (i)) * 3)), .int .i64 (getI (G (k)) ((Int.toNat (i)) * 3 + 1)), .int .i64 (getI (G (k)) ((Int.toNat (i)) * 3 + 2))] : List AV)⟩])) ∧
      (((kAndNot .i64 (getI (G (k)) ((Int.toNat (i)) * 3 + 2)) (getI (G (k)) ((Int.toNat (i)) * 3 + 1)) : Int) == 0) = false →
        isI .i64 l ((Int.toNat (getI (G (k)) ((Int.toNat (i)) * 3))) * 3 + 1) = true ∧
        isI .i64 l ((Int.toNat (getI (G (k)) ((Int.toNat (i)) * 3))) * 3 + 2) = true ∧
        leB ((Int.toNat (getI (G (k)) ((Int.toNat (i)) * 3))) * 3 + 3) (List.length l) = true ∧
        Q .normal [.ptr (.rw 0) (0), .ptr (.rw 1) (0), .bool (false), .slice true (.ro (k)) (0) (n), .int .i64 (((n : Nat) : Int)), .int .i64 (IntKind.wrap .i64 (i + 1))] [some ⟨1, z⟩, some ⟨1, (setPart l ((Int.toNat (getI (G (k)) ((Int.toNat (i)) * 3))) * 3) (.agg ([.bool (true), .int .i64 (kOr .i64 (getI l ((Int.toNat (getI (G (k)) ((Int.toNat (i)) * 3))) * 3 + 1)) (getI (G (k)) ((Int.toNat (i)) * 3 + 1))), .int .i64 (kOr .i64 (getI l ((Int.toNat (getI (G (k)) ((Int.toNat (i)) * 3))) * 3 + 2)) (getI (G (k)) ((Int.toNat (i)) * 3 + 2)))] : List AV)))⟩, some ⟨1, ([.int .i64 (getI (G (k)) ((Int.toNat (i)) * 3)), .int .i64 (getI (G (k)) ((Int.toNat (i)) * 3 + 1)), .int .i64 (getI (G (k)) ((Int.toNat (i)) * 3 + 2))] : List AV)⟩])) ∧
    (decide ((i : Int) < ((n : Nat) : Int)) = false →
      Q (.exit 0) [.ptr (.rw 0) (0), .ptr (.rw 1) (0), .bool (w), .slice true (.ro (k)) (0) (n), .int .i64 (((n : Nat) : Int)), .int .i64 (i)] [some ⟨1, z⟩, some ⟨1, l⟩])) := by kernel_rfl
theorem lo_b (G : Nat → List AV) (k n : Nat) (i a : Int) (Q : Ex → List AV → Hp → Prop) (R : AV → Hp → Prop) : vT G Q R (dloop (Dc Try.prog [] [] [] 0) 300 20 0 (loopN Try.f29 0) 20 [0, 3, 4] [.slice true (.ro (.var 1 k)) (.lit 0) (.var 2 n), .int .i64 (.var 7 a), .int .i64 (.var 6 i)] []) = (
    (decide ((i : Int) < ((n : Nat) : Int)) = true →
      decide ((0 : Int) ≤ i) = true ∧
      decide ((i : Int) < ((n : Nat) : Int)) = true ∧
      isI .i64 (G (k)) ((Int.toNat (i)) * 3) = true ∧
      Q .normal [.slice true (.ro (k)) (0) (n), .int .i64 ((if IntKind.wrap .i64 (getI (G (k)) ((Int.toNat (i)) * 3) + 1) > a then IntKind.wrap .i64 (getI (G (k)) ((Int.toNat (i)) * 3) + 1) else a)), .int .i64 (IntKind.wrap .i64 (i + 1))] []) ∧
    (decide ((i : Int) < ((n : Nat) : Int)) = false →
      Q (.exit 0) [.slice true (.ro (k)) (0) (n), .int .i64 (a), .int .i64 (i)] [])) := by kernel_rfl
theorem bt_b (G : Nat → List AV) (k n : Nat) (i a b : Int) (Q : Ex → List AV → Hp → Prop) (R : AV → Hp → Prop) : vT G Q R (dloop (Dc Try.prog [] [] [] 0) 300 20 0 (loopN Try.f30 0) 36 [0, 1, 2, 6, 7] [.slice true (.ro (.var 1 k)) (.lit 0) (.var 2 n), .int .i64 (.var 7 a), .int .i64 (.var 8 b), .bool (.lit false), .int .i64 (.var 6 i)] []) = (
    (decide ((i : Int) < ((n : Nat) : Int)) = true →
      decide ((0 : Int) ≤ i) = true ∧
      decide ((i : Int) < ((n : Nat) : Int)) = true ∧
      isI .i64 (G (k)) ((Int.toNat (i)) * 3) = true ∧
      (((getI (G (k)) ((Int.toNat (i)) * 3) : Int) == a) = true →
        decide ((0 : Int) ≤ i) = true ∧
        decide ((i : Int) < ((n : Nat) : Int)) = true ∧
        isI .i64 (G (k)) ((Int.toNat (i)) * 3 + 1) = true ∧
        decide ((0 : Int) ≤ i) = true ∧
        decide ((i : Int) < ((n : Nat) : Int)) = true ∧
        isI .i64 (G (k)) ((Int.toNat (i)) * 3 + 2) = true ∧
        (((kAnd .i64 (b) (getI (G (k)) ((Int.toNat (i)) * 3 + 1)) : Int) == getI (G (k)) ((Int.toNat (i)) * 3 + 2)) = true →
          Q .normal [.slice true (.ro (k)) (0) (n), .int .i64 (a), .int .i64 (b), .bool (false), .int .i64 (IntKind.wrap .i64 (i + 1))] []) ∧
        (((kAnd .i64 (b) (getI (G (k)) ((Int.toNat (i)) * 3 + 1)) : Int) == getI (G (k)) ((Int.toNat (i)) * 3 + 2)) = false →
          Q .ret [.slice true (.ro (k)) (0) (n), .int .i64 (a), .int .i64 (b), .bool (false), .int .i64 (i)] [])) ∧
      (((getI (G (k)) ((Int.toNat (i)) * 3) : Int) == a) = false →
        Q .normal [.slice true (.ro (k)) (0) (n), .int .i64 (a), .int .i64 (b), .bool (false), .int .i64 (IntKind.wrap .i64 (i + 1))] [])) ∧
    (decide ((i : Int) < ((n : Nat) : Int)) = false →
      Q (.exit 0) [.slice true (.ro (k)) (0) (n), .int .i64 (a), .int .i64 (b), .bool (false), .int .i64 (i)] [])) := by kernel_rfl
theorem mk_b (G : Nat → List AV) (k n : Nat) (i a b : Int) (Q : Ex → List AV → Hp → Prop) (R : AV → Hp → Prop) : vT G Q R (dloop (Dc Try.prog [] [] [] 0) 300 20 0 (loopN Try.f31 0) 28 [0, 1, 5, 6] [.slice true (.ro (.var 1 k)) (.lit 0) (.var 2 n), .int .i64 (.var 7 a), .int .i64 (.var 8 b), .int .i64 (.var 6 i)] []) = (
    (decide ((i : Int) < ((n : Nat) : Int)) = true →
      decide ((0 : Int) ≤ i) = true ∧
      decide ((i : Int) < ((n : Nat) : Int)) = true ∧
      isI .i64 (G (k)) ((Int.toNat (i)) * 3) = true ∧
      (((getI (G (k)) ((Int.toNat (i)) * 3) : Int) == a) = true →
        decide ((0 : Int) ≤ i) = true ∧
        decide ((i : Int) < ((n : Nat) : Int)) = true ∧
        isI .i64 (G (k)) ((Int.toNat (i)) * 3 + 1) = true ∧
        Q .normal [.slice true (.ro (k)) (0) (n), .int .i64 (a), .int .i64 (kOr .i64 (b) (getI (G (k)) ((Int.toNat (i)) * 3 + 1))), .int .i64 (IntKind.wrap .i64 (i + 1))] []) ∧
      (((getI (G (k)) ((Int.toNat (i)) * 3) : Int) == a) = false →
        Q .normal [.slice true (.ro (k)) (0) (n), .int .i64 (a), .int .i64 (b), .int .i64 (IntKind.wrap .i64 (i + 1))] [])) ∧
    (decide ((i : Int) < ((n : Nat) : Int)) = false →
      Q (.exit 0) [.slice true (.ro (k)) (0) (n), .int .i64 (a), .int .i64 (b), .int .i64 (i)] [])) := by kernel_rfl
theorem st_b (G : Nat → List AV) (k n k2 m : Nat) (i : Int) (Q : Ex → List AV → Hp → Prop) (R : AV → Hp → Prop) : vT G Q R (dloop (Dc Try.prog [] [] [] 0) 300 20 0 (loopN Try.f17 0) 26 [0, 1, 4, 5] [.slice true (.ro (.var 1 k)) (.lit 0) (.var 2 n), .slice true (.ro (.var 3 k2)) (.lit 0) (.var 4 m), .bool (.lit false), .int .i64 (.var 6 i)] []) = (
    (decide ((i : Int) < ((n : Nat) : Int)) = true →
      decide ((0 : Int) ≤ i) = true ∧
      decide ((i : Int) < ((n : Nat) : Int)) = true ∧
      leafsOk (G (k)) ((Int.toNat (i)) * 3) [.int .i64, .int .i64, .int .i64] = true ∧
      decide ((0 : Int) ≤ i) = true ∧
      decide ((i : Int) < ((m : Nat) : Int)) = true ∧
      leafsOk (G (k2)) ((Int.toNat (i)) * 3) [.int .i64, .int .i64, .int .i64] = true ∧
      (((getI (G (k)) ((Int.toNat (i)) * 3) : Int) == getI (G (k2)) ((Int.toNat (i)) * 3)) = true →
        (((getI (G (k)) ((Int.toNat (i)) * 3 + 1) : Int) == getI (G (k2)) ((Int.toNat (i)) * 3 + 1)) = true →
          (((getI (G (k)) ((Int.toNat (i)) * 3 + 2) : Int) == getI (G (k2)) ((Int.toNat (i)) * 3 + 2)) = true →
            Q .normal [.slice true (.ro (k)) (0) (n), .slice true (.ro (k2)) (0) (m), .bool (false), .int .i64 (IntKind.wrap .i64 (i + 1))] []) ∧
          (((getI (G (k)) ((Int.toNat (i)) * 3 + 2) : Int) == getI (G (k2)) ((Int.toNat (i)) * 3 + 2)) = false →
            Q .ret [.slice true (.ro (k)) (0) (n), .slice true (.ro (k2)) (0) (m), .bool (false), .int .i64 (i)] [])) ∧
        (((getI (G (k)) ((Int.toNat (i)) * 3 + 1) : Int) == getI (G (k2)) ((Int.toNat (i)) * 3 + 1)) = false →
          Q .ret [.slice true (.ro (k)) (0) (n), .slice true (.ro (k2)) (0) (m), .bool (false), .int .i64 (i)] [])) ∧
      (((getI (G (k)) ((Int.toNat (i)) * 3) : Int) == getI (G (k2)) ((Int.toNat (i)) * 3)) = false →
        Q .ret [.slice true (.ro (k)) (0) (n), .slice true (.ro (k2)) (0) (m), .bool (false), .int .i64 (i)] [])) ∧
    (decide ((i : Int) < ((n : Nat) : Int)) = false →
      Q (.exit 0) [.slice true (.ro (k)) (0) (n), .slice true (.ro (k2)) (0) (m), .bool (false), .int .i64 (i)] [])) := by kernel_rfl
theorem eq_b (G : Nat → List AV) (k n k2 m : Nat) (i : Int) (Q : Ex → List AV → Hp → Prop) (R : AV → Hp → Prop) : vT G Q R (dloop (Dc Try.prog [] [] [] 0) 300 20 0 (loopN Try.f34 0) 26 [0, 1, 4, 12, 13] [.slice true (.ro (.var 1 k)) (.lit 0) (.var 2 n), .slice true (.ro (.var 3 k2)) (.lit 0) (.var 4 m), .bool (.lit false), .int .i64 (.ofN (.var 2 n)), .int .i64 (.var 6 i)] []) = (
    (decide ((i : Int) < ((n : Nat) : Int)) = true →
      decide ((0 : Int) ≤ i) = true ∧
      decide ((i : Int) < ((n : Nat) : Int)) = true ∧
      leafsOk (G (k)) ((Int.toNat (i)) * 3) [.int .i64, .int .i64, .int .i64] = true ∧
      decide ((0 : Int) ≤ i) = true ∧
      decide ((i : Int) < ((m : Nat) : Int)) = true ∧
      leafsOk (G (k2)) ((Int.toNat (i)) * 3) [.int .i64, .int .i64, .int .i64] = true ∧
      (((getI (G (k)) ((Int.toNat (i)) * 3) : Int) == getI (G (k2)) ((Int.toNat (i)) * 3)) = true →
        (((getI (G (k)) ((Int.toNat (i)) * 3 + 1) : Int) == getI (G (k2)) ((Int.toNat (i)) * 3 + 1)) = true →
          (((getI (G (k)) ((Int.toNat (i)) * 3 + 2) : Int) == getI (G (k2)) ((Int.toNat (i)) * 3 + 2)) = true →
            Q .normal [.slice true (.ro (k)) (0) (n), .slice true (.ro (k2)) (0) (m), .bool (false), .int .i64 (((n : Nat) : Int)), .int .i64 (IntKind.wrap .i64 (i + 1))] []) ∧
          (((getI (G (k)) ((Int.toNat (i)) * 3 + 2) : Int) == getI (G (k2)) ((Int.toNat (i)) * 3 + 2)) = false →
            Q .ret [.slice true (.ro (k)) (0) (n), .slice true (.ro (k2)) (0) (m), .bool (false), .int .i64 (((n : Nat) : Int)), .int .i64 (i)] [])) ∧
        (((getI (G (k)) ((Int.toNat (i)) * 3 + 1) : Int) == getI (G (k2)) ((Int.toNat (i)) * 3 + 1)) = false →
          Q .ret [.slice true (.ro (k)) (0) (n), .slice true (.ro (k2)) (0) (m), .bool (false), .int .i64 (((n : Nat) : Int)), .int .i64 (i)] [])) ∧
      (((getI (G (k)) ((Int.toNat (i)) * 3) : Int) == getI (G (k2)) ((Int.toNat (i)) * 3)) = false →
        Q .ret [.slice true (.ro (k)) (0) (n), .slice true (.ro (k2)) (0) (m), .bool (false), .int .i64 (((n : Nat) : Int)), .int .i64 (i)] [])) ∧
    (decide ((i : Int) < ((n : Nat) : Int)) = false →
      Q (.exit 0) [.slice true (.ro (k)) (0) (n), .slice true (.ro (k2)) (0) (m), .bool (false), .int .i64 (((n : Nat) : Int)), .int .i64 (i)] [])) := by kernel_rfl
end Go.Am
