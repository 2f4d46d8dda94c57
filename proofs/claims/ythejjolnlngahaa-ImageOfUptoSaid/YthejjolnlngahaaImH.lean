/-
  Images: which are the same: the trees.
-/
import Derived.Test.YthejjolnlngahaaImG
namespace Go.Am
open Go.Proofs
set_option maxRecDepth 100000
theorem eq_b (G : Nat → List AV) (k k2 n n2 i : Nat) (Q : Ex → List AV → Hp → Prop) (R : AV → Hp → Prop) : vT G Q R (dloop (Dc Try.prog [] [] [] 0) 300 20 0 (loopN Try.f39 0) 26 [0, 1, 4, 12, 13] [.slice true (.ro (.var 1 k)) (.lit 0) (.var 2 n), .slice true (.ro (.var 3 k2)) (.lit 0) (.var 9 n2), .bool (.lit false), .int .i64 (.ofN (.var 2 n)), .int .i64 (.ofN (.var 8 i))] []) = (
    (decide ((((i : Nat) : Int) : Int) < ((n : Nat) : Int)) = true →
      decide ((0 : Int) ≤ ((i : Nat) : Int)) = true ∧
      decide ((((i : Nat) : Int) : Int) < ((n : Nat) : Int)) = true ∧
      leafsOk (G (k)) ((i) * 2) [.int .i64, .bool] = true ∧
      decide ((0 : Int) ≤ ((i : Nat) : Int)) = true ∧
      decide ((((i : Nat) : Int) : Int) < ((n2 : Nat) : Int)) = true ∧
      leafsOk (G (k2)) ((i) * 2) [.int .i64, .bool] = true ∧
      (((getI (G (k)) ((i) * 2) : Int) == getI (G (k2)) ((i) * 2)) = true →
        (getB (G (k)) ((i) * 2 + 1) = true →
          (getB (G (k2)) ((i) * 2 + 1) = true →
            Q .normal [.slice true (.ro (k)) (0) (n), .slice true (.ro (k2)) (0) (n2), .bool (false), .int .i64 (((n : Nat) : Int)), .int .i64 (IntKind.wrap .i64 (((i : Nat) : Int) + 1))] []) ∧
          (getB (G (k2)) ((i) * 2 + 1) = false →
            Q .ret [.slice true (.ro (k)) (0) (n), .slice true (.ro (k2)) (0) (n2), .bool (false), .int .i64 (((n : Nat) : Int)), .int .i64 (((i : Nat) : Int))] [])) ∧
        (getB (G (k)) ((i) * 2 + 1) = false →
          (getB (G (k2)) ((i) * 2 + 1) = true →
            Q .ret [.slice true (.ro (k)) (0) (n), .slice true (.ro (k2)) (0) (n2), .bool (false), .int .i64 (((n : Nat) : Int)), .int .i64 (((i : Nat) : Int))] []) ∧
          (getB (G (k2)) ((i) * 2 + 1) = false →
            Q .normal [.slice true (.ro (k)) (0) (n), .slice true (.ro (k2)) (0) (n2), .bool (false), .int .i64 (((n : Nat) : Int)), .int .i64 (IntKind.wrap .i64 (((i : Nat) : Int) + 1))] []))) ∧
      (((getI (G (k)) ((i) * 2) : Int) == getI (G (k2)) ((i) * 2)) = false →
        Q .ret [.slice true (.ro (k)) (0) (n), .slice true (.ro (k2)) (0) (n2), .bool (false), .int .i64 (((n : Nat) : Int)), .int .i64 (((i : Nat) : Int))] [])) ∧
    (decide ((((i : Nat) : Int) : Int) < ((n : Nat) : Int)) = false →
      Q (.exit 0) [.slice true (.ro (k)) (0) (n), .slice true (.ro (k2)) (0) (n2), .bool (false), .int .i64 (((n : Nat) : Int)), .int .i64 (((i : Nat) : Int))] [])) := by kernel_rfl
theorem ef_b (G : Nat → List AV) (k k2 n n2 i : Nat) (Q : Ex → List AV → Hp → Prop) (R : AV → Hp → Prop) : vT G Q R (dloop (Dc Try.prog [41, 42] [] [] 0) 300 20 0 (loopN Try.f40 0) 32 [1, 2, 6, 15, 16, 17] [.slice true (.ro (.var 3 k2)) (.lit 0) (.var 9 n2), .func 41 [], .bool (.lit false), .slice true (.ro (.var 1 k)) (.lit 0) (.var 2 n), .int .i64 (.ofN (.var 2 n)), .int .i64 (.ofN (.var 8 i))] []) = (
    (decide ((((i : Nat) : Int) : Int) < ((n : Nat) : Int)) = true →
      decide ((0 : Int) ≤ ((i : Nat) : Int)) = true ∧
      decide ((((i : Nat) : Int) : Int) < ((n : Nat) : Int)) = true ∧
      leafsOk (G (k)) ((i) * 4) [.int .i64, .int .i64, .sl, .int .i64] = true ∧
      decide ((0 : Int) ≤ ((i : Nat) : Int)) = true ∧
      decide ((((i : Nat) : Int) : Int) < ((n2 : Nat) : Int)) = true ∧
      leafsOk (G (k2)) ((i) * 4) [.int .i64, .int .i64, .sl, .int .i64] = true ∧
      (((getI (G (k)) ((i) * 4) : Int) == getI (G (k2)) ((i) * 4)) = true →
        (((getI (G (k)) ((i) * 4 + 1) : Int) == getI (G (k2)) ((i) * 4 + 1)) = true →
          leB (roO (G (k)) ((i) * 4 + 2) + roN (G (k)) ((i) * 4 + 2)) (List.length (G (roK (G (k)) ((i) * 4 + 2)))) = true ∧
          u8s (subL (G (roK (G (k)) ((i) * 4 + 2))) (roO (G (k)) ((i) * 4 + 2)) (roN (G (k)) ((i) * 4 + 2))) = true ∧
          leB (roO (G (k2)) ((i) * 4 + 2) + roN (G (k2)) ((i) * 4 + 2)) (List.length (G (roK (G (k2)) ((i) * 4 + 2)))) = true ∧
          u8s (subL (G (roK (G (k2)) ((i) * 4 + 2))) (roO (G (k2)) ((i) * 4 + 2)) (roN (G (k2)) ((i) * 4 + 2))) = true ∧
          ((((strL (subL (G (roK (G (k)) ((i) * 4 + 2))) (roO (G (k)) ((i) * 4 + 2)) (roN (G (k)) ((i) * 4 + 2)))) : List UInt8) == (strL (subL (G (roK (G (k2)) ((i) * 4 + 2))) (roO (G (k2)) ((i) * 4 + 2)) (roN (G (k2)) ((i) * 4 + 2))))) = true →
            (((getI (G (k)) ((i) * 4 + 3) : Int) == getI (G (k2)) ((i) * 4 + 3)) = true →
              Q .normal [.slice true (.ro (k2)) (0) (n2), .func 41 [], .bool (false), .slice true (.ro (k)) (0) (n), .int .i64 (((n : Nat) : Int)), .int .i64 (IntKind.wrap .i64 (((i : Nat) : Int) + 1))] [some ⟨1, ([.int .i64 (getI (G (k)) ((i) * 4)), .int .i64 (getI (G (k)) ((i) * 4 + 1)), .slice true (.ro (roK (G (k)) ((i) * 4 + 2))) (roO (G (k)) ((i) * 4 + 2)) (roN (G (k)) ((i) * 4 + 2)), .int .i64 (getI (G (k)) ((i) * 4 + 3))] : List AV)⟩, some ⟨1, ([.int .i64 (getI (G (k2)) ((i) * 4)), .int .i64 (getI (G (k2)) ((i) * 4 + 1)), .slice true (.ro (roK (G (k2)) ((i) * 4 + 2))) (roO (G (k2)) ((i) * 4 + 2)) (roN (G (k2)) ((i) * 4 + 2)), .int .i64 (getI (G (k2)) ((i) * 4 + 3))] : List AV)⟩, some ⟨1, ([.int .i64 (getI (G (k)) ((i) * 4)), .int .i64 (getI (G (k)) ((i) * 4 + 1)), .slice true (.ro (roK (G (k)) ((i) * 4 + 2))) (roO (G (k)) ((i) * 4 + 2)) (roN (G (k)) ((i) * 4 + 2)), .int .i64 (getI (G (k)) ((i) * 4 + 3))] : List AV)⟩, some ⟨1, ([.int .i64 (getI (G (k2)) ((i) * 4)), .int .i64 (getI (G (k2)) ((i) * 4 + 1)), .slice true (.ro (roK (G (k2)) ((i) * 4 + 2))) (roO (G (k2)) ((i) * 4 + 2)) (roN (G (k2)) ((i) * 4 + 2)), .int .i64 (getI (G (k2)) ((i) * 4 + 3))] : List AV)⟩]) ∧
            (((getI (G (k)) ((i) * 4 + 3) : Int) == getI (G (k2)) ((i) * 4 + 3)) = false →
              Q .ret [.slice true (.ro (k2)) (0) (n2), .func 41 [], .bool (false), .slice true (.ro (k)) (0) (n), .int .i64 (((n : Nat) : Int)), .int .i64 (((i : Nat) : Int))] [some ⟨1, ([.int .i64 (getI (G (k)) ((i) * 4)), .int .i64 (getI (G (k)) ((i) * 4 + 1)), .slice true (.ro (roK (G (k)) ((i) * 4 + 2))) (roO (G (k)) ((i) * 4 + 2)) (roN (G (k)) ((i) * 4 + 2)), .int .i64 (getI (G (k)) ((i) * 4 + 3))] : List AV)⟩, some ⟨1, ([.int .i64 (getI (G (k2)) ((i) * 4)), .int .i64 (getI (G (k2)) ((i) * 4 + 1)), .slice true (.ro (roK (G (k2)) ((i) * 4 + 2))) (roO (G (k2)) ((i) * 4 + 2)) (roN (G (k2)) ((i) * 4 + 2)), .int .i64 (getI (G (k2)) ((i) * 4 + 3))] : List AV)⟩, some ⟨1, ([.int .i64 (getI (G (k)) ((i) * 4)), .int .i64 (getI (G (k)) ((i) * 4 + 1)), .slice true (.ro (roK (G (k)) ((i) * 4 + 2))) (roO (G (k)) ((i) * 4 + 2)) (roN (G (k)) ((i) * 4 + 2)), .int .i64 (getI (G (k)) ((i) * 4 + 3))] : List AV)⟩, some ⟨1, ([.int .i64 (getI (G (k2)) ((i) * 4)), .int .i64 (getI (G (k2)) ((i) * 4 + 1)), .slice true (.ro (roK (G (k2)) ((i) * 4 + 2))) (roO (G (k2)) ((i) * 4 + 2)) (roN (G (k2)) ((i) * 4 + 2)), .int .i64 (getI (G (k2)) ((i) * 4 + 3))] : List AV)⟩])) ∧
          ((((strL (subL (G (roK (G (k)) ((i) * 4 + 2))) (roO (G (k)) ((i) * 4 + 2)) (roN (G (k)) ((i) * 4 + 2)))) : List UInt8) == (strL (subL (G (roK (G (k2)) ((i) * 4 + 2))) (roO (G (k2)) ((i) * 4 + 2)) (roN (G (k2)) ((i) * 4 + 2))))) = false →
            Q .ret [.slice true (.ro (k2)) (0) (n2), .func 41 [], .bool (false), .slice true (.ro (k)) (0) (n), .int .i64 (((n : Nat) : Int)), .int .i64 (((i : Nat) : Int))] [some ⟨1, ([.int .i64 (getI (G (k)) ((i) * 4)), .int .i64 (getI (G (k)) ((i) * 4 + 1)), .slice true (.ro (roK (G (k)) ((i) * 4 + 2))) (roO (G (k)) ((i) * 4 + 2)) (roN (G (k)) ((i) * 4 + 2)), .int .i64 (getI (G (k)) ((i) * 4 + 3))] : List AV)⟩, some ⟨1, ([.int .i64 (getI (G (k2)) ((i) * 4)), .int .i64 (getI (G (k2)) ((i) * 4 + 1)), .slice true (.ro (roK (G (k2)) ((i) * 4 + 2))) (roO (G (k2)) ((i) * 4 + 2)) (roN (G (k2)) ((i) * 4 + 2)), .int .i64 (getI (G (k2)) ((i) * 4 + 3))] : List AV)⟩, some ⟨1, ([.int .i64 (getI (G (k)) ((i) * 4)), .int .i64 (getI (G (k)) ((i) * 4 + 1)), .slice true (.ro (roK (G (k)) ((i) * 4 + 2))) (roO (G (k)) ((i) * 4 + 2)) (roN (G (k)) ((i) * 4 + 2)), .int .i64 (getI (G (k)) ((i) * 4 + 3))] : List AV)⟩, some ⟨1, ([.int .i64 (getI (G (k2)) ((i) * 4)), .int .i64 (getI (G (k2)) ((i) * 4 + 1)), .slice true (.ro (roK (G (k2)) ((i) * 4 + 2))) (roO (G (k2)) ((i) * 4 + 2)) (roN (G (k2)) ((i) * 4 + 2)), .int .i64 (getI (G (k2)) ((i) * 4 + 3))] : List AV)⟩])) ∧
        (((getI (G (k)) ((i) * 4 + 1) : Int) == getI (G (k2)) ((i) * 4 + 1)) = false →
          Q .ret [.slice true (.ro (k2)) (0) (n2), .func 41 [], .bool (false), .slice true (.ro (k)) (0) (n), .int .i64 (((n : Nat) : Int)), .int .i64 (((i : Nat) : Int))] [some ⟨1, ([.int .i64 (getI (G (k)) ((i) * 4)), .int .i64 (getI (G (k)) ((i) * 4 + 1)), .slice true (.ro (roK (G (k)) ((i) * 4 + 2))) (roO (G (k)) ((i) * 4 + 2)) (roN (G (k)) ((i) * 4 + 2)), .int .i64 (getI (G (k)) ((i) * 4 + 3))] : List AV)⟩, some ⟨1, ([.int .i64 (getI (G (k2)) ((i) * 4)), .int .i64 (getI (G (k2)) ((i) * 4 + 1)), .slice true (.ro (roK (G (k2)) ((i) * 4 + 2))) (roO (G (k2)) ((i) * 4 + 2)) (roN (G (k2)) ((i) * 4 + 2)), .int .i64 (getI (G (k2)) ((i) * 4 + 3))] : List AV)⟩, some ⟨1, ([.int .i64 (getI (G (k)) ((i) * 4)), .int .i64 (getI (G (k)) ((i) * 4 + 1)), .slice true (.ro (roK (G (k)) ((i) * 4 + 2))) (roO (G (k)) ((i) * 4 + 2)) (roN (G (k)) ((i) * 4 + 2)), .int .i64 (getI (G (k)) ((i) * 4 + 3))] : List AV)⟩, some ⟨1, ([.int .i64 (getI (G (k2)) ((i) * 4)), .int .i64 (getI (G (k2)) ((i) * 4 + 1)), .slice true (.ro (roK (G (k2)) ((i) * 4 + 2))) (roO (G (k2)) ((i) * 4 + 2)) (roN (G (k2)) ((i) * 4 + 2)), .int .i64 (getI (G (k2)) ((i) * 4 + 3))] : List AV)⟩])) ∧
      (((getI (G (k)) ((i) * 4) : Int) == getI (G (k2)) ((i) * 4)) = false →
        Q .ret [.slice true (.ro (k2)) (0) (n2), .func 41 [], .bool (false), .slice true (.ro (k)) (0) (n), .int .i64 (((n : Nat) : Int)), .int .i64 (((i : Nat) : Int))] [some ⟨1, ([.int .i64 (getI (G (k)) ((i) * 4)), .int .i64 (getI (G (k)) ((i) * 4 + 1)), .slice true (.ro (roK (G (k)) ((i) * 4 + 2))) (roO (G (k)) ((i) * 4 + 2)) (roN (G (k)) ((i) * 4 + 2)), .int .i64 (getI (G (k)) ((i) * 4 + 3))] : List AV)⟩, some ⟨1, ([.int .i64 (getI (G (k2)) ((i) * 4)), .int .i64 (getI (G (k2)) ((i) * 4 + 1)), .slice true (.ro (roK (G (k2)) ((i) * 4 + 2))) (roO (G (k2)) ((i) * 4 + 2)) (roN (G (k2)) ((i) * 4 + 2)), .int .i64 (getI (G (k2)) ((i) * 4 + 3))] : List AV)⟩, some ⟨1, ([.int .i64 (getI (G (k)) ((i) * 4)), .int .i64 (getI (G (k)) ((i) * 4 + 1)), .slice true (.ro (roK (G (k)) ((i) * 4 + 2))) (roO (G (k)) ((i) * 4 + 2)) (roN (G (k)) ((i) * 4 + 2)), .int .i64 (getI (G (k)) ((i) * 4 + 3))] : List AV)⟩, some ⟨1, ([.int .i64 (getI (G (k2)) ((i) * 4)), .int .i64 (getI (G (k2)) ((i) * 4 + 1)), .slice true (.ro (roK (G (k2)) ((i) * 4 + 2))) (roO (G (k2)) ((i) * 4 + 2)) (roN (G (k2)) ((i) * 4 + 2)), .int .i64 (getI (G (k2)) ((i) * 4 + 3))] : List AV)⟩])) ∧
    (decide ((((i : Nat) : Int) : Int) < ((n : Nat) : Int)) = false →
      Q (.exit 0) [.slice true (.ro (k2)) (0) (n2), .func 41 [], .bool (false), .slice true (.ro (k)) (0) (n), .int .i64 (((n : Nat) : Int)), .int .i64 (((i : Nat) : Int))] [])) := by kernel_rfl
theorem rs_d (G : Nat → List AV) (s s2 : Int) (k k2 n n2 kp kp2 m m2 i : Nat) (Q : Ex → List AV → Hp → Prop) (R : AV → Hp → Prop) : vT G Q R (dloop (Dc Try.prog [] [] [] 2) 300 20 2 (loopN Try.f15 1) 95 [2, 3, 4, 8] [.ptr (.rw 0) (.lit 0), .ptr (.rw 1) (.lit 0), .bool (.lit false), .int .i64 (.ofN (.var 8 i))] [some ⟨1, .of [.int .i64 (.var 4 s), .slice true (.ro (.var 1 k)) (.lit 0) (.var 2 n), .slice true (.ro (.var 5 kp)) (.lit 0) (.var 6 m)]⟩, some ⟨1, .of [.int .i64 (.var 10 s2), .slice true (.ro (.var 3 k2)) (.lit 0) (.var 9 n2), .slice true (.ro (.var 7 kp2)) (.lit 0) (.var 31 m2)]⟩]) = (
    (decide ((((i : Nat) : Int) : Int) < ((m : Nat) : Int)) = true →
      decide ((0 : Int) ≤ ((i : Nat) : Int)) = true ∧
      decide ((((i : Nat) : Int) : Int) < ((m : Nat) : Int)) = true ∧
      leafsOk (G (kp)) ((i) * 2) [.int .i64, .bool] = true ∧
      decide ((0 : Int) ≤ ((i : Nat) : Int)) = true ∧
      decide ((((i : Nat) : Int) : Int) < ((m2 : Nat) : Int)) = true ∧
      leafsOk (G (kp2)) ((i) * 2) [.int .i64, .bool] = true ∧
      (((getI (G (kp)) ((i) * 2) : Int) == getI (G (kp2)) ((i) * 2)) = true →
        (getB (G (kp)) ((i) * 2 + 1) = true →
          (getB (G (kp2)) ((i) * 2 + 1) = true →
            Q .normal [.ptr (.rw 0) (0), .ptr (.rw 1) (0), .bool (false), .int .i64 (IntKind.wrap .i64 (((i : Nat) : Int) + 1))] [some ⟨1, ([.int .i64 (s), .slice true (.ro (k)) (0) (n), .slice true (.ro (kp)) (0) (m)] : List AV)⟩, some ⟨1, ([.int .i64 (s2), .slice true (.ro (k2)) (0) (n2), .slice true (.ro (kp2)) (0) (m2)] : List AV)⟩]) ∧
          (getB (G (kp2)) ((i) * 2 + 1) = false →
            Q .ret [.ptr (.rw 0) (0), .ptr (.rw 1) (0), .bool (false), .int .i64 (((i : Nat) : Int))] [some ⟨1, ([.int .i64 (s), .slice true (.ro (k)) (0) (n), .slice true (.ro (kp)) (0) (m)] : List AV)⟩, some ⟨1, ([.int .i64 (s2), .slice true (.ro (k2)) (0) (n2), .slice true (.ro (kp2)) (0) (m2)] : List AV)⟩])) ∧
        (getB (G (kp)) ((i) * 2 + 1) = false →
          (getB (G (kp2)) ((i) * 2 + 1) = true →
            Q .ret [.ptr (.rw 0) (0), .ptr (.rw 1) (0), .bool (false), .int .i64 (((i : Nat) : Int))] [some ⟨1, ([.int .i64 (s), .slice true (.ro (k)) (0) (n), .slice true (.ro (kp)) (0) (m)] : List AV)⟩, some ⟨1, ([.int .i64 (s2), .slice true (.ro (k2)) (0) (n2), .slice true (.ro (kp2)) (0) (m2)] : List AV)⟩]) ∧
          (getB (G (kp2)) ((i) * 2 + 1) = false →
            Q .normal [.ptr (.rw 0) (0), .ptr (.rw 1) (0), .bool (false), .int .i64 (IntKind.wrap .i64 (((i : Nat) : Int) + 1))] [some ⟨1, ([.int .i64 (s), .slice true (.ro (k)) (0) (n), .slice true (.ro (kp)) (0) (m)] : List AV)⟩, some ⟨1, ([.int .i64 (s2), .slice true (.ro (k2)) (0) (n2), .slice true (.ro (kp2)) (0) (m2)] : List AV)⟩]))) ∧
      (((getI (G (kp)) ((i) * 2) : Int) == getI (G (kp2)) ((i) * 2)) = false →
        Q .ret [.ptr (.rw 0) (0), .ptr (.rw 1) (0), .bool (false), .int .i64 (((i : Nat) : Int))] [some ⟨1, ([.int .i64 (s), .slice true (.ro (k)) (0) (n), .slice true (.ro (kp)) (0) (m)] : List AV)⟩, some ⟨1, ([.int .i64 (s2), .slice true (.ro (k2)) (0) (n2), .slice true (.ro (kp2)) (0) (m2)] : List AV)⟩])) ∧
    (decide ((((i : Nat) : Int) : Int) < ((m : Nat) : Int)) = false →
      Q (.exit 2) [.ptr (.rw 0) (0), .ptr (.rw 1) (0), .bool (false), .int .i64 (((i : Nat) : Int))] [some ⟨1, ([.int .i64 (s), .slice true (.ro (k)) (0) (n), .slice true (.ro (kp)) (0) (m)] : List AV)⟩, some ⟨1, ([.int .i64 (s2), .slice true (.ro (k2)) (0) (n2), .slice true (.ro (kp2)) (0) (m2)] : List AV)⟩])) := by kernel_rfl
end Go.Am
