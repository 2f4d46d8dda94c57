/-
  Filters: the tests, what may be, what passes: the trees.
-/
import Derived.Test.YtnkcfoicbkobbaaBase6
import Derived.Test.YtnkcfoicbkobbaaProg
namespace Go.Am
open Go.Proofs
set_option maxRecDepth 100000
theorem mixF (G : Nat → List AV) (B : Nat) : ((⟨Try.prog, G, B⟩ : Ctx) : Ctx).P.follows .mixedOrders = true := by kernel_rfl
theorem ck_b (G : Nat → List AV) (k n : Nat) (i : Int) (Q : Ex → List AV → Hp → Prop) (R : AV → Hp → Prop) : vT G Q R (dloop (Dc Try.prog [] [] [] 0) 300 20 0 (loopN Try.f9 0) 35 [2, 8, 9, 10] [.int .i64 (.lit 0), .slice true (.ro (.var 1 k)) (.lit 0) (.var 2 n), .int .i64 (.ofN (.var 2 n)), .int .i64 (.var 6 i)] []) = (
    (decide ((i : Int) < ((n : Nat) : Int)) = true →
      decide ((0 : Int) ≤ i) = true ∧
      decide ((i : Int) < ((n : Nat) : Int)) = true ∧
      leafsOk (G (k)) ((Int.toNat (i)) * 3) [.int .i64, .int .i64, .int .i64] = true ∧
      (decide ((getI (G (k)) ((Int.toNat (i)) * 3) : Int) < 0) = true →
        Q .ret [.int .i64 (2), .slice true (.ro (k)) (0) (n), .int .i64 (((n : Nat) : Int)), .int .i64 (i)] [some ⟨1, ([.int .i64 (getI (G (k)) ((Int.toNat (i)) * 3)), .int .i64 (getI (G (k)) ((Int.toNat (i)) * 3 + 1)), .int .i64 (getI (G (k)) ((Int.toNat (i)) * 3 + 2))] : List AV)⟩]) ∧
      (decide ((getI (G (k)) ((Int.toNat (i)) * 3) : Int) < 0) = false →
        (decide ((getI (G (k)) ((Int.toNat (i)) * 3) : Int) ≥ 64) = true →
          Q .ret [.int .i64 (2), .slice true (.ro (k)) (0) (n), .int .i64 (((n : Nat) : Int)), .int .i64 (i)] [some ⟨1, ([.int .i64 (getI (G (k)) ((Int.toNat (i)) * 3)), .int .i64 (getI (G (k)) ((Int.toNat (i)) * 3 + 1)), .int .i64 (getI (G (k)) ((Int.toNat (i)) * 3 + 2))] : List AV)⟩]) ∧
        (decide ((getI (G (k)) ((Int.toNat (i)) * 3) : Int) ≥ 64) = false →
          (((kShr .i64 (getI (G (k)) ((Int.toNat (i)) * 3 + 1)) (8) : Int) == 0) = true →
            (((kShr .i64 (getI (G (k)) ((Int.toNat (i)) * 3 + 2)) (8) : Int) == 0) = true →
              Q .normal [.int .i64 (0), .slice true (.ro (k)) (0) (n), .int .i64 (((n : Nat) : Int)), .int .i64 (IntKind.wrap .i64 (i + 1))] [some ⟨1, ([.int .i64 (getI (G (k)) ((Int.toNat (i)) * 3)), .int .i64 (getI (G (k)) ((Int.toNat (i)) * 3 + 1)), .int .i64 (getI (G (k)) ((Int.toNat (i)) * 3 + 2))] : List AV)⟩]) ∧
            (((kShr .i64 (getI (G (k)) ((Int.toNat (i)) * 3 + 2)) (8) : Int) == 0) = false →
              Q .ret [.int .i64 (2), .slice true (.ro (k)) (0) (n), .int .i64 (((n : Nat) : Int)), .int .i64 (i)] [some ⟨1, ([.int .i64 (getI (G (k)) ((Int.toNat (i)) * 3)), .int .i64 (getI (G (k)) ((Int.toNat (i)) * 3 + 1)), .int .i64 (getI (G (k)) ((Int.toNat (i)) * 3 + 2))] : List AV)⟩])) ∧
          (((kShr .i64 (getI (G (k)) ((Int.toNat (i)) * 3 + 1)) (8) : Int) == 0) = false →
            Q .ret [.int .i64 (2), .slice true (.ro (k)) (0) (n), .int .i64 (((n : Nat) : Int)), .int .i64 (i)] [some ⟨1, ([.int .i64 (getI (G (k)) ((Int.toNat (i)) * 3)), .int .i64 (getI (G (k)) ((Int.toNat (i)) * 3 + 1)), .int .i64 (getI (G (k)) ((Int.toNat (i)) * 3 + 2))] : List AV)⟩])))) ∧
    (decide ((i : Int) < ((n : Nat) : Int)) = false →
      Q (.exit 0) [.int .i64 (0), .slice true (.ro (k)) (0) (n), .int .i64 (((n : Nat) : Int)), .int .i64 (i)] [])) := by kernel_rfl
theorem may_b (G : Nat → List AV) (k n : Nat) (i : Int) (Q : Ex → List AV → Hp → Prop) (R : AV → Hp → Prop) : vT G Q R (dloop (Dc Try.prog [] [] [] 0) 300 20 0 (loopN Try.f10 0) 59 [0, 2, 3] [.slice true (.ro (.var 1 k)) (.lit 0) (.var 2 n), .bool (.lit false), .int .i64 (.var 6 i)] []) = (
    (decide ((i : Int) < ((n : Nat) : Int)) = true →
      decide ((0 : Int) ≤ i) = true ∧
      decide ((i : Int) < ((n : Nat) : Int)) = true ∧
      isI .i64 (G (k)) ((Int.toNat (i)) * 3) = true ∧
      (decide ((getI (G (k)) ((Int.toNat (i)) * 3) : Int) < 0) = true →
        Q .ret [.slice true (.ro (k)) (0) (n), .bool (false), .int .i64 (i)] []) ∧
      (decide ((getI (G (k)) ((Int.toNat (i)) * 3) : Int) < 0) = false →
        decide ((0 : Int) ≤ i) = true ∧
        decide ((i : Int) < ((n : Nat) : Int)) = true ∧
        isI .i64 (G (k)) ((Int.toNat (i)) * 3) = true ∧
        (decide ((getI (G (k)) ((Int.toNat (i)) * 3) : Int) ≥ 64) = true →
          Q .ret [.slice true (.ro (k)) (0) (n), .bool (false), .int .i64 (i)] []) ∧
        (decide ((getI (G (k)) ((Int.toNat (i)) * 3) : Int) ≥ 64) = false →
          decide ((0 : Int) ≤ i) = true ∧
          decide ((i : Int) < ((n : Nat) : Int)) = true ∧
          isI .i64 (G (k)) ((Int.toNat (i)) * 3 + 1) = true ∧
          (decide ((getI (G (k)) ((Int.toNat (i)) * 3 + 1) : Int) < 0) = true →
            Q .ret [.slice true (.ro (k)) (0) (n), .bool (false), .int .i64 (i)] []) ∧
          (decide ((getI (G (k)) ((Int.toNat (i)) * 3 + 1) : Int) < 0) = false →
            decide ((0 : Int) ≤ i) = true ∧
            decide ((i : Int) < ((n : Nat) : Int)) = true ∧
            isI .i64 (G (k)) ((Int.toNat (i)) * 3 + 1) = true ∧
            (decide ((getI (G (k)) ((Int.toNat (i)) * 3 + 1) : Int) > 255) = true →
              Q .ret [.slice true (.ro (k)) (0) (n), .bool (false), .int .i64 (i)] []) ∧
            (decide ((getI (G (k)) ((Int.toNat (i)) * 3 + 1) : Int) > 255) = false →
              decide ((0 : Int) ≤ i) = true ∧
              decide ((i : Int) < ((n : Nat) : Int)) = true ∧
              isI .i64 (G (k)) ((Int.toNat (i)) * 3 + 2) = true ∧
              (decide ((getI (G (k)) ((Int.toNat (i)) * 3 + 2) : Int) < 0) = true →
                Q .ret [.slice true (.ro (k)) (0) (n), .bool (false), .int .i64 (i)] []) ∧
              (decide ((getI (G (k)) ((Int.toNat (i)) * 3 + 2) : Int) < 0) = false →
                decide ((0 : Int) ≤ i) = true ∧
                decide ((i : Int) < ((n : Nat) : Int)) = true ∧
                isI .i64 (G (k)) ((Int.toNat (i)) * 3 + 2) = true ∧
                (decide ((getI (G (k)) ((Int.toNat (i)) * 3 + 2) : Int) > 255) = true →
                  Q .ret [.slice true (.ro (k)) (0) (n), .bool (false), .int .i64 (i)] []) ∧
                (decide ((getI (G (k)) ((Int.toNat (i)) * 3 + 2) : Int) > 255) = false →
                  Q .normal [.slice true (.ro (k)) (0) (n), .bool (false), .int .i64 (IntKind.wrap .i64 (i + 1))] []))))))) ∧
    (decide ((i : Int) < ((n : Nat) : Int)) = false →
      Q (.exit 0) [.slice true (.ro (k)) (0) (n), .bool (false), .int .i64 (i)] [])) := by kernel_rfl
theorem ma_b (G : Nat → List AV) (k n k2 m : Nat) (i : Int) (Q : Ex → List AV → Hp → Prop) (R : AV → Hp → Prop) : vT G Q R (dloop (Dc Try.prog [] [] [] 0) 300 20 0 (loopN Try.f12 0) 51 [0, 1, 4, 5] [.slice true (.ro (.var 1 k)) (.lit 0) (.var 2 n), .slice true (.ro (.var 3 k2)) (.lit 0) (.var 4 m), .bool (.lit false), .int .i64 (.var 6 i)] []) = (
    (decide ((i : Int) < ((n : Nat) : Int)) = true →
      decide ((0 : Int) ≤ i) = true ∧
      decide ((i : Int) < ((n : Nat) : Int)) = true ∧
      isI .i64 (G (k)) ((Int.toNat (i)) * 3) = true ∧
      (decide ((getI (G (k)) ((Int.toNat (i)) * 3) : Int) ≥ ((m : Nat) : Int)) = true →
        Q .ret [.slice true (.ro (k)) (0) (n), .slice true (.ro (k2)) (0) (m), .bool (false), .int .i64 (i)] []) ∧
      (decide ((getI (G (k)) ((Int.toNat (i)) * 3) : Int) ≥ ((m : Nat) : Int)) = false →
        decide ((0 : Int) ≤ i) = true ∧
        decide ((i : Int) < ((n : Nat) : Int)) = true ∧
        isI .i64 (G (k)) ((Int.toNat (i)) * 3) = true ∧
        decide ((0 : Int) ≤ getI (G (k)) ((Int.toNat (i)) * 3)) = true ∧
        decide ((getI (G (k)) ((Int.toNat (i)) * 3) : Int) < ((m : Nat) : Int)) = true ∧
        isI .u8 (G (k2)) (Int.toNat (getI (G (k)) ((Int.toNat (i)) * 3))) = true ∧
        decide ((0 : Int) ≤ i) = true ∧
        decide ((i : Int) < ((n : Nat) : Int)) = true ∧
        isI .i64 (G (k)) ((Int.toNat (i)) * 3 + 1) = true ∧
        decide ((0 : Int) ≤ i) = true ∧
        decide ((i : Int) < ((n : Nat) : Int)) = true ∧
        isI .i64 (G (k)) ((Int.toNat (i)) * 3 + 2) = true ∧
        (((kAnd .i64 (IntKind.wrap .i64 (getI (G (k2)) (Int.toNat (getI (G (k)) ((Int.toNat (i)) * 3))))) (getI (G (k)) ((Int.toNat (i)) * 3 + 1)) : Int) == getI (G (k)) ((Int.toNat (i)) * 3 + 2)) = true →
          Q .normal [.slice true (.ro (k)) (0) (n), .slice true (.ro (k2)) (0) (m), .bool (false), .int .i64 (IntKind.wrap .i64 (i + 1))] []) ∧
        (((kAnd .i64 (IntKind.wrap .i64 (getI (G (k2)) (Int.toNat (getI (G (k)) ((Int.toNat (i)) * 3))))) (getI (G (k)) ((Int.toNat (i)) * 3 + 1)) : Int) == getI (G (k)) ((Int.toNat (i)) * 3 + 2)) = false →
          Q .ret [.slice true (.ro (k)) (0) (n), .slice true (.ro (k2)) (0) (m), .bool (false), .int .i64 (i)] []))) ∧
    (decide ((i : Int) < ((n : Nat) : Int)) = false →
      Q (.exit 0) [.slice true (.ro (k)) (0) (n), .slice true (.ro (k2)) (0) (m), .bool (false), .int .i64 (i)] [])) := by kernel_rfl
theorem ix_b (G : Nat → List AV) (k n k2 m : Nat) (i : Int) (Q : Ex → List AV → Hp → Prop) (R : AV → Hp → Prop) : vT G Q R (dloop (Dc Try.prog [27] [] [] 0) 300 20 1 (loopN Try.f39 0) 19 [0, 1, 4, 7, 8] [.slice true (.ro (.var 1 k)) (.lit 0) (.var 2 n), .func 27 [.ptr (.rw 0) (.lit 0)], .int .i64 (.lit 0), .int .i64 (.ofN (.var 2 n)), .int .i64 (.var 6 i)] [some ⟨1, .of [.slice true (.ro (.var 3 k2)) (.lit 0) (.var 4 m)]⟩]) = (
    (decide ((i : Int) < ((n : Nat) : Int)) = true →
      decide ((0 : Int) ≤ i) = true ∧
      decide ((i : Int) < ((n : Nat) : Int)) = true ∧
      leafsOk (G (k)) ((Int.toNat (i)) * 3) [.int .i64, .int .i64, .int .i64] = true ∧
      (decide ((getI (G (k)) ((Int.toNat (i)) * 3) : Int) ≥ ((m : Nat) : Int)) = true →
        Q .ret [.slice true (.ro (k)) (0) (n), .func 27 [.ptr (.rw 0) (0)], .int .i64 (i), .int .i64 (((n : Nat) : Int)), .int .i64 (i)] [some ⟨1, ([.slice true (.ro (k2)) (0) (m)] : List AV)⟩, some ⟨1, ([.int .i64 (getI (G (k)) ((Int.toNat (i)) * 3)), .int .i64 (getI (G (k)) ((Int.toNat (i)) * 3 + 1)), .int .i64 (getI (G (k)) ((Int.toNat (i)) * 3 + 2))] : List AV)⟩]) ∧
      (decide ((getI (G (k)) ((Int.toNat (i)) * 3) : Int) ≥ ((m : Nat) : Int)) = false →
        decide ((0 : Int) ≤ getI (G (k)) ((Int.toNat (i)) * 3)) = true ∧
        decide ((getI (G (k)) ((Int.toNat (i)) * 3) : Int) < ((m : Nat) : Int)) = true ∧
        isI .u8 (G (k2)) (Int.toNat (getI (G (k)) ((Int.toNat (i)) * 3))) = true ∧
        (((kAnd .i64 (IntKind.wrap .i64 (getI (G (k2)) (Int.toNat (getI (G (k)) ((Int.toNat (i)) * 3))))) (getI (G (k)) ((Int.toNat (i)) * 3 + 1)) : Int) == getI (G (k)) ((Int.toNat (i)) * 3 + 2)) = true →
          Q .normal [.slice true (.ro (k)) (0) (n), .func 27 [.ptr (.rw 0) (0)], .int .i64 (0), .int .i64 (((n : Nat) : Int)), .int .i64 (IntKind.wrap .i64 (i + 1))] [some ⟨1, ([.slice true (.ro (k2)) (0) (m)] : List AV)⟩, some ⟨1, ([.int .i64 (getI (G (k)) ((Int.toNat (i)) * 3)), .int .i64 (getI (G (k)) ((Int.toNat (i)) * 3 + 1)), .int .i64 (getI (G (k)) ((Int.toNat (i)) * 3 + 2))] : List AV)⟩]) ∧
        (((kAnd .i64 (IntKind.wrap .i64 (getI (G (k2)) (Int.toNat (getI (G (k)) ((Int.toNat (i)) * 3))))) (getI (G (k)) ((Int.toNat (i)) * 3 + 1)) : Int) == getI (G (k)) ((Int.toNat (i)) * 3 + 2)) = false →
          Q .ret [.slice true (.ro (k)) (0) (n), .func 27 [.ptr (.rw 0) (0)], .int .i64 (i), .int .i64 (((n : Nat) : Int)), .int .i64 (i)] [some ⟨1, ([.slice true (.ro (k2)) (0) (m)] : List AV)⟩, some ⟨1, ([.int .i64 (getI (G (k)) ((Int.toNat (i)) * 3)), .int .i64 (getI (G (k)) ((Int.toNat (i)) * 3 + 1)), .int .i64 (getI (G (k)) ((Int.toNat (i)) * 3 + 2))] : List AV)⟩]))) ∧
    (decide ((i : Int) < ((n : Nat) : Int)) = false →
      Q (.exit 0) [.slice true (.ro (k)) (0) (n), .func 27 [.ptr (.rw 0) (0)], .int .i64 (0), .int .i64 (((n : Nat) : Int)), .int .i64 (i)] [some ⟨1, ([.slice true (.ro (k2)) (0) (m)] : List AV)⟩])) := by kernel_rfl
theorem ix_z (G : Nat → List AV) (l : List AV) (n : Nat) (i : Int) (Q : Ex → List AV → Hp → Prop) (R : AV → Hp → Prop) : vT G Q R (dloop (Dc Try.prog [42] [] [] 0) 300 20 1 (loopN Try.f39 0) 19 [0, 1, 4, 7, 8] [.slice true (.rw 0) (.lit 0) (.var 2 n), .func 42 [], .int .i64 (.lit 0), .int .i64 (.ofN (.var 2 n)), .int .i64 (.var 6 i)] [some ⟨3, .var 8 l⟩]) = (
    (decide ((i : Int) < ((n : Nat) : Int)) = true →
      decide ((0 : Int) ≤ i) = true ∧
      decide ((i : Int) < ((n : Nat) : Int)) = true ∧
      leB ((Int.toNat (i)) * 3 + 3) (List.length l) = true ∧
      isI .i64 (subL l ((Int.toNat (i)) * 3) (3)) (1) = true ∧
      (((getI (subL l ((Int.toNat (i)) * 3) (3)) (1) : Int) == 0) = true →
        Q .ret [.slice true (.rw 0) (0) (n), .func 42 [], .int .i64 (i), .int .i64 (((n : Nat) : Int)), .int .i64 (i)] [some ⟨3, l⟩, some ⟨1, (subL l ((Int.toNat (i)) * 3) (3))⟩]) ∧
      (((getI (subL l ((Int.toNat (i)) * 3) (3)) (1) : Int) == 0) = false →
        Q .normal [.slice true (.rw 0) (0) (n), .func 42 [], .int .i64 (0), .int .i64 (((n : Nat) : Int)), .int .i64 (IntKind.wrap .i64 (i + 1))] [some ⟨3, l⟩, some ⟨1, (subL l ((Int.toNat (i)) * 3) (3))⟩])) ∧
    (decide ((i : Int) < ((n : Nat) : Int)) = false →
      Q (.exit 0) [.slice true (.rw 0) (0) (n), .func 42 [], .int .i64 (0), .int .i64 (((n : Nat) : Int)), .int .i64 (i)] [some ⟨3, l⟩])) := by kernel_rfl
end Go.Am
