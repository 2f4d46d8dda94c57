/-
  Images: the document's Same: a round over the sections: trees.
-/
import Derived.Test.YthejjolnlngahaaImH
import Derived.Test.YthejjolnlngahaaBase6
namespace Go.Am
open Go.Proofs
set_option maxRecDepth 100000
def sq1 : Code → Code
  | .seq a _ => a
  | c => c
def sq2 : Code → Code
  | .seq _ b => b
  | c => c
def blkc : Code → Code
  | .block _ c => c
  | c => c
def rOps : Code → Array Oper
  | .region _ o _ => o
  | _ => #[]
def rgOf (c : Code) : Array Oper := rOps (sq1 (blkc (sq1 (sq2 c))))
theorem rx_a (G : Nat → List AV) (s s2 : Int) (k k2 n n2 kp kp2 m m2 i : Nat) (Q : Ex → List AV → Hp → Prop) (R : AV → Hp → Prop) : vT G Q R (dloop (Dc Try.prog [] [] [] 2) 300 20 2 (sq1 (loopN Try.f15 0)) 95 [2, 3, 4, 5] [.ptr (.rw 0) (.lit 0), .ptr (.rw 1) (.lit 0), .bool (.lit false), .int .i64 (.ofN (.var 8 i))] [some ⟨1, .of [.int .i64 (.var 4 s), .slice true (.ro (.var 1 k)) (.lit 0) (.var 2 n), .slice true (.ro (.var 5 kp)) (.lit 0) (.var 6 m)]⟩, some ⟨1, .of [.int .i64 (.var 10 s2), .slice true (.ro (.var 3 k2)) (.lit 0) (.var 9 n2), .slice true (.ro (.var 7 kp2)) (.lit 0) (.var 31 m2)]⟩]) = (
    (decide ((((i : Nat) : Int) : Int) < ((n : Nat) : Int)) = true →
      Q .normal [.ptr (.rw 0) (0), .ptr (.rw 1) (0), .bool (false), .int .i64 (((i : Nat) : Int))] [some ⟨1, ([.int .i64 (s), .slice true (.ro (k)) (0) (n), .slice true (.ro (kp)) (0) (m)] : List AV)⟩, some ⟨1, ([.int .i64 (s2), .slice true (.ro (k2)) (0) (n2), .slice true (.ro (kp2)) (0) (m2)] : List AV)⟩]) ∧
    (decide ((((i : Nat) : Int) : Int) < ((n : Nat) : Int)) = false →
      Q (.exit 0) [.ptr (.rw 0) (0), .ptr (.rw 1) (0), .bool (false), .int .i64 (((i : Nat) : Int))] [some ⟨1, ([.int .i64 (s), .slice true (.ro (k)) (0) (n), .slice true (.ro (kp)) (0) (m)] : List AV)⟩, some ⟨1, ([.int .i64 (s2), .slice true (.ro (k2)) (0) (n2), .slice true (.ro (kp2)) (0) (m2)] : List AV)⟩])) := by kernel_rfl
theorem rx_1 (G : Nat → List AV) (s s2 : Int) (k k2 n n2 kp kp2 m m2 i : Nat) (Q : Ex → List AV → Hp → Prop) (R : AV → Hp → Prop) : vT G Q R (dloop (Dc Try.prog [] [] [] 2) 301 20 2 (.region 6 (ord1 (rgOf (loopN Try.f15 0)) 10 11).toArray true) 95 [2, 3, 4, 5, 6, 7] [.ptr (.rw 0) (.lit 0), .ptr (.rw 1) (.lit 0), .bool (.lit false), .int .i64 (.ofN (.var 8 i)), .undef, .undef] [some ⟨1, .of [.int .i64 (.var 4 s), .slice true (.ro (.var 1 k)) (.lit 0) (.var 2 n), .slice true (.ro (.var 5 kp)) (.lit 0) (.var 6 m)]⟩, some ⟨1, .of [.int .i64 (.var 10 s2), .slice true (.ro (.var 3 k2)) (.lit 0) (.var 9 n2), .slice true (.ro (.var 7 kp2)) (.lit 0) (.var 31 m2)]⟩]) = (
    decide ((0 : Int) ≤ ((i : Nat) : Int)) = true ∧
    decide ((((i : Nat) : Int) : Int) < ((n : Nat) : Int)) = true ∧
    leafsOk (G (k)) ((i) * 4) [.int .i64, .int .i64, .sl, .int .i64] = true ∧
    decide ((0 : Int) ≤ ((i : Nat) : Int)) = true ∧
    decide ((((i : Nat) : Int) : Int) < ((n2 : Nat) : Int)) = true ∧
    leafsOk (G (k2)) ((i) * 4) [.int .i64, .int .i64, .sl, .int .i64] = true ∧
    Q .normal [.ptr (.rw 0) (0), .ptr (.rw 1) (0), .bool (false), .int .i64 (((i : Nat) : Int)), .ptr (.rw 2) (0), .ptr (.rw 3) (0)] [some ⟨1, ([.int .i64 (s), .slice true (.ro (k)) (0) (n), .slice true (.ro (kp)) (0) (m)] : List AV)⟩, some ⟨1, ([.int .i64 (s2), .slice true (.ro (k2)) (0) (n2), .slice true (.ro (kp2)) (0) (m2)] : List AV)⟩, some ⟨1, ([.int .i64 (getI (G (k)) ((i) * 4)), .int .i64 (getI (G (k)) ((i) * 4 + 1)), .slice true (.ro (roK (G (k)) ((i) * 4 + 2))) (roO (G (k)) ((i) * 4 + 2)) (roN (G (k)) ((i) * 4 + 2)), .int .i64 (getI (G (k)) ((i) * 4 + 3))] : List AV)⟩, some ⟨1, ([.int .i64 (getI (G (k2)) ((i) * 4)), .int .i64 (getI (G (k2)) ((i) * 4 + 1)), .slice true (.ro (roK (G (k2)) ((i) * 4 + 2))) (roO (G (k2)) ((i) * 4 + 2)) (roN (G (k2)) ((i) * 4 + 2)), .int .i64 (getI (G (k2)) ((i) * 4 + 3))] : List AV)⟩]) := by kernel_rfl
theorem rx_2 (G : Nat → List AV) (s s2 : Int) (k k2 n n2 kp kp2 m m2 i : Nat) (Q : Ex → List AV → Hp → Prop) (R : AV → Hp → Prop) : vT G Q R (dloop (Dc Try.prog [] [] [] 2) 301 20 2 (.region 6 (ord2 (rgOf (loopN Try.f15 0)) 10 11).toArray true) 95 [2, 3, 4, 5, 6, 7] [.ptr (.rw 0) (.lit 0), .ptr (.rw 1) (.lit 0), .bool (.lit false), .int .i64 (.ofN (.var 8 i)), .undef, .undef] [some ⟨1, .of [.int .i64 (.var 4 s), .slice true (.ro (.var 1 k)) (.lit 0) (.var 2 n), .slice true (.ro (.var 5 kp)) (.lit 0) (.var 6 m)]⟩, some ⟨1, .of [.int .i64 (.var 10 s2), .slice true (.ro (.var 3 k2)) (.lit 0) (.var 9 n2), .slice true (.ro (.var 7 kp2)) (.lit 0) (.var 31 m2)]⟩]) = (
    decide ((0 : Int) ≤ ((i : Nat) : Int)) = true ∧
    decide ((((i : Nat) : Int) : Int) < ((n : Nat) : Int)) = true ∧
    leafsOk (G (k)) ((i) * 4) [.int .i64, .int .i64, .sl, .int .i64] = true ∧
    decide ((0 : Int) ≤ ((i : Nat) : Int)) = true ∧
    decide ((((i : Nat) : Int) : Int) < ((n2 : Nat) : Int)) = true ∧
    leafsOk (G (k2)) ((i) * 4) [.int .i64, .int .i64, .sl, .int .i64] = true ∧
    Q .normal [.ptr (.rw 0) (0), .ptr (.rw 1) (0), .bool (false), .int .i64 (((i : Nat) : Int)), .ptr (.rw 3) (0), .ptr (.rw 2) (0)] [some ⟨1, ([.int .i64 (s), .slice true (.ro (k)) (0) (n), .slice true (.ro (kp)) (0) (m)] : List AV)⟩, some ⟨1, ([.int .i64 (s2), .slice true (.ro (k2)) (0) (n2), .slice true (.ro (kp2)) (0) (m2)] : List AV)⟩, some ⟨1, ([.int .i64 (getI (G (k2)) ((i) * 4)), .int .i64 (getI (G (k2)) ((i) * 4 + 1)), .slice true (.ro (roK (G (k2)) ((i) * 4 + 2))) (roO (G (k2)) ((i) * 4 + 2)) (roN (G (k2)) ((i) * 4 + 2)), .int .i64 (getI (G (k2)) ((i) * 4 + 3))] : List AV)⟩, some ⟨1, ([.int .i64 (getI (G (k)) ((i) * 4)), .int .i64 (getI (G (k)) ((i) * 4 + 1)), .slice true (.ro (roK (G (k)) ((i) * 4 + 2))) (roO (G (k)) ((i) * 4 + 2)) (roN (G (k)) ((i) * 4 + 2)), .int .i64 (getI (G (k)) ((i) * 4 + 3))] : List AV)⟩]) := by kernel_rfl
theorem ry_1 (G : Nat → List AV) (s s2 : Int) (k k2 n n2 kp kp2 m m2 i : Nat) (a1 r1 z1 a2 r2 z2 : Int) (d1 o1 e1 d2 o2 e2 : Nat) (Q : Ex → List AV → Hp → Prop) (R : AV → Hp → Prop) : vT G Q R (dloop (Dc Try.prog [] [] [] 2) 300 20 2 (sq2 (blkc (sq1 (sq2 (loopN Try.f15 0))))) 95 [2, 3, 4, 5, 6, 7] [.ptr (.rw 0) (.lit 0), .ptr (.rw 1) (.lit 0), .bool (.lit false), .int .i64 (.ofN (.var 8 i)), .ptr (.rw 2) (.lit 0), .ptr (.rw 3) (.lit 0)] [some ⟨1, .of [.int .i64 (.var 4 s), .slice true (.ro (.var 1 k)) (.lit 0) (.var 2 n), .slice true (.ro (.var 5 kp)) (.lit 0) (.var 6 m)]⟩, some ⟨1, .of [.int .i64 (.var 10 s2), .slice true (.ro (.var 3 k2)) (.lit 0) (.var 9 n2), .slice true (.ro (.var 7 kp2)) (.lit 0) (.var 31 m2)]⟩, some ⟨1, .of [.int .i64 (.var 11 a1), .int .i64 (.var 12 r1), .slice true (.ro (.var 13 d1)) (.var 14 o1) (.var 15 e1), .int .i64 (.var 16 z1)]⟩, some ⟨1, .of [.int .i64 (.var 21 a2), .int .i64 (.var 22 r2), .slice true (.ro (.var 23 d2)) (.var 24 o2) (.var 25 e2), .int .i64 (.var 26 z2)]⟩]) = (
    (((a1 : Int) == a2) = true →
      (((r1 : Int) == r2) = true →
        leB (o1 + e1) (List.length (G (d1))) = true ∧
        u8s (subL (G (d1)) (o1) (e1)) = true ∧
        leB (o2 + e2) (List.length (G (d2))) = true ∧
        u8s (subL (G (d2)) (o2) (e2)) = true ∧
        ((((strL (subL (G (d1)) (o1) (e1))) : List UInt8) == (strL (subL (G (d2)) (o2) (e2)))) = true →
          (((z1 : Int) == z2) = true →
            Q .normal [.ptr (.rw 0) (0), .ptr (.rw 1) (0), .bool (false), .int .i64 (((i : Nat) : Int)), .ptr (.rw 2) (0), .ptr (.rw 3) (0)] [some ⟨1, ([.int .i64 (s), .slice true (.ro (k)) (0) (n), .slice true (.ro (kp)) (0) (m)] : List AV)⟩, some ⟨1, ([.int .i64 (s2), .slice true (.ro (k2)) (0) (n2), .slice true (.ro (kp2)) (0) (m2)] : List AV)⟩, some ⟨1, ([.int .i64 (a1), .int .i64 (r1), .slice true (.ro (d1)) (o1) (e1), .int .i64 (z1)] : List AV)⟩, some ⟨1, ([.int .i64 (a2), .int .i64 (r2), .slice true (.ro (d2)) (o2) (e2), .int .i64 (z2)] : List AV)⟩]) ∧
          (((z1 : Int) == z2) = false →
            Q .ret [.ptr (.rw 0) (0), .ptr (.rw 1) (0), .bool (false), .int .i64 (((i : Nat) : Int)), .ptr (.rw 2) (0), .ptr (.rw 3) (0)] [some ⟨1, ([.int .i64 (s), .slice true (.ro (k)) (0) (n), .slice true (.ro (kp)) (0) (m)] : List AV)⟩, some ⟨1, ([.int .i64 (s2), .slice true (.ro (k2)) (0) (n2), .slice true (.ro (kp2)) (0) (m2)] : List AV)⟩, some ⟨1, ([.int .i64 (a1), .int .i64 (r1), .slice true (.ro (d1)) (o1) (e1), .int .i64 (z1)] : List AV)⟩, some ⟨1, ([.int .i64 (a2), .int .i64 (r2), .slice true (.ro (d2)) (o2) (e2), .int .i64 (z2)] : List AV)⟩])) ∧
        ((((strL (subL (G (d1)) (o1) (e1))) : List UInt8) == (strL (subL (G (d2)) (o2) (e2)))) = false →
          Q .ret [.ptr (.rw 0) (0), .ptr (.rw 1) (0), .bool (false), .int .i64 (((i : Nat) : Int)), .ptr (.rw 2) (0), .ptr (.rw 3) (0)] [some ⟨1, ([.int .i64 (s), .slice true (.ro (k)) (0) (n), .slice true (.ro (kp)) (0) (m)] : List AV)⟩, some ⟨1, ([.int .i64 (s2), .slice true (.ro (k2)) (0) (n2), .slice true (.ro (kp2)) (0) (m2)] : List AV)⟩, some ⟨1, ([.int .i64 (a1), .int .i64 (r1), .slice true (.ro (d1)) (o1) (e1), .int .i64 (z1)] : List AV)⟩, some ⟨1, ([.int .i64 (a2), .int .i64 (r2), .slice true (.ro (d2)) (o2) (e2), .int .i64 (z2)] : List AV)⟩])) ∧
      (((r1 : Int) == r2) = false →
        Q .ret [.ptr (.rw 0) (0), .ptr (.rw 1) (0), .bool (false), .int .i64 (((i : Nat) : Int)), .ptr (.rw 2) (0), .ptr (.rw 3) (0)] [some ⟨1, ([.int .i64 (s), .slice true (.ro (k)) (0) (n), .slice true (.ro (kp)) (0) (m)] : List AV)⟩, some ⟨1, ([.int .i64 (s2), .slice true (.ro (k2)) (0) (n2), .slice true (.ro (kp2)) (0) (m2)] : List AV)⟩, some ⟨1, ([.int .i64 (a1), .int .i64 (r1), .slice true (.ro (d1)) (o1) (e1), .int .i64 (z1)] : List AV)⟩, some ⟨1, ([.int .i64 (a2), .int .i64 (r2), .slice true (.ro (d2)) (o2) (e2), .int .i64 (z2)] : List AV)⟩])) ∧
    (((a1 : Int) == a2) = false →
      Q .ret [.ptr (.rw 0) (0), .ptr (.rw 1) (0), .bool (false), .int .i64 (((i : Nat) : Int)), .ptr (.rw 2) (0), .ptr (.rw 3) (0)] [some ⟨1, ([.int .i64 (s), .slice true (.ro (k)) (0) (n), .slice true (.ro (kp)) (0) (m)] : List AV)⟩, some ⟨1, ([.int .i64 (s2), .slice true (.ro (k2)) (0) (n2), .slice true (.ro (kp2)) (0) (m2)] : List AV)⟩, some ⟨1, ([.int .i64 (a1), .int .i64 (r1), .slice true (.ro (d1)) (o1) (e1), .int .i64 (z1)] : List AV)⟩, some ⟨1, ([.int .i64 (a2), .int .i64 (r2), .slice true (.ro (d2)) (o2) (e2), .int .i64 (z2)] : List AV)⟩])) := by kernel_rfl
theorem ry_2 (G : Nat → List AV) (s s2 : Int) (k k2 n n2 kp kp2 m m2 i : Nat) (a1 r1 z1 a2 r2 z2 : Int) (d1 o1 e1 d2 o2 e2 : Nat) (Q : Ex → List AV → Hp → Prop) (R : AV → Hp → Prop) : vT G Q R (dloop (Dc Try.prog [] [] [] 2) 300 20 2 (sq2 (blkc (sq1 (sq2 (loopN Try.f15 0))))) 95 [2, 3, 4, 5, 6, 7] [.ptr (.rw 0) (.lit 0), .ptr (.rw 1) (.lit 0), .bool (.lit false), .int .i64 (.ofN (.var 8 i)), .ptr (.rw 3) (.lit 0), .ptr (.rw 2) (.lit 0)] [some ⟨1, .of [.int .i64 (.var 4 s), .slice true (.ro (.var 1 k)) (.lit 0) (.var 2 n), .slice true (.ro (.var 5 kp)) (.lit 0) (.var 6 m)]⟩, some ⟨1, .of [.int .i64 (.var 10 s2), .slice true (.ro (.var 3 k2)) (.lit 0) (.var 9 n2), .slice true (.ro (.var 7 kp2)) (.lit 0) (.var 31 m2)]⟩, some ⟨1, .of [.int .i64 (.var 21 a2), .int .i64 (.var 22 r2), .slice true (.ro (.var 23 d2)) (.var 24 o2) (.var 25 e2), .int .i64 (.var 26 z2)]⟩, some ⟨1, .of [.int .i64 (.var 11 a1), .int .i64 (.var 12 r1), .slice true (.ro (.var 13 d1)) (.var 14 o1) (.var 15 e1), .int .i64 (.var 16 z1)]⟩]) = (
    (((a1 : Int) == a2) = true →
      (((r1 : Int) == r2) = true →
        leB (o1 + e1) (List.length (G (d1))) = true ∧
        u8s (subL (G (d1)) (o1) (e1)) = true ∧
        leB (o2 + e2) (List.length (G (d2))) = true ∧
        u8s (subL (G (d2)) (o2) (e2)) = true ∧
        ((((strL (subL (G (d1)) (o1) (e1))) : List UInt8) == (strL (subL (G (d2)) (o2) (e2)))) = true →
          (((z1 : Int) == z2) = true →
            Q .normal [.ptr (.rw 0) (0), .ptr (.rw 1) (0), .bool (false), .int .i64 (((i : Nat) : Int)), .ptr (.rw 3) (0), .ptr (.rw 2) (0)] [some ⟨1, ([.int .i64 (s), .slice true (.ro (k)) (0) (n), .slice true (.ro (kp)) (0) (m)] : List AV)⟩, some ⟨1, ([.int .i64 (s2), .slice true (.ro (k2)) (0) (n2), .slice true (.ro (kp2)) (0) (m2)] : List AV)⟩, some ⟨1, ([.int .i64 (a2), .int .i64 (r2), .slice true (.ro (d2)) (o2) (e2), .int .i64 (z2)] : List AV)⟩, some ⟨1, ([.int .i64 (a1), .int .i64 (r1), .slice true (.ro (d1)) (o1) (e1), .int .i64 (z1)] : List AV)⟩]) ∧
          (((z1 : Int) == z2) = false →
            Q .ret [.ptr (.rw 0) (0), .ptr (.rw 1) (0), .bool (false), .int .i64 (((i : Nat) : Int)), .ptr (.rw 3) (0), .ptr (.rw 2) (0)] [some ⟨1, ([.int .i64 (s), .slice true (.ro (k)) (0) (n), .slice true (.ro (kp)) (0) (m)] : List AV)⟩, some ⟨1, ([.int .i64 (s2), .slice true (.ro (k2)) (0) (n2), .slice true (.ro (kp2)) (0) (m2)] : List AV)⟩, some ⟨1, ([.int .i64 (a2), .int .i64 (r2), .slice true (.ro (d2)) (o2) (e2), .int .i64 (z2)] : List AV)⟩, some ⟨1, ([.int .i64 (a1), .int .i64 (r1), .slice true (.ro (d1)) (o1) (e1), .int .i64 (z1)] : List AV)⟩])) ∧
        ((((strL (subL (G (d1)) (o1) (e1))) : List UInt8) == (strL (subL (G (d2)) (o2) (e2)))) = false →
          Q .ret [.ptr (.rw 0) (0), .ptr (.rw 1) (0), .bool (false), .int .i64 (((i : Nat) : Int)), .ptr (.rw 3) (0), .ptr (.rw 2) (0)] [some ⟨1, ([.int .i64 (s), .slice true (.ro (k)) (0) (n), .slice true (.ro (kp)) (0) (m)] : List AV)⟩, some ⟨1, ([.int .i64 (s2), .slice true (.ro (k2)) (0) (n2), .slice true (.ro (kp2)) (0) (m2)] : List AV)⟩, some ⟨1, ([.int .i64 (a2), .int .i64 (r2), .slice true (.ro (d2)) (o2) (e2), .int .i64 (z2)] : List AV)⟩, some ⟨1, ([.int .i64 (a1), .int .i64 (r1), .slice true (.ro (d1)) (o1) (e1), .int .i64 (z1)] : List AV)⟩])) ∧
      (((r1 : Int) == r2) = false →
        Q .ret [.ptr (.rw 0) (0), .ptr (.rw 1) (0), .bool (false), .int .i64 (((i : Nat) : Int)), .ptr (.rw 3) (0), .ptr (.rw 2) (0)] [some ⟨1, ([.int .i64 (s), .slice true (.ro (k)) (0) (n), .slice true (.ro (kp)) (0) (m)] : List AV)⟩, some ⟨1, ([.int .i64 (s2), .slice true (.ro (k2)) (0) (n2), .slice true (.ro (kp2)) (0) (m2)] : List AV)⟩, some ⟨1, ([.int .i64 (a2), .int .i64 (r2), .slice true (.ro (d2)) (o2) (e2), .int .i64 (z2)] : List AV)⟩, some ⟨1, ([.int .i64 (a1), .int .i64 (r1), .slice true (.ro (d1)) (o1) (e1), .int .i64 (z1)] : List AV)⟩])) ∧
    (((a1 : Int) == a2) = false →
      Q .ret [.ptr (.rw 0) (0), .ptr (.rw 1) (0), .bool (false), .int .i64 (((i : Nat) : Int)), .ptr (.rw 3) (0), .ptr (.rw 2) (0)] [some ⟨1, ([.int .i64 (s), .slice true (.ro (k)) (0) (n), .slice true (.ro (kp)) (0) (m)] : List AV)⟩, some ⟨1, ([.int .i64 (s2), .slice true (.ro (k2)) (0) (n2), .slice true (.ro (kp2)) (0) (m2)] : List AV)⟩, some ⟨1, ([.int .i64 (a2), .int .i64 (r2), .slice true (.ro (d2)) (o2) (e2), .int .i64 (z2)] : List AV)⟩, some ⟨1, ([.int .i64 (a1), .int .i64 (r1), .slice true (.ro (d1)) (o1) (e1), .int .i64 (z1)] : List AV)⟩])) := by kernel_rfl
theorem rz_1 (G : Nat → List AV) (s s2 : Int) (k k2 n n2 kp kp2 m m2 i : Nat) (Q : Ex → List AV → Hp → Prop) (R : AV → Hp → Prop) : vT G Q R (dloop (Dc Try.prog [] [] [] 2) 300 20 2 (sq2 (sq2 (loopN Try.f15 0))) 95 [2, 3, 4, 5] [.ptr (.rw 0) (.lit 0), .ptr (.rw 1) (.lit 0), .bool (.lit false), .int .i64 (.ofN (.var 8 i))] [some ⟨1, .of [.int .i64 (.var 4 s), .slice true (.ro (.var 1 k)) (.lit 0) (.var 2 n), .slice true (.ro (.var 5 kp)) (.lit 0) (.var 6 m)]⟩, some ⟨1, .of [.int .i64 (.var 10 s2), .slice true (.ro (.var 3 k2)) (.lit 0) (.var 9 n2), .slice true (.ro (.var 7 kp2)) (.lit 0) (.var 31 m2)]⟩]) = (
    Q .normal [.ptr (.rw 0) (0), .ptr (.rw 1) (0), .bool (false), .int .i64 (IntKind.wrap .i64 (((i : Nat) : Int) + 1))] [some ⟨1, ([.int .i64 (s), .slice true (.ro (k)) (0) (n), .slice true (.ro (kp)) (0) (m)] : List AV)⟩, some ⟨1, ([.int .i64 (s2), .slice true (.ro (k2)) (0) (n2), .slice true (.ro (kp2)) (0) (m2)] : List AV)⟩]) := by kernel_rfl
end Go.Am
