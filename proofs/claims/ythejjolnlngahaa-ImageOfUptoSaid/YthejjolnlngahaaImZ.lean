/-
  ImageOf: the law behind its drawn region: trees.
-/
import Derived.Test.YthejjolnlngahaaImT
namespace Go.Am
open Go.Proofs
set_option maxRecDepth 100000
def sq5 (c : Code) : Code := sq2 (sq2 (sq2 (sq2 (sq2 c))))
theorem p6 (G : Nat → List AV) (kc n kq m k c kp d h e hp f : Nat) (x y : Int) (ow sp pz dz : List AV) (Q : Ex → List AV → Hp → Prop) (R : AV → Hp → Prop) : vT G Q R (dloop (Dc Try.prog [18] [(21, may1S)] [] 0) 301 20 0 (sq1 (sq5 (bodyOf Try.f4))) 133 [0, 1, 5, 6, 7, 8, 9, 10, 11, 12] [.slice true (.ro (.var 1 kc)) (.lit 0) (.var 2 n), .slice true (.ro (.var 3 kq)) (.lit 0) (.var 4 m), .ptr (.rw 0) (.lit 0), .bool (.lit false), .slice false (.rw 1) (.lit 0) (.add (.var 2 n) (.lit 1)), .slice false (.rw 2) (.lit 0) (.add (.var 4 m) (.lit 1)), .ptr (.rw 6) (.lit 0), .int .i64 (.lit 0), .undef, .undef] [some ⟨1, .of [.int .i64 (.var 5 x), .slice true (.ro (.var 6 k)) (.lit 0) (.var 7 c), .slice true (.ro (.var 8 kp)) (.lit 0) (.var 9 d), .int .i64 (.var 10 y), .slice true (.ro (.var 11 h)) (.lit 0) (.var 12 e), .slice true (.ro (.var 13 hp)) (.lit 0) (.var 14 f)]⟩, some ⟨1, .var 20 ow⟩, some ⟨2, .var 21 sp⟩, some ⟨4, .of [.int .i64 (.lit 0), .int .i64 (.lit 7), .slice false (.rw 5) (.lit 0) (.var 2 n), .int .i64 (.var 5 x)]⟩, some ⟨2, .var 22 pz⟩, some ⟨1, .var 23 dz⟩, some ⟨1, .of [.int .i64 (.lit 0), .slice false (.rw 3) (.lit 0) (.lit 1), .slice false (.rw 4) (.lit 0) (.var 4 m)]⟩]) = (
    leB (n) (List.length (G (kc))) = true ∧
    cellsB (subL (G (kc)) (0) (n)) = true ∧
    leB (n) (140737488355328) = true ∧
    leB ((m) * 2) (List.length (G (kq))) = true ∧
    cellsB (subL (G (kq)) (0) ((m) * 2)) = true ∧
    leB ((m) * 16) (140737488355328) = true ∧
    pl1U [.agg (subL (G (kq)) (0) ((m) * 2)), .int .i64 (((m : Nat) : Int))] = true ∧
    (may1U [.int .i64 (0), .int .i64 (0), .int .i64 (7), .int .i64 (((n : Nat) : Int)), .int .i64 (x), .agg (subL (G (kq)) (0) ((m) * 2)), .int .i64 (((m : Nat) : Int))] = true →
      Q .normal [.slice true (.ro (kc)) (0) (n), .slice true (.ro (kq)) (0) (m), .ptr (.rw 0) (0), .bool (false), .slice false (.rw 1) (0) (n + 1), .slice false (.rw 2) (0) (m + 1), .ptr (.rw 6) (0), .int .i64 (0), .ptr (.rw 12) (0), .int .i64 (0)] [some ⟨1, ([.int .i64 (x), .slice true (.ro (k)) (0) (c), .slice true (.ro (kp)) (0) (d), .int .i64 (y), .slice true (.ro (h)) (0) (e), .slice true (.ro (hp)) (0) (f)] : List AV)⟩, some ⟨1, ow⟩, some ⟨2, sp⟩, some ⟨4, ([.int .i64 (0), .int .i64 (7), .slice false (.rw 5) (0) (n), .int .i64 (x)] : List AV)⟩, some ⟨2, pz⟩, some ⟨1, dz⟩, some ⟨1, ([.int .i64 (0), .slice false (.rw 3) (0) (1), .slice false (.rw 4) (0) (m)] : List AV)⟩, some ⟨1, ([.int .i64 (0), .slice false (.rw 9) (0) (1), .slice true (.rw 10) (0) (m)] : List AV)⟩, some ⟨1, (subL (G (kc)) (0) (n))⟩, some ⟨4, ([.int .i64 (0), .int .i64 (7), .slice true (.rw 8) (0) (n), .int .i64 (x)] : List AV)⟩, some ⟨2, (subL (G (kq)) (0) ((m) * 2))⟩, some ⟨1, ([.int .i64 (0), .slice false (.rw 9) (0) (1), .slice true (.rw 10) (0) (m)] : List AV)⟩, some ⟨1, ([.int .i64 (0), .slice false (.rw 9) (0) (1), .slice true (.rw 10) (0) (m)] : List AV)⟩]) ∧
    (may1U [.int .i64 (0), .int .i64 (0), .int .i64 (7), .int .i64 (((n : Nat) : Int)), .int .i64 (x), .agg (subL (G (kq)) (0) ((m) * 2)), .int .i64 (((m : Nat) : Int))] = false →
      Q .normal [.slice true (.ro (kc)) (0) (n), .slice true (.ro (kq)) (0) (m), .ptr (.rw 0) (0), .bool (false), .slice false (.rw 1) (0) (n + 1), .slice false (.rw 2) (0) (m + 1), .ptr (.rw 6) (0), .int .i64 (0), .ptr (.rw 12) (0), .int .i64 (2)] [some ⟨1, ([.int .i64 (x), .slice true (.ro (k)) (0) (c), .slice true (.ro (kp)) (0) (d), .int .i64 (y), .slice true (.ro (h)) (0) (e), .slice true (.ro (hp)) (0) (f)] : List AV)⟩, some ⟨1, ow⟩, some ⟨2, sp⟩, some ⟨4, ([.int .i64 (0), .int .i64 (7), .slice false (.rw 5) (0) (n), .int .i64 (x)] : List AV)⟩, some ⟨2, pz⟩, some ⟨1, dz⟩, some ⟨1, ([.int .i64 (0), .slice false (.rw 3) (0) (1), .slice false (.rw 4) (0) (m)] : List AV)⟩, some ⟨1, ([.int .i64 (0), .nils, .nils] : List AV)⟩, some ⟨1, (subL (G (kc)) (0) (n))⟩, some ⟨4, ([.int .i64 (0), .int .i64 (7), .slice true (.rw 8) (0) (n), .int .i64 (x)] : List AV)⟩, some ⟨2, (subL (G (kq)) (0) ((m) * 2))⟩, some ⟨1, ([.int .i64 (0), .slice false (.rw 9) (0) (1), .slice true (.rw 10) (0) (m)] : List AV)⟩, some ⟨1, ([.int .i64 (0), .nils, .nils] : List AV)⟩])) := by kernel_rfl
theorem p7 (G : Nat → List AV) (kc n kq m k c kp d h e hp f : Nat) (x y : Int) (ow sp pz dz : List AV) (Q : Ex → List AV → Hp → Prop) (R : AV → Hp → Prop) : vT G Q R (dloop (Dc Try.prog [] [] [] 0) 301 20 0 (sq1 (sq2 (sq5 (bodyOf Try.f4)))) 133 [0, 1, 5, 6, 7, 8] [.slice true (.ro (.var 1 kc)) (.lit 0) (.var 2 n), .slice true (.ro (.var 3 kq)) (.lit 0) (.var 4 m), .ptr (.rw 0) (.lit 0), .bool (.lit false), .slice false (.rw 1) (.lit 0) (.add (.var 2 n) (.lit 1)), .slice false (.rw 2) (.lit 0) (.add (.var 4 m) (.lit 1))] [some ⟨1, .of [.int .i64 (.var 5 x), .slice true (.ro (.var 6 k)) (.lit 0) (.var 7 c), .slice true (.ro (.var 8 kp)) (.lit 0) (.var 9 d), .int .i64 (.var 10 y), .slice true (.ro (.var 11 h)) (.lit 0) (.var 12 e), .slice true (.ro (.var 13 hp)) (.lit 0) (.var 14 f)]⟩, some ⟨1, .var 20 ow⟩, some ⟨2, .var 21 sp⟩]) = (
    leB (n + 1) (List.length ow) = true ∧
    u8s (subL ow (0) (n + 1)) = true ∧
    leB (n) (List.length (G (kc))) = true ∧
    u8s (subL (G (kc)) (0) (n)) = true ∧
    leB (List.length (strL (subL (G (kc)) (0) (n))) + 1) (9223372036854775807) = true ∧
    ((((strL (subL ow (0) (n + 1))) : List UInt8) == ((strL (subL (G (kc)) (0) (n))) ++ ([119] : List UInt8))) = true →
      decide ((0 : Int) ≤ ((m : Nat) : Int)) = true ∧
      decide ((((m : Nat) : Int) : Int) < ((m + 1 : Nat) : Int)) = true ∧
      isI .i64 sp ((m) * 2) = true ∧
      (((getI sp ((m) * 2) : Int) == 77) = true →
        Q .normal [.slice true (.ro (kc)) (0) (n), .slice true (.ro (kq)) (0) (m), .ptr (.rw 0) (0), .bool (false), .slice false (.rw 1) (0) (n + 1), .slice false (.rw 2) (0) (m + 1)] [some ⟨1, ([.int .i64 (x), .slice true (.ro (k)) (0) (c), .slice true (.ro (kp)) (0) (d), .int .i64 (y), .slice true (.ro (h)) (0) (e), .slice true (.ro (hp)) (0) (f)] : List AV)⟩, some ⟨1, ow⟩, some ⟨2, sp⟩]) ∧
      (((getI sp ((m) * 2) : Int) == 77) = false →
        Q .ret [.slice true (.ro (kc)) (0) (n), .slice true (.ro (kq)) (0) (m), .ptr (.rw 0) (0), .bool (false), .slice false (.rw 1) (0) (n + 1), .slice false (.rw 2) (0) (m + 1)] [some ⟨1, ([.int .i64 (x), .slice true (.ro (k)) (0) (c), .slice true (.ro (kp)) (0) (d), .int .i64 (y), .slice true (.ro (h)) (0) (e), .slice true (.ro (hp)) (0) (f)] : List AV)⟩, some ⟨1, ow⟩, some ⟨2, sp⟩])) ∧
    ((((strL (subL ow (0) (n + 1))) : List UInt8) == ((strL (subL (G (kc)) (0) (n))) ++ ([119] : List UInt8))) = false →
      Q .ret [.slice true (.ro (kc)) (0) (n), .slice true (.ro (kq)) (0) (m), .ptr (.rw 0) (0), .bool (false), .slice false (.rw 1) (0) (n + 1), .slice false (.rw 2) (0) (m + 1)] [some ⟨1, ([.int .i64 (x), .slice true (.ro (k)) (0) (c), .slice true (.ro (kp)) (0) (d), .int .i64 (y), .slice true (.ro (h)) (0) (e), .slice true (.ro (hp)) (0) (f)] : List AV)⟩, some ⟨1, ow⟩, some ⟨2, sp⟩])) := by kernel_rfl
theorem z0 (G : Nat → List AV) (n i : Nat) (ow : List AV) (Q : Ex → List AV → Hp → Prop) (R : AV → Hp → Prop) : vT G Q R (dloop (Dc Try.prog [] [] [] 0) 301 20 0 (loopN Try.f4 0) 133 [7, 13] [.slice false (.rw 0) (.lit 0) (.add (.var 2 n) (.lit 1)), .int .i64 (.ofN (.var 3 i))] [some ⟨1, .var 20 ow⟩]) = (
    (decide ((((i : Nat) : Int) : Int) < ((n + 1 : Nat) : Int)) = true →
      decide ((0 : Int) ≤ ((i : Nat) : Int)) = true ∧
      decide ((((i : Nat) : Int) : Int) < ((n + 1 : Nat) : Int)) = true ∧
      leB (i + 1) (List.length ow) = true ∧
      Q .normal [.slice false (.rw 0) (0) (n + 1), .int .i64 (IntKind.wrap .i64 (((i : Nat) : Int) + 1))] [some ⟨1, (setPart ow (i) (.int .u8 (102)))⟩]) ∧
    (decide ((((i : Nat) : Int) : Int) < ((n + 1 : Nat) : Int)) = false →
      Q (.exit 0) [.slice false (.rw 0) (0) (n + 1), .int .i64 (((i : Nat) : Int))] [some ⟨1, ow⟩])) := by kernel_rfl
theorem z2 (G : Nat → List AV) (m i : Nat) (sp : List AV) (Q : Ex → List AV → Hp → Prop) (R : AV → Hp → Prop) : vT G Q R (dloop (Dc Try.prog [] [] [] 0) 301 20 0 (loopN Try.f4 1) 133 [8, 14] [.slice false (.rw 0) (.lit 0) (.add (.var 2 m) (.lit 1)), .int .i64 (.ofN (.var 3 i))] [some ⟨2, .var 21 sp⟩]) = (
    (decide ((((i : Nat) : Int) : Int) < ((m + 1 : Nat) : Int)) = true →
      decide ((0 : Int) ≤ ((i : Nat) : Int)) = true ∧
      decide ((((i : Nat) : Int) : Int) < ((m + 1 : Nat) : Int)) = true ∧
      leB ((i) * 2 + 2) (List.length sp) = true ∧
      Q .normal [.slice false (.rw 0) (0) (m + 1), .int .i64 (IntKind.wrap .i64 (((i : Nat) : Int) + 1))] [some ⟨2, (setPart sp ((i) * 2) (.agg ([.int .i64 (0), .bool (false)] : List AV)))⟩]) ∧
    (decide ((((i : Nat) : Int) : Int) < ((m + 1 : Nat) : Int)) = false →
      Q (.exit 2) [.slice false (.rw 0) (0) (m + 1), .int .i64 (((i : Nat) : Int))] [some ⟨2, sp⟩])) := by kernel_rfl
end Go.Am
