/-
  ImageOf: the law's pieces ahead of its drawn region.
-/
import Derived.Test.YthejjolnlngahaaImY
namespace Go.Am
open Go.Proofs
set_option maxRecDepth 100000
def trueS : DSum := fun args _ => match args with
  | [] => some (.one (.bool (.lit true)) [])
  | _ => none
theorem p0 (G : Nat → List AV) (kc n kq m k c kp d h e hp f : Nat) (x y : Int) (Q : Ex → List AV → Hp → Prop) (R : AV → Hp → Prop) : vT G Q R (dloop (Dc Try.prog [] [] [] 0) 300 20 0 (sq1 (bodyOf Try.f4)) 133 [0, 1, 2, 5, 6] [.slice true (.ro (.var 1 kc)) (.lit 0) (.var 2 n), .slice true (.ro (.var 3 kq)) (.lit 0) (.var 4 m), .agg (.of [.int .i64 (.var 5 x), .slice true (.ro (.var 6 k)) (.lit 0) (.var 7 c), .slice true (.ro (.var 8 kp)) (.lit 0) (.var 9 d), .int .i64 (.var 10 y), .slice true (.ro (.var 11 h)) (.lit 0) (.var 12 e), .slice true (.ro (.var 13 hp)) (.lit 0) (.var 14 f)]), .undef, .undef] []) = (
    Q .normal [.slice true (.ro (kc)) (0) (n), .slice true (.ro (kq)) (0) (m), .agg ([.int .i64 (x), .slice true (.ro (k)) (0) (c), .slice true (.ro (kp)) (0) (d), .int .i64 (y), .slice true (.ro (h)) (0) (e), .slice true (.ro (hp)) (0) (f)] : List AV), .ptr (.rw 0) (0), .bool (false)] [some ⟨1, ([.int .i64 (x), .slice true (.ro (k)) (0) (c), .slice true (.ro (kp)) (0) (d), .int .i64 (y), .slice true (.ro (h)) (0) (e), .slice true (.ro (hp)) (0) (f)] : List AV)⟩]) := by kernel_rfl
theorem p1 (G : Nat → List AV) (kc n kq m k c kp d h e hp f : Nat) (x y : Int) (Q : Ex → List AV → Hp → Prop) (R : AV → Hp → Prop) : vT G Q R (dloop (Dc Try.prog [] [(10, muchS), (11, trueS)] [] 0) 300 20 0 (sq1 (sq2 (bodyOf Try.f4))) 133 [0, 1, 5, 6] [.slice true (.ro (.var 1 kc)) (.lit 0) (.var 2 n), .slice true (.ro (.var 3 kq)) (.lit 0) (.var 4 m), .ptr (.rw 0) (.lit 0), .bool (.lit false)] [some ⟨1, .of [.int .i64 (.var 5 x), .slice true (.ro (.var 6 k)) (.lit 0) (.var 7 c), .slice true (.ro (.var 8 kp)) (.lit 0) (.var 9 d), .int .i64 (.var 10 y), .slice true (.ro (.var 11 h)) (.lit 0) (.var 12 e), .slice true (.ro (.var 13 hp)) (.lit 0) (.var 14 f)]⟩]) = (
    (decide ((((n : Nat) : Int) : Int) > 20000) = true →
      Q .ret [.slice true (.ro (kc)) (0) (n), .slice true (.ro (kq)) (0) (m), .ptr (.rw 0) (0), .bool (true)] [some ⟨1, ([.int .i64 (x), .slice true (.ro (k)) (0) (c), .slice true (.ro (kp)) (0) (d), .int .i64 (y), .slice true (.ro (h)) (0) (e), .slice true (.ro (hp)) (0) (f)] : List AV)⟩]) ∧
    (decide ((((n : Nat) : Int) : Int) > 20000) = false →
      (decide ((((m : Nat) : Int) : Int) > 1000) = true →
        Q .ret [.slice true (.ro (kc)) (0) (n), .slice true (.ro (kq)) (0) (m), .ptr (.rw 0) (0), .bool (true)] [some ⟨1, ([.int .i64 (x), .slice true (.ro (k)) (0) (c), .slice true (.ro (kp)) (0) (d), .int .i64 (y), .slice true (.ro (h)) (0) (e), .slice true (.ro (hp)) (0) (f)] : List AV)⟩]) ∧
      (decide ((((m : Nat) : Int) : Int) > 1000) = false →
        secOkU [.agg (G (k)), .int .i64 (((c : Nat) : Int))] = true ∧
        (muchU [.agg (G (k)), .int .i64 (((c : Nat) : Int)), .int .i64 (((d : Nat) : Int))] = true →
          Q .ret [.slice true (.ro (kc)) (0) (n), .slice true (.ro (kq)) (0) (m), .ptr (.rw 0) (0), .bool (true)] [some ⟨1, ([.int .i64 (x), .slice true (.ro (k)) (0) (c), .slice true (.ro (kp)) (0) (d), .int .i64 (y), .slice true (.ro (h)) (0) (e), .slice true (.ro (hp)) (0) (f)] : List AV)⟩]) ∧
        (muchU [.agg (G (k)), .int .i64 (((c : Nat) : Int)), .int .i64 (((d : Nat) : Int))] = false →
          secOkU [.agg (G (h)), .int .i64 (((e : Nat) : Int))] = true ∧
          (muchU [.agg (G (h)), .int .i64 (((e : Nat) : Int)), .int .i64 (((f : Nat) : Int))] = true →
            Q .ret [.slice true (.ro (kc)) (0) (n), .slice true (.ro (kq)) (0) (m), .ptr (.rw 0) (0), .bool (true)] [some ⟨1, ([.int .i64 (x), .slice true (.ro (k)) (0) (c), .slice true (.ro (kp)) (0) (d), .int .i64 (y), .slice true (.ro (h)) (0) (e), .slice true (.ro (hp)) (0) (f)] : List AV)⟩]) ∧
          (muchU [.agg (G (h)), .int .i64 (((e : Nat) : Int)), .int .i64 (((f : Nat) : Int))] = false →
            Q .normal [.slice true (.ro (kc)) (0) (n), .slice true (.ro (kq)) (0) (m), .ptr (.rw 0) (0), .bool (false)] [some ⟨1, ([.int .i64 (x), .slice true (.ro (k)) (0) (c), .slice true (.ro (kp)) (0) (d), .int .i64 (y), .slice true (.ro (h)) (0) (e), .slice true (.ro (hp)) (0) (f)] : List AV)⟩]))))) := by kernel_rfl
theorem p3 (G : Nat → List AV) (kc n kq m k c kp d h e hp f : Nat) (x y : Int) (Q : Ex → List AV → Hp → Prop) (R : AV → Hp → Prop) : vT G Q R (dloop (Dc Try.prog [] [] [] 0) 300 20 0 (sq1 (sq2 (sq2 (bodyOf Try.f4)))) 133 [0, 1, 5, 6, 7] [.slice true (.ro (.var 1 kc)) (.lit 0) (.var 2 n), .slice true (.ro (.var 3 kq)) (.lit 0) (.var 4 m), .ptr (.rw 0) (.lit 0), .bool (.lit false), .undef] [some ⟨1, .of [.int .i64 (.var 5 x), .slice true (.ro (.var 6 k)) (.lit 0) (.var 7 c), .slice true (.ro (.var 8 kp)) (.lit 0) (.var 9 d), .int .i64 (.var 10 y), .slice true (.ro (.var 11 h)) (.lit 0) (.var 12 e), .slice true (.ro (.var 13 hp)) (.lit 0) (.var 14 f)]⟩]) = (
    leB (n) (List.length (G (kc))) = true ∧
    cellsB (subL (G (kc)) (0) (n)) = true ∧
    leB (n) (140737488355328) = true ∧
    leB (n + 1) (140737488355328) = true ∧
    Nat.beq (List.length (subL (G (kc)) (0) (n))) (n) = true ∧
    Q .normal [.slice true (.ro (kc)) (0) (n), .slice true (.ro (kq)) (0) (m), .ptr (.rw 0) (0), .bool (false), .slice true (.rw 3) (0) (n + 1)] [some ⟨1, ([.int .i64 (x), .slice true (.ro (k)) (0) (c), .slice true (.ro (kp)) (0) (d), .int .i64 (y), .slice true (.ro (h)) (0) (e), .slice true (.ro (hp)) (0) (f)] : List AV)⟩, none, some ⟨1, ([.int .u8 (119)] : List AV)⟩, some ⟨1, ((subL (G (kc)) (0) (n)) ++ ([.int .u8 (119)] : List AV))⟩]) := by kernel_rfl
theorem p4 (G : Nat → List AV) (kc n kq m k c kp d h e hp f : Nat) (x y : Int) (ow : List AV) (Q : Ex → List AV → Hp → Prop) (R : AV → Hp → Prop) : vT G Q R (dloop (Dc Try.prog [] [] [] 0) 300 20 0 (sq1 (sq2 (sq2 (sq2 (bodyOf Try.f4))))) 133 [0, 1, 5, 6, 7, 8] [.slice true (.ro (.var 1 kc)) (.lit 0) (.var 2 n), .slice true (.ro (.var 3 kq)) (.lit 0) (.var 4 m), .ptr (.rw 0) (.lit 0), .bool (.lit false), .slice false (.rw 1) (.lit 0) (.add (.var 2 n) (.lit 1)), .undef] [some ⟨1, .of [.int .i64 (.var 5 x), .slice true (.ro (.var 6 k)) (.lit 0) (.var 7 c), .slice true (.ro (.var 8 kp)) (.lit 0) (.var 9 d), .int .i64 (.var 10 y), .slice true (.ro (.var 11 h)) (.lit 0) (.var 12 e), .slice true (.ro (.var 13 hp)) (.lit 0) (.var 14 f)]⟩, some ⟨1, .var 20 ow⟩]) = (
    leB ((m) * 2) (List.length (G (kq))) = true ∧
    cellsB (subL (G (kq)) (0) ((m) * 2)) = true ∧
    leB ((m) * 16) (140737488355328) = true ∧
    leB ((m + 1) * 16) (140737488355328) = true ∧
    Nat.beq (List.length (subL (G (kq)) (0) ((m) * 2))) ((m) * 2) = true ∧
    Q .normal [.slice true (.ro (kc)) (0) (n), .slice true (.ro (kq)) (0) (m), .ptr (.rw 0) (0), .bool (false), .slice false (.rw 1) (0) (n + 1), .slice true (.rw 4) (0) (m + 1)] [some ⟨1, ([.int .i64 (x), .slice true (.ro (k)) (0) (c), .slice true (.ro (kp)) (0) (d), .int .i64 (y), .slice true (.ro (h)) (0) (e), .slice true (.ro (hp)) (0) (f)] : List AV)⟩, some ⟨1, ow⟩, none, some ⟨2, ([.int .i64 (77), .bool (false)] : List AV)⟩, some ⟨2, ((subL (G (kq)) (0) ((m) * 2)) ++ ([.int .i64 (77), .bool (false)] : List AV))⟩]) := by kernel_rfl
def r5 (c : Code) : Array Oper := rOps (sq1 (sq2 (sq2 (sq2 (sq2 c)))))
theorem r5a (G : Nat → List AV) (kc n kq m k c kp d h e hp f : Nat) (x y : Int) (ow sp : List AV) (Q : Ex → List AV → Hp → Prop) (R : AV → Hp → Prop) : vT G Q R (dloop (Dc Try.prog [] [(17, ofS)] [] 0) 301 20 0 (.region 5 (ord1 (r5 (bodyOf Try.f4)) 11 15).toArray true) 133 [0, 1, 5, 6, 7, 8, 9, 10] [.slice true (.ro (.var 1 kc)) (.lit 0) (.var 2 n), .slice true (.ro (.var 3 kq)) (.lit 0) (.var 4 m), .ptr (.rw 0) (.lit 0), .bool (.lit false), .slice false (.rw 1) (.lit 0) (.add (.var 2 n) (.lit 1)), .slice false (.rw 2) (.lit 0) (.add (.var 4 m) (.lit 1)), .undef, .undef] [some ⟨1, .of [.int .i64 (.var 5 x), .slice true (.ro (.var 6 k)) (.lit 0) (.var 7 c), .slice true (.ro (.var 8 kp)) (.lit 0) (.var 9 d), .int .i64 (.var 10 y), .slice true (.ro (.var 11 h)) (.lit 0) (.var 12 e), .slice true (.ro (.var 13 hp)) (.lit 0) (.var 14 f)]⟩, some ⟨1, .var 20 ow⟩, some ⟨2, .var 21 sp⟩]) = (
    decide ((0 : Int) ≤ ((n : Nat) : Int)) = true ∧
    decide ((((n : Nat) : Int) : Int) ≤ ((n + 1 : Nat) : Int)) = true ∧
    decide ((0 : Int) ≤ ((m : Nat) : Int)) = true ∧
    decide ((((m : Nat) : Int) : Int) ≤ ((m + 1 : Nat) : Int)) = true ∧
    cpU [.agg sp, .int .i64 (((m : Nat) : Int)), .agg ow, .int .i64 (((n : Nat) : Int))] = true ∧
    pl1U [.agg (subL sp (0) ((m) * 2)), .int .i64 (((m : Nat) : Int))] = true ∧
    (may1U [.int .i64 (0), .int .i64 (0), .int .i64 (7), .int .i64 (((n : Nat) : Int)), .int .i64 (x), .agg (subL sp (0) ((m) * 2)), .int .i64 (((m : Nat) : Int))] = true →
      Q .normal [.slice true (.ro (kc)) (0) (n), .slice true (.ro (kq)) (0) (m), .ptr (.rw 0) (0), .bool (false), .slice false (.rw 1) (0) (n + 1), .slice false (.rw 2) (0) (m + 1), .ptr (.rw 6) (0), .int .i64 (0)] [some ⟨1, ([.int .i64 (x), .slice true (.ro (k)) (0) (c), .slice true (.ro (kp)) (0) (d), .int .i64 (y), .slice true (.ro (h)) (0) (e), .slice true (.ro (hp)) (0) (f)] : List AV)⟩, some ⟨1, ow⟩, some ⟨2, sp⟩, some ⟨4, ([.int .i64 (0), .int .i64 (7), .slice false (.rw 5) (0) (n), .int .i64 (x)] : List AV)⟩, some ⟨2, (subL sp (0) ((m) * 2))⟩, some ⟨1, (subL ow (0) (n))⟩, some ⟨1, ([.int .i64 (0), .slice false (.rw 3) (0) (1), .slice false (.rw 4) (0) (m)] : List AV)⟩]) ∧
    (may1U [.int .i64 (0), .int .i64 (0), .int .i64 (7), .int .i64 (((n : Nat) : Int)), .int .i64 (x), .agg (subL sp (0) ((m) * 2)), .int .i64 (((m : Nat) : Int))] = false →
      Q .normal [.slice true (.ro (kc)) (0) (n), .slice true (.ro (kq)) (0) (m), .ptr (.rw 0) (0), .bool (false), .slice false (.rw 1) (0) (n + 1), .slice false (.rw 2) (0) (m + 1), .ptr (.rw 3) (0), .int .i64 (2)] [some ⟨1, ([.int .i64 (x), .slice true (.ro (k)) (0) (c), .slice true (.ro (kp)) (0) (d), .int .i64 (y), .slice true (.ro (h)) (0) (e), .slice true (.ro (hp)) (0) (f)] : List AV)⟩, some ⟨1, ow⟩, some ⟨2, sp⟩, some ⟨1, ([.int .i64 (0), .nils, .nils] : List AV)⟩])) := by kernel_rfl
theorem r5b (G : Nat → List AV) (kc n kq m k c kp d h e hp f : Nat) (x y : Int) (ow sp : List AV) (Q : Ex → List AV → Hp → Prop) (R : AV → Hp → Prop) : vT G Q R (dloop (Dc Try.prog [] [(17, ofS)] [] 0) 301 20 0 (.region 5 (ord3 (r5 (bodyOf Try.f4)) 11 15).toArray true) 133 [0, 1, 5, 6, 7, 8, 9, 10] [.slice true (.ro (.var 1 kc)) (.lit 0) (.var 2 n), .slice true (.ro (.var 3 kq)) (.lit 0) (.var 4 m), .ptr (.rw 0) (.lit 0), .bool (.lit false), .slice false (.rw 1) (.lit 0) (.add (.var 2 n) (.lit 1)), .slice false (.rw 2) (.lit 0) (.add (.var 4 m) (.lit 1)), .undef, .undef] [some ⟨1, .of [.int .i64 (.var 5 x), .slice true (.ro (.var 6 k)) (.lit 0) (.var 7 c), .slice true (.ro (.var 8 kp)) (.lit 0) (.var 9 d), .int .i64 (.var 10 y), .slice true (.ro (.var 11 h)) (.lit 0) (.var 12 e), .slice true (.ro (.var 13 hp)) (.lit 0) (.var 14 f)]⟩, some ⟨1, .var 20 ow⟩, some ⟨2, .var 21 sp⟩]) = (
    decide ((0 : Int) ≤ ((n : Nat) : Int)) = true ∧
    decide ((((n : Nat) : Int) : Int) ≤ ((n + 1 : Nat) : Int)) = true ∧
    decide ((0 : Int) ≤ ((m : Nat) : Int)) = true ∧
    decide ((((m : Nat) : Int) : Int) ≤ ((m + 1 : Nat) : Int)) = true ∧
    cpU [.agg sp, .int .i64 (((m : Nat) : Int)), .agg ow, .int .i64 (((n : Nat) : Int))] = true ∧
    pl1U [.agg (subL sp (0) ((m) * 2)), .int .i64 (((m : Nat) : Int))] = true ∧
    (may1U [.int .i64 (0), .int .i64 (0), .int .i64 (7), .int .i64 (((n : Nat) : Int)), .int .i64 (x), .agg (subL sp (0) ((m) * 2)), .int .i64 (((m : Nat) : Int))] = true →
      Q .normal [.slice true (.ro (kc)) (0) (n), .slice true (.ro (kq)) (0) (m), .ptr (.rw 0) (0), .bool (false), .slice false (.rw 1) (0) (n + 1), .slice false (.rw 2) (0) (m + 1), .ptr (.rw 3) (0), .int .i64 (0)] [some ⟨1, ([.int .i64 (x), .slice true (.ro (k)) (0) (c), .slice true (.ro (kp)) (0) (d), .int .i64 (y), .slice true (.ro (h)) (0) (e), .slice true (.ro (hp)) (0) (f)] : List AV)⟩, some ⟨1, ow⟩, some ⟨2, sp⟩, some ⟨1, ([.int .i64 (0), .slice false (.rw 4) (0) (1), .slice false (.rw 5) (0) (m)] : List AV)⟩, some ⟨4, ([.int .i64 (0), .int .i64 (7), .slice false (.rw 6) (0) (n), .int .i64 (x)] : List AV)⟩, some ⟨2, (subL sp (0) ((m) * 2))⟩, some ⟨1, (subL ow (0) (n))⟩]) ∧
    (may1U [.int .i64 (0), .int .i64 (0), .int .i64 (7), .int .i64 (((n : Nat) : Int)), .int .i64 (x), .agg (subL sp (0) ((m) * 2)), .int .i64 (((m : Nat) : Int))] = false →
      Q .normal [.slice true (.ro (kc)) (0) (n), .slice true (.ro (kq)) (0) (m), .ptr (.rw 0) (0), .bool (false), .slice false (.rw 1) (0) (n + 1), .slice false (.rw 2) (0) (m + 1), .ptr (.rw 3) (0), .int .i64 (2)] [some ⟨1, ([.int .i64 (x), .slice true (.ro (k)) (0) (c), .slice true (.ro (kp)) (0) (d), .int .i64 (y), .slice true (.ro (h)) (0) (e), .slice true (.ro (hp)) (0) (f)] : List AV)⟩, some ⟨1, ow⟩, some ⟨2, sp⟩, some ⟨1, ([.int .i64 (0), .nils, .nils] : List AV)⟩])) := by kernel_rfl
end Go.Am
