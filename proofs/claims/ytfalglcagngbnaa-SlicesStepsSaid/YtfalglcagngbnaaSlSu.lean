/-
  SlicesSteps: the loop over the open slots in 'stands'.
-/
import Derived.Test.YtfalglcagngbnaaSlSt
namespace Go.Am
open Go.Proofs
set_option maxRecDepth 100000
/-- what is told is what was wanted -/
def nextB (x y : List AV) (n : Int) (c : Nat) : Bool := decide (0 ≤ n ∧ n < (c : Int) ∧ c ≤ 32 ∧ x.length = c * 7) && (List.range 7).all fun j => isI .i64 x (n.toNat * 7 + j) && getI y j == getI x (n.toNat * 7 + j)
def nextU : List AV → Bool := fun ys => match ys with
  | [.agg x, .agg y, .int _ n, .int _ c] => nextB x y n c.toNat
  | _ => false
def stopU : List AV → Bool := fun ys => match ys with
  | [.int _ t, .int _ n, .int _ lw] => decide (t = 0 ∧ n + 1 = lw)
  | _ => false
def HTd (l l1 x : EL) (lw t n : EI) (c : EN) (rc : EL) : DHp := [some ⟨1, l⟩, some ⟨1, l1⟩, some ⟨1, .of [.int .i64 lw]⟩, some ⟨1, .of [.bool (.lit false)]⟩, some ⟨1, .of [.ptr (.rw 0) (.lit 0)]⟩, some ⟨7, x⟩, some ⟨1, .of [.slice true (.rw 5) (.lit 0) c]⟩, some ⟨1, .of [.int .i64 t]⟩, some ⟨1, .of [.int .i64 n]⟩, some ⟨4294967291, rc⟩]
def flat3U : List AV → Bool := fun ys => match ys with
  | [.agg l, .agg l1, .agg x] => bnds 0 l && (bnds 0 l1 && bnds 0 x)
  | _ => false
def yT (rq : List AV → Bool) (rc2 : EL) : DYsum := fun i args H => match Nat.beq i 9 with
  | true => match args, H with
    | [.agg y], [some ⟨1, l⟩, some ⟨1, l1⟩, some ⟨1, .of [.int .i64 lw]⟩, some ⟨1, .of [.bool (.lit false)]⟩, some ⟨1, .of [.ptr (.rw 0) (.lit 0)]⟩, some ⟨7, x⟩, some ⟨1, .of [.slice true (.rw 5) (.lit 0) c]⟩, some ⟨1, .of [.int .i64 t]⟩, some ⟨1, .of [.int .i64 n]⟩, some ⟨4294967291, rc⟩] =>
      some (.chk (.uf 1400 rq [.agg rc]) (.chk (.uf 1401 ok7U [.agg y]) (.chk (.uf 1534 flat3U [.agg l, .agg l1, .agg x]) (.chk (.uf 1531 nextU [.agg x, .agg y, .int .i64 n, .int .i64 (.ofN c)]) (.tst (.uf 1532 stopU [.int .i64 t, .int .i64 n, .int .i64 lw]) (.one (.bool (.lit false)) [.set 8 ⟨1, .of [.int .i64 (.bin .add .i64 n (.lit 1))]⟩, .set 9 ⟨4294967291, rc2⟩]) (.one (.bool (.lit true)) [.set 8 ⟨1, .of [.int .i64 (.bin .add .i64 n (.lit 1))]⟩]))))))
    | _, _ => none
  | false => none
theorem s_as (G : Nat → List AV) (cs l1 xs rc : List AV) (lw t n : Int) (c : Nat) (x0 x1 x2 x3 x4 x5 x6 : Int) (Q : Ex → List AV → Hp → Prop) (R : AV → Hp → Prop) : vT G Q R (dloop (Dc Try.prog [] [] [] 0) 200 60 10 (rgA (loopN Try.f23 3)) 160 [5, 6, 19, 20, 21, 22, 113, 114, 23] [.ptr (.rw 2) (.lit 0), .ptr (.rw 3) (.lit 0), .func 46 [.ptr (.rw 4) (.lit 0)], .ptr (.rw 6) (.lit 0), .ptr (.rw 7) (.lit 0), .ptr (.rw 8) (.lit 0), .func 46 [.ptr (.rw 4) (.lit 0)], .agg (.of (E7 (.var 11 x0) (.var 12 x1) (.var 13 x2) (.var 14 x3) (.var 15 x4) (.var 16 x5) (.var 17 x6))), .undef] (HTd (.var 8 cs) (.var 9 l1) (.var 10 xs) (.var 18 lw) (.var 19 t) (.var 20 n) (.var 21 c) (.var 24 rc))) = (
    Q .normal [.ptr (.rw 2) (0), .ptr (.rw 3) (0), .func 46 [.ptr (.rw 4) (0)], .ptr (.rw 6) (0), .ptr (.rw 7) (0), .ptr (.rw 8) (0), .func 46 [.ptr (.rw 4) (0)], .agg ([.int .i64 (x0), .int .i64 (x1), .int .i64 (x2), .int .i64 (x3), .int .i64 (x4), .int .i64 (x5), .int .i64 (x6)] : List AV), .ptr (.rw 10) (0)] [some ⟨1, cs⟩, some ⟨1, l1⟩, some ⟨1, ([.int .i64 (lw)] : List AV)⟩, some ⟨1, ([.bool (false)] : List AV)⟩, some ⟨1, ([.ptr (.rw 0) (0)] : List AV)⟩, some ⟨7, xs⟩, some ⟨1, ([.slice true (.rw 5) (0) (c)] : List AV)⟩, some ⟨1, ([.int .i64 (t)] : List AV)⟩, some ⟨1, ([.int .i64 (n)] : List AV)⟩, some ⟨4294967291, rc⟩, some ⟨1, ([.int .i64 (x0), .int .i64 (x1), .int .i64 (x2), .int .i64 (x3), .int .i64 (x4), .int .i64 (x5), .int .i64 (x6)] : List AV)⟩]) := by kernel_rfl
theorem s_bd (G : Nat → List AV) (cs l1 xs rc : List AV) (lw t n : Int) (c : Nat) (x0 x1 x2 x3 x4 x5 x6 : Int) (Q : Ex → List AV → Hp → Prop) (R : AV → Hp → Prop) : vT G Q R (dloop (Dc Try.prog [] [] [] 0) 600 60 10 (rgB (loopN Try.f23 3)) 160 [5, 6, 19, 20, 21, 22, 113, 114, 23] [.ptr (.rw 2) (.lit 0), .ptr (.rw 3) (.lit 0), .func 46 [.ptr (.rw 4) (.lit 0)], .ptr (.rw 6) (.lit 0), .ptr (.rw 7) (.lit 0), .ptr (.rw 8) (.lit 0), .func 46 [.ptr (.rw 4) (.lit 0)], .agg (.of (E7 (.var 11 x0) (.var 12 x1) (.var 13 x2) (.var 14 x3) (.var 15 x4) (.var 16 x5) (.var 17 x6))), .ptr (.rw 10) (.lit 0)] ((HTd (.var 8 cs) (.var 9 l1) (.var 10 xs) (.var 18 lw) (.var 19 t) (.var 20 n) (.var 21 c) (.var 24 rc)) ++ [some ⟨1, (.of (E7 (.var 11 x0) (.var 12 x1) (.var 13 x2) (.var 14 x3) (.var 15 x4) (.var 16 x5) (.var 17 x6)))⟩])) = (
    (decide ((n : Int) ≥ ((c : Nat) : Int)) = true →
      Q .ret [.ptr (.rw 2) (0), .ptr (.rw 3) (0), .func 46 [.ptr (.rw 4) (0)], .ptr (.rw 6) (0), .ptr (.rw 7) (0), .ptr (.rw 8) (0), .func 46 [.ptr (.rw 4) (0)], .agg ([.int .i64 (x0), .int .i64 (x1), .int .i64 (x2), .int .i64 (x3), .int .i64 (x4), .int .i64 (x5), .int .i64 (x6)] : List AV), .ptr (.rw 10) (0)] [some ⟨1, cs⟩, some ⟨1, l1⟩, some ⟨1, ([.int .i64 (lw)] : List AV)⟩, some ⟨1, ([.bool (false)] : List AV)⟩, some ⟨1, ([.ptr (.rw 0) (0)] : List AV)⟩, some ⟨7, xs⟩, some ⟨1, ([.slice true (.rw 5) (0) (c)] : List AV)⟩, some ⟨1, ([.int .i64 (t)] : List AV)⟩, some ⟨1, ([.int .i64 (n)] : List AV)⟩, some ⟨4294967291, rc⟩, some ⟨1, ([.int .i64 (x0), .int .i64 (x1), .int .i64 (x2), .int .i64 (x3), .int .i64 (x4), .int .i64 (x5), .int .i64 (x6)] : List AV)⟩]) ∧
    (decide ((n : Int) ≥ ((c : Nat) : Int)) = false →
      decide ((0 : Int) ≤ n) = true ∧
      decide ((n : Int) < ((c : Nat) : Int)) = true ∧
      leB ((Int.toNat (n)) * 7 + 7) (List.length xs) = true ∧
      isI .i64 (subL xs ((Int.toNat (n)) * 7) (7)) (0) = true ∧
      isI .i64 (subL xs ((Int.toNat (n)) * 7) (7)) (1) = true ∧
      isI .i64 (subL xs ((Int.toNat (n)) * 7) (7)) (2) = true ∧
      isI .i64 (subL xs ((Int.toNat (n)) * 7) (7)) (3) = true ∧
      isI .i64 (subL xs ((Int.toNat (n)) * 7) (7)) (4) = true ∧
      isI .i64 (subL xs ((Int.toNat (n)) * 7) (7)) (5) = true ∧
      isI .i64 (subL xs ((Int.toNat (n)) * 7) (7)) (6) = true ∧
      (((x0 : Int) == getI (subL xs ((Int.toNat (n)) * 7) (7)) (0)) = true →
        (((x1 : Int) == getI (subL xs ((Int.toNat (n)) * 7) (7)) (1)) = true →
          (((x2 : Int) == getI (subL xs ((Int.toNat (n)) * 7) (7)) (2)) = true →
            (((x3 : Int) == getI (subL xs ((Int.toNat (n)) * 7) (7)) (3)) = true →
              (((x4 : Int) == getI (subL xs ((Int.toNat (n)) * 7) (7)) (4)) = true →
                (((x5 : Int) == getI (subL xs ((Int.toNat (n)) * 7) (7)) (5)) = true →
                  (((x6 : Int) == getI (subL xs ((Int.toNat (n)) * 7) (7)) (6)) = true →
                    (((t : Int) == 0) = true →
                      (((IntKind.wrap .i64 (n + 1) : Int) == lw) = true →
                        Q (.exit 6) [.ptr (.rw 2) (0), .ptr (.rw 3) (0), .func 46 [.ptr (.rw 4) (0)], .ptr (.rw 6) (0), .ptr (.rw 7) (0), .ptr (.rw 8) (0), .func 46 [.ptr (.rw 4) (0)], .agg ([.int .i64 (x0), .int .i64 (x1), .int .i64 (x2), .int .i64 (x3), .int .i64 (x4), .int .i64 (x5), .int .i64 (x6)] : List AV), .ptr (.rw 10) (0)] [some ⟨1, cs⟩, some ⟨1, l1⟩, some ⟨1, ([.int .i64 (lw)] : List AV)⟩, some ⟨1, ([.bool (false)] : List AV)⟩, some ⟨1, ([.ptr (.rw 0) (0)] : List AV)⟩, some ⟨7, xs⟩, some ⟨1, ([.slice true (.rw 5) (0) (c)] : List AV)⟩, some ⟨1, ([.int .i64 (t)] : List AV)⟩, some ⟨1, ([.int .i64 (IntKind.wrap .i64 (n + 1))] : List AV)⟩, some ⟨4294967291, rc⟩, some ⟨1, ([.int .i64 (x0), .int .i64 (x1), .int .i64 (x2), .int .i64 (x3), .int .i64 (x4), .int .i64 (x5), .int .i64 (x6)] : List AV)⟩]) ∧
                      (((IntKind.wrap .i64 (n + 1) : Int) == lw) = false →
                        Q .normal [.ptr (.rw 2) (0), .ptr (.rw 3) (0), .func 46 [.ptr (.rw 4) (0)], .ptr (.rw 6) (0), .ptr (.rw 7) (0), .ptr (.rw 8) (0), .func 46 [.ptr (.rw 4) (0)], .agg ([.int .i64 (x0), .int .i64 (x1), .int .i64 (x2), .int .i64 (x3), .int .i64 (x4), .int .i64 (x5), .int .i64 (x6)] : List AV), .ptr (.rw 10) (0)] [some ⟨1, cs⟩, some ⟨1, l1⟩, some ⟨1, ([.int .i64 (lw)] : List AV)⟩, some ⟨1, ([.bool (false)] : List AV)⟩, some ⟨1, ([.ptr (.rw 0) (0)] : List AV)⟩, some ⟨7, xs⟩, some ⟨1, ([.slice true (.rw 5) (0) (c)] : List AV)⟩, some ⟨1, ([.int .i64 (t)] : List AV)⟩, some ⟨1, ([.int .i64 (IntKind.wrap .i64 (n + 1))] : List AV)⟩, some ⟨4294967291, rc⟩, some ⟨1, ([.int .i64 (x0), .int .i64 (x1), .int .i64 (x2), .int .i64 (x3), .int .i64 (x4), .int .i64 (x5), .int .i64 (x6)] : List AV)⟩])) ∧
                    (((t : Int) == 0) = false →
                      Q .normal [.ptr (.rw 2) (0), .ptr (.rw 3) (0), .func 46 [.ptr (.rw 4) (0)], .ptr (.rw 6) (0), .ptr (.rw 7) (0), .ptr (.rw 8) (0), .func 46 [.ptr (.rw 4) (0)], .agg ([.int .i64 (x0), .int .i64 (x1), .int .i64 (x2), .int .i64 (x3), .int .i64 (x4), .int .i64 (x5), .int .i64 (x6)] : List AV), .ptr (.rw 10) (0)] [some ⟨1, cs⟩, some ⟨1, l1⟩, some ⟨1, ([.int .i64 (lw)] : List AV)⟩, some ⟨1, ([.bool (false)] : List AV)⟩, some ⟨1, ([.ptr (.rw 0) (0)] : List AV)⟩, some ⟨7, xs⟩, some ⟨1, ([.slice true (.rw 5) (0) (c)] : List AV)⟩, some ⟨1, ([.int .i64 (t)] : List AV)⟩, some ⟨1, ([.int .i64 (IntKind.wrap .i64 (n + 1))] : List AV)⟩, some ⟨4294967291, rc⟩, some ⟨1, ([.int .i64 (x0), .int .i64 (x1), .int .i64 (x2), .int .i64 (x3), .int .i64 (x4), .int .i64 (x5), .int .i64 (x6)] : List AV)⟩])) ∧
                  (((x6 : Int) == getI (subL xs ((Int.toNat (n)) * 7) (7)) (6)) = false →
                    Q .ret [.ptr (.rw 2) (0), .ptr (.rw 3) (0), .func 46 [.ptr (.rw 4) (0)], .ptr (.rw 6) (0), .ptr (.rw 7) (0), .ptr (.rw 8) (0), .func 46 [.ptr (.rw 4) (0)], .agg ([.int .i64 (x0), .int .i64 (x1), .int .i64 (x2), .int .i64 (x3), .int .i64 (x4), .int .i64 (x5), .int .i64 (x6)] : List AV), .ptr (.rw 10) (0)] [some ⟨1, cs⟩, some ⟨1, l1⟩, some ⟨1, ([.int .i64 (lw)] : List AV)⟩, some ⟨1, ([.bool (false)] : List AV)⟩, some ⟨1, ([.ptr (.rw 0) (0)] : List AV)⟩, some ⟨7, xs⟩, some ⟨1, ([.slice true (.rw 5) (0) (c)] : List AV)⟩, some ⟨1, ([.int .i64 (t)] : List AV)⟩, some ⟨1, ([.int .i64 (n)] : List AV)⟩, some ⟨4294967291, rc⟩, some ⟨1, ([.int .i64 (x0), .int .i64 (x1), .int .i64 (x2), .int .i64 (x3), .int .i64 (x4), .int .i64 (x5), .int .i64 (x6)] : List AV)⟩])) ∧
                (((x5 : Int) == getI (subL xs ((Int.toNat (n)) * 7) (7)) (5)) = false →
                  Q .ret [.ptr (.rw 2) (0), .ptr (.rw 3) (0), .func 46 [.ptr (.rw 4) (0)], .ptr (.rw 6) (0), .ptr (.rw 7) (0), .ptr (.rw 8) (0), .func 46 [.ptr (.rw 4) (0)], .agg ([.int .i64 (x0), .int .i64 (x1), .int .i64 (x2), .int .i64 (x3), .int .i64 (x4), .int .i64 (x5), .int .i64 (x6)] : List AV), .ptr (.rw 10) (0)] [some ⟨1, cs⟩, some ⟨1, l1⟩, some ⟨1, ([.int .i64 (lw)] : List AV)⟩, some ⟨1, ([.bool (false)] : List AV)⟩, some ⟨1, ([.ptr (.rw 0) (0)] : List AV)⟩, some ⟨7, xs⟩, some ⟨1, ([.slice true (.rw 5) (0) (c)] : List AV)⟩, some ⟨1, ([.int .i64 (t)] : List AV)⟩, some ⟨1, ([.int .i64 (n)] : List AV)⟩, some ⟨4294967291, rc⟩, some ⟨1, ([.int .i64 (x0), .int .i64 (x1), .int .i64 (x2), .int .i64 (x3), .int .i64 (x4), .int .i64 (x5), .int .i64 (x6)] : List AV)⟩])) ∧
              (((x4 : Int) == getI (subL xs ((Int.toNat (n)) * 7) (7)) (4)) = false →
                Q .ret [.ptr (.rw 2) (0), .ptr (.rw 3) (0), .func 46 [.ptr (.rw 4) (0)], .ptr (.rw 6) (0), .ptr (.rw 7) (0), .ptr (.rw 8) (0), .func 46 [.ptr (.rw 4) (0)], .agg ([.int .i64 (x0), .int .i64 (x1), .int .i64 (x2), .int .i64 (x3), .int .i64 (x4), .int .i64 (x5), .int .i64 (x6)] : List AV), .ptr (.rw 10) (0)] [some ⟨1, cs⟩, some ⟨1, l1⟩, some ⟨1, ([.int .i64 (lw)] : List AV)⟩, some ⟨1, ([.bool (false)] : List AV)⟩, some ⟨1, ([.ptr (.rw 0) (0)] : List AV)⟩, some ⟨7, xs⟩, some ⟨1, ([.slice true (.rw 5) (0) (c)] : List AV)⟩, some ⟨1, ([.int .i64 (t)] : List AV)⟩, some ⟨1, ([.int .i64 (n)] : List AV)⟩, some ⟨4294967291, rc⟩, some ⟨1, ([.int .i64 (x0), .int .i64 (x1), .int .i64 (x2), .int .i64 (x3), .int .i64 (x4), .int .i64 (x5), .int .i64 (x6)] : List AV)⟩])) ∧
            (((x3 : Int) == getI (subL xs ((Int.toNat (n)) * 7) (7)) (3)) = false →
              Q .ret [.ptr (.rw 2) (0), .ptr (.rw 3) (0), .func 46 [.ptr (.rw 4) (0)], .ptr (.rw 6) (0), .ptr (.rw 7) (0), .ptr (.rw 8) (0), .func 46 [.ptr (.rw 4) (0)], .agg ([.int .i64 (x0), .int .i64 (x1), .int .i64 (x2), .int .i64 (x3), .int .i64 (x4), .int .i64 (x5), .int .i64 (x6)] : List AV), .ptr (.rw 10) (0)] [some ⟨1, cs⟩, some ⟨1, l1⟩, some ⟨1, ([.int .i64 (lw)] : List AV)⟩, some ⟨1, ([.bool (false)] : List AV)⟩, some ⟨1, ([.ptr (.rw 0) (0)] : List AV)⟩, some ⟨7, xs⟩, some ⟨1, ([.slice true (.rw 5) (0) (c)] : List AV)⟩, some ⟨1, ([.int .i64 (t)] : List AV)⟩, some ⟨1, ([.int .i64 (n)] : List AV)⟩, some ⟨4294967291, rc⟩, some ⟨1, ([.int .i64 (x0), .int .i64 (x1), .int .i64 (x2), .int .i64 (x3), .int .i64 (x4), .int .i64 (x5), .int .i64 (x6)] : List AV)⟩])) ∧
          (((x2 : Int) == getI (subL xs ((Int.toNat (n)) * 7) (7)) (2)) = false →
            Q .ret [.ptr (.rw 2) (0), .ptr (.rw 3) (0), .func 46 [.ptr (.rw 4) (0)], .ptr (.rw 6) (0), .ptr (.rw 7) (0), .ptr (.rw 8) (0), .func 46 [.ptr (.rw 4) (0)], .agg ([.int .i64 (x0), .int .i64 (x1), .int .i64 (x2), .int .i64 (x3), .int .i64 (x4), .int .i64 (x5), .int .i64 (x6)] : List AV), .ptr (.rw 10) (0)] [some ⟨1, cs⟩, some ⟨1, l1⟩, some ⟨1, ([.int .i64 (lw)] : List AV)⟩, some ⟨1, ([.bool (false)] : List AV)⟩, some ⟨1, ([.ptr (.rw 0) (0)] : List AV)⟩, some ⟨7, xs⟩, some ⟨1, ([.slice true (.rw 5) (0) (c)] : List AV)⟩, some ⟨1, ([.int .i64 (t)] : List AV)⟩, some ⟨1, ([.int .i64 (n)] : List AV)⟩, some ⟨4294967291, rc⟩, some ⟨1, ([.int .i64 (x0), .int .i64 (x1), .int .i64 (x2), .int .i64 (x3), .int .i64 (x4), .int .i64 (x5), .int .i64 (x6)] : List AV)⟩])) ∧
        (((x1 : Int) == getI (subL xs ((Int.toNat (n)) * 7) (7)) (1)) = false →
          Q .ret [.ptr (.rw 2) (0), .ptr (.rw 3) (0), .func 46 [.ptr (.rw 4) (0)], .ptr (.rw 6) (0), .ptr (.rw 7) (0), .ptr (.rw 8) (0), .func 46 [.ptr (.rw 4) (0)], .agg ([.int .i64 (x0), .int .i64 (x1), .int .i64 (x2), .int .i64 (x3), .int .i64 (x4), .int .i64 (x5), .int .i64 (x6)] : List AV), .ptr (.rw 10) (0)] [some ⟨1, cs⟩, some ⟨1, l1⟩, some ⟨1, ([.int .i64 (lw)] : List AV)⟩, some ⟨1, ([.bool (false)] : List AV)⟩, some ⟨1, ([.ptr (.rw 0) (0)] : List AV)⟩, some ⟨7, xs⟩, some ⟨1, ([.slice true (.rw 5) (0) (c)] : List AV)⟩, some ⟨1, ([.int .i64 (t)] : List AV)⟩, some ⟨1, ([.int .i64 (n)] : List AV)⟩, some ⟨4294967291, rc⟩, some ⟨1, ([.int .i64 (x0), .int .i64 (x1), .int .i64 (x2), .int .i64 (x3), .int .i64 (x4), .int .i64 (x5), .int .i64 (x6)] : List AV)⟩])) ∧
      (((x0 : Int) == getI (subL xs ((Int.toNat (n)) * 7) (7)) (0)) = false →
        Q .ret [.ptr (.rw 2) (0), .ptr (.rw 3) (0), .func 46 [.ptr (.rw 4) (0)], .ptr (.rw 6) (0), .ptr (.rw 7) (0), .ptr (.rw 8) (0), .func 46 [.ptr (.rw 4) (0)], .agg ([.int .i64 (x0), .int .i64 (x1), .int .i64 (x2), .int .i64 (x3), .int .i64 (x4), .int .i64 (x5), .int .i64 (x6)] : List AV), .ptr (.rw 10) (0)] [some ⟨1, cs⟩, some ⟨1, l1⟩, some ⟨1, ([.int .i64 (lw)] : List AV)⟩, some ⟨1, ([.bool (false)] : List AV)⟩, some ⟨1, ([.ptr (.rw 0) (0)] : List AV)⟩, some ⟨7, xs⟩, some ⟨1, ([.slice true (.rw 5) (0) (c)] : List AV)⟩, some ⟨1, ([.int .i64 (t)] : List AV)⟩, some ⟨1, ([.int .i64 (n)] : List AV)⟩, some ⟨4294967291, rc⟩, some ⟨1, ([.int .i64 (x0), .int .i64 (x1), .int .i64 (x2), .int .i64 (x3), .int .i64 (x4), .int .i64 (x5), .int .i64 (x6)] : List AV)⟩]))) := by kernel_rfl
theorem s_it (G : Nat → List AV) (rq : List AV → Bool) (cs l1 xs rc rc2 : List AV) (lw t n i : Int) (c : Nat) (Q : Ex → List AV → Hp → Prop) (R : AV → Hp → Prop) : vT G Q R (dloop (Dr Try.prog [26, 28] [] [] [] (yT rq (.var 25 rc2)) 0) 300 60 10 (loopN Try.f46 0) 22 [0, 1, 4] [.yld 9, .ptr (.rw 4) (.lit 0), .int .i64 (.var 6 i)] (HTd (.var 8 cs) (.var 9 l1) (.var 10 xs) (.var 18 lw) (.var 19 t) (.var 20 n) (.var 21 c) (.var 24 rc))) = (
    (decide ((i : Int) < 32) = true →
      isB cs (0) = true ∧
      (getB cs (0) = true →
        (decide ((i : Int) ≥ 0) = true →
          decide ((i : Int) < 32) = true ∧
          decide ((0 : Int) ≤ i) = true ∧
          decide ((i : Int) < 32) = true ∧
          isB cs (Int.toNat (i) + 1) = true ∧
          (getB cs (Int.toNat (i) + 1) = true →
            decide ((0 : Int) ≤ i) = true ∧
            decide ((i : Int) < 32) = true ∧
            leB ((Int.toNat (i)) * 7 + 40) (List.length cs) = true ∧
            rq [.agg rc] = true ∧
            ok7U [.agg (subL cs ((Int.toNat (i)) * 7 + 33) (7))] = true ∧
            flat3U [.agg cs, .agg l1, .agg xs] = true ∧
            nextU [.agg xs, .agg (subL cs ((Int.toNat (i)) * 7 + 33) (7)), .int .i64 (n), .int .i64 (((c : Nat) : Int))] = true ∧
            (stopU [.int .i64 (t), .int .i64 (n), .int .i64 (lw)] = true →
              Q .ret [.yld 9, .ptr (.rw 4) (0), .int .i64 (i)] [some ⟨1, cs⟩, some ⟨1, l1⟩, some ⟨1, ([.int .i64 (lw)] : List AV)⟩, some ⟨1, ([.bool (false)] : List AV)⟩, some ⟨1, ([.ptr (.rw 0) (0)] : List AV)⟩, some ⟨7, xs⟩, some ⟨1, ([.slice true (.rw 5) (0) (c)] : List AV)⟩, some ⟨1, ([.int .i64 (t)] : List AV)⟩, some ⟨1, ([.int .i64 (IntKind.wrap .i64 (n + 1))] : List AV)⟩, some ⟨4294967291, rc2⟩]) ∧
            (stopU [.int .i64 (t), .int .i64 (n), .int .i64 (lw)] = false →
              Q .normal [.yld 9, .ptr (.rw 4) (0), .int .i64 (IntKind.wrap .i64 (i + 1))] [some ⟨1, cs⟩, some ⟨1, l1⟩, some ⟨1, ([.int .i64 (lw)] : List AV)⟩, some ⟨1, ([.bool (false)] : List AV)⟩, some ⟨1, ([.ptr (.rw 0) (0)] : List AV)⟩, some ⟨7, xs⟩, some ⟨1, ([.slice true (.rw 5) (0) (c)] : List AV)⟩, some ⟨1, ([.int .i64 (t)] : List AV)⟩, some ⟨1, ([.int .i64 (IntKind.wrap .i64 (n + 1))] : List AV)⟩, some ⟨4294967291, rc⟩])) ∧
          (getB cs (Int.toNat (i) + 1) = false →
            Q .normal [.yld 9, .ptr (.rw 4) (0), .int .i64 (IntKind.wrap .i64 (i + 1))] [some ⟨1, cs⟩, some ⟨1, l1⟩, some ⟨1, ([.int .i64 (lw)] : List AV)⟩, some ⟨1, ([.bool (false)] : List AV)⟩, some ⟨1, ([.ptr (.rw 0) (0)] : List AV)⟩, some ⟨7, xs⟩, some ⟨1, ([.slice true (.rw 5) (0) (c)] : List AV)⟩, some ⟨1, ([.int .i64 (t)] : List AV)⟩, some ⟨1, ([.int .i64 (n)] : List AV)⟩, some ⟨4294967291, rc⟩])) ∧
        (decide ((i : Int) ≥ 0) = false →
          Q .normal [.yld 9, .ptr (.rw 4) (0), .int .i64 (IntKind.wrap .i64 (i + 1))] [some ⟨1, cs⟩, some ⟨1, l1⟩, some ⟨1, ([.int .i64 (lw)] : List AV)⟩, some ⟨1, ([.bool (false)] : List AV)⟩, some ⟨1, ([.ptr (.rw 0) (0)] : List AV)⟩, some ⟨7, xs⟩, some ⟨1, ([.slice true (.rw 5) (0) (c)] : List AV)⟩, some ⟨1, ([.int .i64 (t)] : List AV)⟩, some ⟨1, ([.int .i64 (n)] : List AV)⟩, some ⟨4294967291, rc⟩])) ∧
      (getB cs (0) = false →
        Q .normal [.yld 9, .ptr (.rw 4) (0), .int .i64 (IntKind.wrap .i64 (i + 1))] [some ⟨1, cs⟩, some ⟨1, l1⟩, some ⟨1, ([.int .i64 (lw)] : List AV)⟩, some ⟨1, ([.bool (false)] : List AV)⟩, some ⟨1, ([.ptr (.rw 0) (0)] : List AV)⟩, some ⟨7, xs⟩, some ⟨1, ([.slice true (.rw 5) (0) (c)] : List AV)⟩, some ⟨1, ([.int .i64 (t)] : List AV)⟩, some ⟨1, ([.int .i64 (n)] : List AV)⟩, some ⟨4294967291, rc⟩])) ∧
    (decide ((i : Int) < 32) = false →
      Q (.exit 0) [.yld 9, .ptr (.rw 4) (0), .int .i64 (i)] [some ⟨1, cs⟩, some ⟨1, l1⟩, some ⟨1, ([.int .i64 (lw)] : List AV)⟩, some ⟨1, ([.bool (false)] : List AV)⟩, some ⟨1, ([.ptr (.rw 0) (0)] : List AV)⟩, some ⟨7, xs⟩, some ⟨1, ([.slice true (.rw 5) (0) (c)] : List AV)⟩, some ⟨1, ([.int .i64 (t)] : List AV)⟩, some ⟨1, ([.int .i64 (n)] : List AV)⟩, some ⟨4294967291, rc⟩])) := by kernel_rfl
def F0s : Fr := fl 160 [5, 6, 19, 20, 21, 22, 113] [.ptr (.rw 2) 0, .ptr (.rw 3) 0, .func 46 [.ptr (.rw 4) 0], .ptr (.rw 6) 0, .ptr (.rw 7) 0, .ptr (.rw 8) 0, .func 46 [.ptr (.rw 4) 0]]
noncomputable def rcS (p : Nat) : List AV := rcA (loopN Try.f23 3) p F0s
theorem N23_eq : loopN Try.f23 3 = .rangeFunc (rgG (loopN Try.f23 3)) (rgP (loopN Try.f23 3)) (rgA (loopN Try.f23 3)) (rgB (loopN Try.f23 3)) := by kernel_rfl
theorem rcS_b : bnds 10 (rcS 0) = true := by kernel_rfl
theorem rcS_b9 : bnds 10 (rcS 9) = true := by kernel_rfl
theorem HT_b (G : Nat → List AV) {cs l1 xs rc : List AV} (h1 : bnds 0 cs = true) (h2 : bnds 0 l1 = true) (h3 : bnds 0 xs = true) (lw t n : Int) (c : Nat) (hr : bnds 10 rc = true) : hpB 10 (vHp G (HTd (.var 8 cs) (.var 9 l1) (.var 10 xs) (.var 18 lw) (.var 19 t) (.var 20 n) (.var 21 c) (.var 24 rc))) = true := by
  simp only [HTd, vHp, List.map_cons, List.map_nil, Option.map_some, vBlk, vL, vVs, vV, vR, vN, vI, vB, hpB, m_of h1, m_of h2, m_of h3, hr, bnds, bnd, Bool.and_self, Bool.and_true]
  rfl
theorem sub_I' {x : List AV} {o j : Nat} (hj : j < 7) : getI (subL x o 7) j = getI x (o + j) := by
  unfold subL getI
  rw [List.getElem?_take, if_pos hj, List.getElem?_drop]
theorem sub_isI' {x : List AV} {o j : Nat} (hj : j < 7) : isI .i64 (subL x o 7) j = isI .i64 x (o + j) := by
  unfold subL isI
  rw [List.getElem?_take, if_pos hj, List.getElem?_drop]
theorem y_s (G : Nat → List AV) (B : Nat) (cs l1 xs : List AV) (h1 : bnds 0 cs = true) (h2 : bnds 0 l1 = true) (h3 : bnds 0 xs = true) (lw t n : Int) (c : Nat) (x0 x1 x2 x3 x4 x5 x6 : Int) (hn : nextB xs (l7 x0 x1 x2 x3 x4 x5 x6) n c = true) : AYld (⟨Try.prog, G, B⟩ : Ctx) 9 [.agg (l7 x0 x1 x2 x3 x4 x5 x6)] (vHp G (HTd (.var 8 cs) (.var 9 l1) (.var 10 xs) (.var 18 lw) (.var 19 t) (.var 20 n) (.var 21 c) (.var 24 (rcS 0)))) fun v H' => (stopU [.int .i64 t, .int .i64 n, .int .i64 lw] = true → v = .bool false ∧ H' = vHp G (HTd (.var 8 cs) (.var 9 l1) (.var 10 xs) (.var 18 lw) (.var 19 t) (.var 20 (n + 1)) (.var 21 c) (.var 24 (rcS 9)))) ∧ (stopU [.int .i64 t, .int .i64 n, .int .i64 lw] = false → v = .bool true ∧ H' = vHp G (HTd (.var 8 cs) (.var 9 l1) (.var 10 xs) (.var 18 lw) (.var 19 t) (.var 20 (n + 1)) (.var 21 c) (.var 24 (rcS 0)))) := by
  simp only [nextB, Bool.and_eq_true, decide_eq_true_eq, List.all_eq_true, List.mem_range] at hn
  obtain ⟨⟨n0, n1, n2, n3⟩, hj⟩ := hn
  have es : stopU [.int .i64 t, .int .i64 n, .int .i64 lw] = decide (t = 0 ∧ n + 1 = lw) := rfl
  have ew : IntKind.wrap .i64 (n + 1) = n + 1 := i64_in (by omega)
  refine AYld.dx (C := (⟨Try.prog, G, B⟩ : Ctx)) (K := (Dc Try.prog [] [] [] 0)) (f1 := 200) (f2 := 600) (n1 := 60) (n2 := 60) (N := 160) (live := [5, 6, 19, 20, 21, 22, 113, 114, 23]) (i := 9) (e := 4294967291) (ps := rgP (loopN Try.f23 3)) (ac := rgA (loopN Try.f23 3)) (bd := rgB (loopN Try.f23 3)) (F0 := F0s)
    (vs := [.ptr (.rw 2) (.lit 0), .ptr (.rw 3) (.lit 0), .func 46 [.ptr (.rw 4) (.lit 0)], .ptr (.rw 6) (.lit 0), .ptr (.rw 7) (.lit 0), .ptr (.rw 8) (.lit 0), .func 46 [.ptr (.rw 4) (.lit 0)], .agg (.of (E7 (.var 11 x0) (.var 12 x1) (.var 13 x2) (.var 14 x3) (.var 15 x4) (.var 16 x5) (.var 17 x6))), .undef]) (vs1 := [.ptr (.rw 2) (.lit 0), .ptr (.rw 3) (.lit 0), .func 46 [.ptr (.rw 4) (.lit 0)], .ptr (.rw 6) (.lit 0), .ptr (.rw 7) (.lit 0), .ptr (.rw 8) (.lit 0), .func 46 [.ptr (.rw 4) (.lit 0)], .agg (.of (E7 (.var 11 x0) (.var 12 x1) (.var 13 x2) (.var 14 x3) (.var 15 x4) (.var 16 x5) (.var 17 x6))), .ptr (.rw 10) (.lit 0)])
    (H := (HTd (.var 8 cs) (.var 9 l1) (.var 10 xs) (.var 18 lw) (.var 19 t) (.var 20 n) (.var 21 c) (.var 24 (rcS 0)))) (H1 := (HTd (.var 8 cs) (.var 9 l1) (.var 10 xs) (.var 18 lw) (.var 19 t) (.var 20 n) (.var 21 c) (.var 24 (rcS 0))) ++ [some ⟨1, (.of (E7 (.var 11 x0) (.var 12 x1) (.var 13 x2) (.var 14 x3) (.var 15 x4) (.var 16 x5) (.var 17 x6)))⟩]) (H2 := (HTd (.var 8 cs) (.var 9 l1) (.var 10 xs) (.var 18 lw) (.var 19 t) (.var 20 n) (.var 21 c) (.var 24 (rcS 1))) ++ [some ⟨1, (.of (E7 (.var 11 x0) (.var 12 x1) (.var 13 x2) (.var 14 x3) (.var 15 x4) (.var 16 x5) (.var 17 x6)))⟩])
    (dgNo G B (by kernel_rfl) (by kernel_rfl)) (dgNo G B (by kernel_rfl) (by kernel_rfl)) rfl rfl rfl (by kernel_rfl) (by kernel_rfl) rfl ?_ rfl (by simp [HTd]) rfl ?_
  · have := s_as G cs l1 xs (rcS 0) lw t n c x0 x1 x2 x3 x4 x5 x6 (fun ex ws H' => ex = .normal ∧ ws = vVs G [.ptr (.rw 2) (.lit 0), .ptr (.rw 3) (.lit 0), .func 46 [.ptr (.rw 4) (.lit 0)], .ptr (.rw 6) (.lit 0), .ptr (.rw 7) (.lit 0), .ptr (.rw 8) (.lit 0), .func 46 [.ptr (.rw 4) (.lit 0)], .agg (.of (E7 (.var 11 x0) (.var 12 x1) (.var 13 x2) (.var 14 x3) (.var 15 x4) (.var 16 x5) (.var 17 x6))), .ptr (.rw 10) (.lit 0)] ∧ H' = vHp G ((HTd (.var 8 cs) (.var 9 l1) (.var 10 xs) (.var 18 lw) (.var 19 t) (.var 20 n) (.var 21 c) (.var 24 (rcS 0))) ++ [some ⟨1, (.of (E7 (.var 11 x0) (.var 12 x1) (.var 13 x2) (.var 14 x3) (.var 15 x4) (.var 16 x5) (.var 17 x6)))⟩])) (fun _ _ => False)
    refine Eq.mpr this ⟨rfl, rfl, rfl⟩
  · have := s_bd G cs l1 xs (rcS 1) lw t n c x0 x1 x2 x3 x4 x5 x6 (fun ex _ H' => H'[9]? = some (some ⟨4294967291, .rcd 1 (rgP (loopN Try.f23 3)) (rgA (loopN Try.f23 3)) (rgB (loopN Try.f23 3)) :: F0s⟩) ∧ ∃ H'' Gx, H'.set 9 (some ⟨4294967291, .rcd (stEx ex) (rgP (loopN Try.f23 3)) (rgA (loopN Try.f23 3)) (rgB (loopN Try.f23 3)) :: F0s⟩) = H'' ++ Gx ∧ (HTd (.var 8 cs) (.var 9 l1) (.var 10 xs) (.var 18 lw) (.var 19 t) (.var 20 n) (.var 21 c) (.var 24 (rcS 0))).length ≤ H''.length ∧ hpB H''.length H'' = true ∧ ((stopU [.int .i64 t, .int .i64 n, .int .i64 lw] = true → AV.bool (isNormal ex) = .bool false ∧ H'' = vHp G (HTd (.var 8 cs) (.var 9 l1) (.var 10 xs) (.var 18 lw) (.var 19 t) (.var 20 (n + 1)) (.var 21 c) (.var 24 (rcS 9)))) ∧ (stopU [.int .i64 t, .int .i64 n, .int .i64 lw] = false → AV.bool (isNormal ex) = .bool true ∧ H'' = vHp G (HTd (.var 8 cs) (.var 9 l1) (.var 10 xs) (.var 18 lw) (.var 19 t) (.var 20 (n + 1)) (.var 21 c) (.var 24 (rcS 0)))))) (fun _ _ => False)
    have E : ∀ j, j < 7 → (getI (l7 x0 x1 x2 x3 x4 x5 x6) j == getI (subL xs (n.toNat * 7) 7) j) = true := fun j h => by rw [sub_I' h]; exact (hj j h).2
    have I : ∀ j, j < 7 → isI .i64 (subL xs (n.toNat * 7) 7) j = true := fun j h => by rw [sub_isI' h]; exact (hj j h).1
    have nope : ∀ {b : Bool} {X : Prop}, b = true → b = false → X := fun h1 h2 => by rw [h1] at h2; cases h2
    rw [ew] at this
    refine Eq.mpr this ⟨fun h => nope h (decide_eq_false (by omega)), fun h => ⟨decide_eq_true (by omega), decide_eq_true (by omega), leB_iff.2 (by omega), I 0 (by omega), I 1 (by omega), I 2 (by omega), I 3 (by omega), I 4 (by omega), I 5 (by omega), I 6 (by omega),
      fun _ => ⟨fun _ => ⟨fun _ => ⟨fun _ => ⟨fun _ => ⟨fun _ => ⟨fun _ => ⟨fun ht => ⟨fun hl => ?_, fun hl => ?_⟩, fun ht => ?_⟩, nope (E 6 (by omega))⟩, nope (E 5 (by omega))⟩, nope (E 4 (by omega))⟩, nope (E 3 (by omega))⟩, nope (E 2 (by omega))⟩, nope (E 1 (by omega))⟩, nope (E 0 (by omega))⟩⟩
    · have e : stopU [.int .i64 t, .int .i64 n, .int .i64 lw] = true := by rw [es]; exact decide_eq_true ⟨by simpa using ht, by simpa using hl⟩
      exact ⟨rfl, vHp G (HTd (.var 8 cs) (.var 9 l1) (.var 10 xs) (.var 18 lw) (.var 19 t) (.var 20 (n + 1)) (.var 21 c) (.var 24 (rcS 9))), [_], rfl, by simp [HTd, vHp], HT_b G h1 h2 h3 lw t (n + 1) c rcS_b9, ⟨fun _ => ⟨rfl, rfl⟩, nope e⟩⟩
    · have e : stopU [.int .i64 t, .int .i64 n, .int .i64 lw] = false := by rw [es]; exact decide_eq_false (fun q => by have : ¬ n + 1 = lw := by simpa using hl
                                                                                                                        exact this q.2)
      exact ⟨rfl, vHp G (HTd (.var 8 cs) (.var 9 l1) (.var 10 xs) (.var 18 lw) (.var 19 t) (.var 20 (n + 1)) (.var 21 c) (.var 24 (rcS 0))), [_], rfl, by simp [HTd, vHp], HT_b G h1 h2 h3 lw t (n + 1) c rcS_b, ⟨fun q => nope q e, fun _ => ⟨rfl, rfl⟩⟩⟩
    · have e : stopU [.int .i64 t, .int .i64 n, .int .i64 lw] = false := by rw [es]; exact decide_eq_false (fun q => by have : ¬ t = 0 := by simpa using ht
                                                                                                                        exact this q.1)
      exact ⟨rfl, vHp G (HTd (.var 8 cs) (.var 9 l1) (.var 10 xs) (.var 18 lw) (.var 19 t) (.var 20 (n + 1)) (.var 21 c) (.var 24 (rcS 0))), [_], rfl, by simp [HTd, vHp], HT_b G h1 h2 h3 lw t (n + 1) c rcS_b, ⟨fun q => nope q e, fun _ => ⟨rfl, rfl⟩⟩⟩
theorem yT_ok (G : Nat → List AV) (B : Nat) : DYsumOk (⟨Try.prog, G, B⟩ : Ctx) (yT (isRc (rcS 0)) (.var 25 (rcS 9))) := by
  intro i args H oo ho
  unfold yT at ho
  split at ho
  · rename_i hi8
    have := Nat.eq_of_beq_eq_true hi8
    subst this
    split at ho
    · rename_i y l l1 lw x c t n rc
      simp only [Option.some.injEq] at ho
      subst ho
      intro h1 h2 h3 h4
      simp only [vB, vVs, vV] at h1 h2
      have h3 : flat3U [.agg (vL G l), .agg (vL G l1), .agg (vL G x)] = true := h3
      simp only [flat3U, Bool.and_eq_true] at h3
      have h4 : nextB (vL G x) (vL G y) (vI G n) ((((vN G c : Nat) : Int)).toNat) = true := h4
      rw [Int.toNat_natCast] at h4
      have e1 := isRc_iff.1 h1
      have ex := ok7_cells h2
      have hb := h4
      simp only [nextB, Bool.and_eq_true, decide_eq_true_eq] at hb
      have ew : binI .add .i64 (vI G n) 1 = vI G n + 1 := i64_in (by omega)
      have key := y_s G B (vL G l) (vL G l1) (vL G x) h3.1 h3.2.1 h3.2.2 (vI G lw) (vI G t) (vI G n) (vN G c) (getI (vL G y) 0) (getI (vL G y) 1) (getI (vL G y) 2) (getI (vL G y) 3) (getI (vL G y) 4) (getI (vL G y) 5) (getI (vL G y) 6) (by rw [← ex]; exact h4)
      rw [← ex] at key
      simp only [vVs, vV, HTd, vHp, List.map_cons, List.map_nil, Option.map_some, vBlk, vL, vR, vN, vI, vB, ← e1] at key
      rw [← ew] at key
      refine ⟨fun hb => ?_, fun hb => ?_⟩
      · have hb : stopU [.int .i64 (vI G t), .int .i64 (vI G n), .int .i64 (vI G lw)] = true := hb
        unfold DYld
        simp only [vVs, vV, vHp, List.map_cons, List.map_nil, Option.map_some, vBlk, vL, vR, vN, vI, vB, vHop, ew]
        refine key.mono ?_
        rintro v H' ⟨g, _⟩
        exact g hb
      · have hb : stopU [.int .i64 (vI G t), .int .i64 (vI G n), .int .i64 (vI G lw)] = false := hb
        unfold DYld
        simp only [vVs, vV, vHp, List.map_cons, List.map_nil, Option.map_some, vBlk, vL, vR, vN, vI, vB, vHop, ew]
        refine key.mono ?_
        rintro v H' ⟨_, g⟩
        exact g hb
    · simp at ho
  · simp at ho
end Go.Am
