/-
  Images: which are the same: the loops.
-/
import Derived.Test.YthejjolnlngahaaImJ
namespace Go.Am
open Go.Proofs
set_option maxRecDepth 100000
def datsOk (G : Nat → List AV) (cs : List AV) (n : Nat) : Bool := allTo (datOk G cs) n
def plEq (ps ps2 : List AV) (j : Nat) : Bool := (xP ps j == xP ps2 j) && (hP ps j == hP ps2 j)
def secSU (G : Nat → List AV) : List AV → Bool := fun xs => match xs with
  | [.agg cs, .agg cs2, .int _ n] => allTo (secEq G cs cs2) n.toNat
  | _ => false
def plSU : List AV → Bool := fun xs => match xs with
  | [.agg ps, .agg ps2, .int _ m] => allTo (plEq ps ps2) m.toNat
  | _ => false
theorem secSU_eq {G : Nat → List AV} {cs cs2 : List AV} {n : Nat} : secSU G [.agg cs, .agg cs2, .int .i64 (n : Int)] = allTo (secEq G cs cs2) n := by simp only [secSU, int_nat]
theorem plSU_eq {cs cs2 : List AV} {n : Nat} : plSU [.agg cs, .agg cs2, .int .i64 (n : Int)] = allTo (plEq cs cs2) n := by simp only [plSU, int_nat]
def condR (G : Nat → List AV) (cs cs2 : List AV) (n nv : Nat) : Bool := Nat.beq n nv && (Nat.ble n 1000000 && ((secsOk cs n && secsOk cs2 n) && (datsOk G cs n && datsOk G cs2 n)))
def condP (ps ps2 : List AV) (m m2 : Nat) : Bool := Nat.beq m m2 && (Nat.ble m 1000000 && (plsOk ps m && plsOk ps2 m))
theorem condR_iff {G : Nat → List AV} {cs cs2 : List AV} {n nv : Nat} : condR G cs cs2 n nv = true ↔ n = nv ∧ n ≤ 1000000 ∧ (secsOk cs n = true ∧ secsOk cs2 n = true) ∧ (datsOk G cs n = true ∧ datsOk G cs2 n = true) := by
  unfold condR; simp only [Bool.and_eq_true]
  exact ⟨fun ⟨h1, h2, h3⟩ => ⟨Nat.eq_of_beq_eq_true h1, Nat.le_of_ble_eq_true h2, h3⟩, fun ⟨h1, h2, h3⟩ => ⟨by rw [h1]; exact Nat.beq_refl _, Nat.ble_eq_true_of_le h2, h3⟩⟩
theorem condP_iff {ps ps2 : List AV} {m m2 : Nat} : condP ps ps2 m m2 = true ↔ m = m2 ∧ m ≤ 1000000 ∧ (plsOk ps m = true ∧ plsOk ps2 m = true) := by
  unfold condP; simp only [Bool.and_eq_true]
  exact ⟨fun ⟨h1, h2, h3⟩ => ⟨Nat.eq_of_beq_eq_true h1, Nat.le_of_ble_eq_true h2, h3⟩, fun ⟨h1, h2, h3⟩ => ⟨by rw [h1]; exact Nat.beq_refl _, Nat.ble_eq_true_of_le h2, h3⟩⟩
def rsQ (G : Nat → List AV) (s sv : Int) (k k2 n nv kp kp2 m m2 : Nat) : List AV → Bool := stQ (condR G (G k) (G k2) n nv) [.ptr (.rw 0) 0, .ptr (.rw 1) 0, .bool false, .int .i64 0] [some ⟨1, [.int .i64 s, .slice true (.ro k) 0 n, .slice true (.ro kp) 0 m]⟩, some ⟨1, [.int .i64 sv, .slice true (.ro k2) 0 nv, .slice true (.ro kp2) 0 m2]⟩]
def rsO (G : Nat → List AV) (s sv : Int) (k k2 n nv kp kp2 m m2 : Nat) : LOut := .tst (.uf 1722 (secSU G) [.agg (.ro (.var 1 k)), .agg (.ro (.var 3 k2)), .int .i64 (.ofN (.var 2 n))]) (.one (.exit 0) [.ptr (.rw 0) (.lit 0), .ptr (.rw 1) (.lit 0), .undef, .undef] [some ⟨1, .of [.int .i64 (.var 4 s), .slice true (.ro (.var 1 k)) (.lit 0) (.var 2 n), .slice true (.ro (.var 5 kp)) (.lit 0) (.var 6 m)]⟩, some ⟨1, .of [.int .i64 (.var 10 sv), .slice true (.ro (.var 3 k2)) (.lit 0) (.var 9 nv), .slice true (.ro (.var 7 kp2)) (.lit 0) (.var 31 m2)]⟩]) (.one .ret [.undef, .undef, .bool (.lit false), .undef] [some ⟨1, .of [.int .i64 (.var 4 s), .slice true (.ro (.var 1 k)) (.lit 0) (.var 2 n), .slice true (.ro (.var 5 kp)) (.lit 0) (.var 6 m)]⟩, some ⟨1, .of [.int .i64 (.var 10 sv), .slice true (.ro (.var 3 k2)) (.lit 0) (.var 9 nv), .slice true (.ro (.var 7 kp2)) (.lit 0) (.var 31 m2)]⟩])
def rdQ (G : Nat → List AV) (s sv : Int) (k k2 n nv kp kp2 m m2 : Nat) : List AV → Bool := stQ (condP (G kp) (G kp2) m m2) [.ptr (.rw 0) 0, .ptr (.rw 1) 0, .undef, .int .i64 0] [some ⟨1, [.int .i64 s, .slice true (.ro k) 0 n, .slice true (.ro kp) 0 m]⟩, some ⟨1, [.int .i64 sv, .slice true (.ro k2) 0 nv, .slice true (.ro kp2) 0 m2]⟩]
def rdO (s sv : Int) (k k2 n nv kp kp2 m m2 : Nat) : LOut := .tst (.uf 1721 plSU [.agg (.ro (.var 5 kp)), .agg (.ro (.var 7 kp2)), .int .i64 (.ofN (.var 6 m))]) (.one (.exit 2) [.undef, .undef, .undef, .undef] [some ⟨1, .of [.int .i64 (.var 4 s), .slice true (.ro (.var 1 k)) (.lit 0) (.var 2 n), .slice true (.ro (.var 5 kp)) (.lit 0) (.var 6 m)]⟩, some ⟨1, .of [.int .i64 (.var 10 sv), .slice true (.ro (.var 3 k2)) (.lit 0) (.var 9 nv), .slice true (.ro (.var 7 kp2)) (.lit 0) (.var 31 m2)]⟩]) (.one .ret [.undef, .undef, .bool (.lit false), .undef] [some ⟨1, .of [.int .i64 (.var 4 s), .slice true (.ro (.var 1 k)) (.lit 0) (.var 2 n), .slice true (.ro (.var 5 kp)) (.lit 0) (.var 6 m)]⟩, some ⟨1, .of [.int .i64 (.var 10 sv), .slice true (.ro (.var 3 k2)) (.lit 0) (.var 9 nv), .slice true (.ro (.var 7 kp2)) (.lit 0) (.var 31 m2)]⟩])
theorem t15 (G : Nat → List AV) (s sv : Int) (k k2 n nv kp kp2 m m2 : Nat) (Q : Ex → List AV → Hp → Prop) (R : AV → Hp → Prop) : vT G Q R (dcall (Dc Try.prog [] [] [(DLat 1723 (rsQ G s sv k k2 n nv kp kp2 m m2) 0 95 [2, 3, 4, 5] (rsO G s sv k k2 n nv kp kp2 m m2)), (DLat 1724 (rdQ G s sv k k2 n nv kp kp2 m m2) 2 95 [2, 3, 4, 8] (rdO s sv k k2 n nv kp kp2 m m2))] 2) 300 20 Try.f15 [.agg (.of [.int .i64 (.var 4 s), .slice true (.ro (.var 1 k)) (.lit 0) (.var 2 n), .slice true (.ro (.var 5 kp)) (.lit 0) (.var 6 m)]), .agg (.of [.int .i64 (.var 10 sv), .slice true (.ro (.var 3 k2)) (.lit 0) (.var 9 nv), .slice true (.ro (.var 7 kp2)) (.lit 0) (.var 31 m2)])] [] 0) = (
    (((s : Int) == sv) = true →
      (((((n : Nat) : Int) : Int) == ((nv : Nat) : Int)) = true →
        (((((m : Nat) : Int) : Int) == ((m2 : Nat) : Int)) = true →
          (rsQ G s sv k k2 n nv kp kp2 m m2) [.agg ([.ptr (.rw 0) (0), .ptr (.rw 1) (0), .bool (false), .int .i64 (0)] : List AV), .agg ([.tup [.int .i64 (1), .agg ([.int .i64 (s), .slice true (.ro (k)) (0) (n), .slice true (.ro (kp)) (0) (m)] : List AV)], .tup [.int .i64 (1), .agg ([.int .i64 (sv), .slice true (.ro (k2)) (0) (nv), .slice true (.ro (kp2)) (0) (m2)] : List AV)]] : List AV)] = true ∧
          ((secSU G) [.agg (G (k)), .agg (G (k2)), .int .i64 (((n : Nat) : Int))] = true →
            (rdQ G s sv k k2 n nv kp kp2 m m2) [.agg ([.ptr (.rw 0) (0), .ptr (.rw 1) (0), .undef, .int .i64 (0)] : List AV), .agg ([.tup [.int .i64 (1), .agg ([.int .i64 (s), .slice true (.ro (k)) (0) (n), .slice true (.ro (kp)) (0) (m)] : List AV)], .tup [.int .i64 (1), .agg ([.int .i64 (sv), .slice true (.ro (k2)) (0) (nv), .slice true (.ro (kp2)) (0) (m2)] : List AV)]] : List AV)] = true ∧
            (plSU [.agg (G (kp)), .agg (G (kp2)), .int .i64 (((m : Nat) : Int))] = true →
              R (.bool (true)) []) ∧
            (plSU [.agg (G (kp)), .agg (G (kp2)), .int .i64 (((m : Nat) : Int))] = false →
              R (.bool (false)) [])) ∧
          ((secSU G) [.agg (G (k)), .agg (G (k2)), .int .i64 (((n : Nat) : Int))] = false →
            R (.bool (false)) [])) ∧
        (((((m : Nat) : Int) : Int) == ((m2 : Nat) : Int)) = false →
          R (.bool (false)) [])) ∧
      (((((n : Nat) : Int) : Int) == ((nv : Nat) : Int)) = false →
        R (.bool (false)) [])) ∧
    (((s : Int) == sv) = false →
      R (.bool (false)) [])) := by kernel_rfl
def ePQ (G : Nat → List AV) (k k2 n nv : Nat) : List AV → Bool := stQ (condP (G k) (G k2) n nv) [.slice true (.ro k) 0 n, .slice true (.ro k2) 0 nv, .bool false, .int .i64 (n : Int), .int .i64 0] []
def ePO (k k2 n nv : Nat) : LOut := .tst (.uf 1721 plSU [.agg (.ro (.var 1 k)), .agg (.ro (.var 3 k2)), .int .i64 (.ofN (.var 2 n))]) (.one (.exit 0) [.undef, .undef, .undef, .undef, .undef] []) (.one .ret [.undef, .undef, .bool (.lit false), .undef, .undef] [])
theorem t39 (G : Nat → List AV) (k k2 n nv : Nat) (Q : Ex → List AV → Hp → Prop) (R : AV → Hp → Prop) : vT G Q R (dcall (Dc Try.prog [] [] [(DLat 1725 (ePQ G k k2 n nv) 0 26 [0, 1, 4, 12, 13] (ePO k k2 n nv))] 0) 300 20 Try.f39 [.slice true (.ro (.var 1 k)) (.lit 0) (.var 2 n), .slice true (.ro (.var 3 k2)) (.lit 0) (.var 9 nv)] [] 0) = (
    (((((n : Nat) : Int) : Int) == ((nv : Nat) : Int)) = true →
      (ePQ G k k2 n nv) [.agg ([.slice true (.ro (k)) (0) (n), .slice true (.ro (k2)) (0) (nv), .bool (false), .int .i64 (((n : Nat) : Int)), .int .i64 (0)] : List AV), .agg ([] : List AV)] = true ∧
      (plSU [.agg (G (k)), .agg (G (k2)), .int .i64 (((n : Nat) : Int))] = true →
        R (.bool (true)) []) ∧
      (plSU [.agg (G (k)), .agg (G (k2)), .int .i64 (((n : Nat) : Int))] = false →
        R (.bool (false)) [])) ∧
    (((((n : Nat) : Int) : Int) == ((nv : Nat) : Int)) = false →
      R (.bool (false)) [])) := by kernel_rfl
def efQ (G : Nat → List AV) (k k2 n nv : Nat) : List AV → Bool := stQ (condR G (G k) (G k2) n nv) [.slice true (.ro k2) 0 nv, .func 41 [], .bool false, .slice true (.ro k) 0 n, .int .i64 (n : Int), .int .i64 0] []
def efO (G : Nat → List AV) (k k2 n nv : Nat) : LOut := .tst (.uf 1722 (secSU G) [.agg (.ro (.var 1 k)), .agg (.ro (.var 3 k2)), .int .i64 (.ofN (.var 2 n))]) (.one (.exit 0) [.undef, .undef, .undef, .undef, .undef, .undef] []) (.one .ret [.undef, .undef, .bool (.lit false), .undef, .undef, .undef] [])
theorem t40 (G : Nat → List AV) (k k2 n nv : Nat) (Q : Ex → List AV → Hp → Prop) (R : AV → Hp → Prop) : vT G Q R (dcall (Dc Try.prog [41, 42] [] [(DLat 1726 (efQ G k k2 n nv) 0 32 [1, 2, 6, 15, 16, 17] (efO G k k2 n nv))] 0) 300 20 Try.f40 [.slice true (.ro (.var 1 k)) (.lit 0) (.var 2 n), .slice true (.ro (.var 3 k2)) (.lit 0) (.var 9 nv), .func 41 []] [] 0) = (
    (((((n : Nat) : Int) : Int) == ((nv : Nat) : Int)) = true →
      (efQ G k k2 n nv) [.agg ([.slice true (.ro (k2)) (0) (nv), .func 41 [], .bool (false), .slice true (.ro (k)) (0) (n), .int .i64 (((n : Nat) : Int)), .int .i64 (0)] : List AV), .agg ([] : List AV)] = true ∧
      ((secSU G) [.agg (G (k)), .agg (G (k2)), .int .i64 (((n : Nat) : Int))] = true →
        R (.bool (true)) []) ∧
      ((secSU G) [.agg (G (k)), .agg (G (k2)), .int .i64 (((n : Nat) : Int))] = false →
        R (.bool (false)) [])) ∧
    (((((n : Nat) : Int) : Int) == ((nv : Nat) : Int)) = false →
      R (.bool (false)) [])) := by kernel_rfl
end Go.Am
