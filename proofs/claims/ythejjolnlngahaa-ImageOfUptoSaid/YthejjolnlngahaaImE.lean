/-
  Images: which may be: the loops.
-/
import Derived.Test.YthejjolnlngahaaImD
namespace Go.Am
open Go.Proofs
set_option maxRecDepth 100000
def xP (ps : List AV) (j : Nat) : Int := getI ps (j * 2)
def hP (ps : List AV) (j : Nat) : Bool := getB ps (j * 2 + 1)
def plOk (ps : List AV) (j : Nat) : Bool := leafsOk ps (j * 2) [.int .i64, .bool] && (decide (-9223372036854775808 ≤ xP ps j) && decide (xP ps j ≤ 9223372036854775807))
def plsOk (ps : List AV) (m : Nat) : Bool := allTo (plOk ps) m
def plsU : List AV → Bool := fun xs => match xs with
  | [.agg ps, .int _ m] => plsOk ps m.toNat && Nat.ble m.toNat 1000000
  | _ => false
theorem plsU_iff {ps : List AV} {m : Nat} : plsU [.agg ps, .int .i64 (m : Int)] = true ↔ plsOk ps m = true ∧ m ≤ 1000000 := by
  simp only [plsU, int_nat, Bool.and_eq_true]
  exact ⟨fun ⟨h1, h2⟩ => ⟨h1, Nat.le_of_ble_eq_true h2⟩, fun ⟨h1, h2⟩ => ⟨h1, Nat.ble_eq_true_of_le h2⟩⟩
theorem plsOk_at {ps : List AV} {m j : Nat} (h : plsOk ps m = true) (hj : j < m) : leafsOk ps (j * 2) [.int .i64, .bool] = true ∧ isI .i64 ps (j * 2) = true ∧ -9223372036854775808 ≤ xP ps j ∧ xP ps j ≤ 9223372036854775807 := by
  have := allTo_iff.1 h j hj
  simp only [plOk, Bool.and_eq_true, decide_eq_true_eq] at this
  refine ⟨this.1, ?_, this.2⟩
  have := this.1
  simp only [leafsOk, leafOk, Bool.and_eq_true] at this
  exact this.1
def sE (cs : List AV) (k : Nat) : Int := sA cs k + (sN cs k : Int) + sZ cs k
def pvE (cs : List AV) : Nat → Int
  | 0 => 0
  | i + 1 => sE cs i
def secT (cs : List AV) (k : Nat) : Bool := secB (sA cs k) (sR cs k) (sN cs k) (sZ cs k)
def okS (cs : List AV) (k : Nat) : Bool := secT cs k && decide (pvE cs k ≤ sA cs k)
def eS (cs : List AV) (s : Int) (k : Nat) : Bool := !((kAnd .i64 (sR cs k) 4 : Int) == 0) && (decide (s ≥ sA cs k) && decide (s < sE cs k))
def exS (cs : List AV) (s : Int) : Nat → Bool
  | 0 => false
  | i + 1 => exS cs s i || eS cs s i
def pvP (ps : List AV) : Nat → Int
  | 0 => 0
  | j + 1 => xP ps j + wdF (hP ps j)
def okP (cs : List AV) (n : Nat) (ps : List AV) (j : Nat) : Bool := decide (pvP ps j ≤ xP ps j) && decide (datN cs n (xP ps j) (hP ps j) < n)
theorem exS_1 {cs : List AV} {s : Int} {i : Nat} (h : exS cs s i = true) : exS cs s (i + 1) = true := by simp [exS, h]
theorem exS_2 {cs : List AV} {s : Int} {i : Nat} (h : exS cs s i = false) (h1 : ((kAnd .i64 (sR cs i) 4 : Int) == 0) = true) : exS cs s (i + 1) = false := by simp only [exS, eS, h, h1]; rfl
theorem exS_3 {cs : List AV} {s : Int} {i : Nat} (h : exS cs s i = false) (h1 : ((kAnd .i64 (sR cs i) 4 : Int) == 0) = false) (h2 : decide (s ≥ sA cs i) = true) : exS cs s (i + 1) = decide (s < sE cs i) := by simp only [exS, eS, h, h1, h2]; simp
theorem exS_4 {cs : List AV} {s : Int} {i : Nat} (h : exS cs s i = false) (h1 : ((kAnd .i64 (sR cs i) 4 : Int) == 0) = false) (h2 : decide (s ≥ sA cs i) = false) : exS cs s (i + 1) = false := by simp only [exS, eS, h, h1, h2]; rfl
def rowsU : List AV → Bool := fun xs => match xs with
  | [.agg cs, .int _ n] => allTo (okS cs) n.toNat
  | _ => false
def exU : List AV → Bool := fun xs => match xs with
  | [.agg cs, .int _ n, .int _ s] => exS cs s n.toNat
  | _ => false
def plaU : List AV → Bool := fun xs => match xs with
  | [.agg cs, .int _ n, .agg ps, .int _ m] => allTo (okP cs n.toNat ps) m.toNat
  | _ => false
theorem rowsU_eq {cs : List AV} {n : Nat} : rowsU [.agg cs, .int .i64 (n : Int)] = allTo (okS cs) n := by simp only [rowsU, int_nat]
theorem exU_eq {cs : List AV} {n : Nat} {s : Int} : exU [.agg cs, .int .i64 (n : Int), .int .i64 s] = exS cs s n := by simp only [exU, int_nat]
theorem plaU_eq {cs ps : List AV} {n m : Nat} : plaU [.agg cs, .int .i64 (n : Int), .agg ps, .int .i64 (m : Int)] = allTo (okP cs n ps) m := by simp only [plaU, int_nat]
theorem secU_eq {a r z : Int} {n : Nat} : secU [.int .i64 a, .int .i64 r, .int .i64 (n : Int), .int .i64 z] = secB a r n z := by simp only [secU, int_nat]
theorem upU_eq {a z : Int} {n : Nat} : upU [.int .i64 a, .int .i64 (n : Int), .int .i64 z] = upF a n z := by simp only [upU, int_nat]
theorem fst_no {p : Nat → Bool} {n i : Nat} (h : i ≤ fstF (fun j => !p j) n) : ∀ j, j < i → p j = true := fun j hj => by
  have := (fstF_spec (p := fun j => !p j) (k := n)).2.2 j (by omega)
  simpa using this
theorem fst_nx {p : Nat → Bool} {n i : Nat} (h : i ≤ fstF (fun j => !p j) n) (hi : i < n) (hp : p i = true) : i < fstF (fun j => !p j) n := by
  have := fst_at h hi
  simp only [hp, Bool.not_true] at this
  have := of_decide_eq_false this.symm
  omega
theorem fst_all {p : Nat → Bool} {n i : Nat} (h : i ≤ fstF (fun j => !p j) n) (hi : ¬ i < n) : allTo p n = true := allTo_iff.2 fun j hj => fst_no h j (by omega)
def cond1 (cs : List AV) (n : Nat) : Bool := secsU [.agg cs, .int .i64 (n : Int)]
def cond2 (cs : List AV) (n : Nat) (ps : List AV) (m : Nat) : Bool := secsU [.agg cs, .int .i64 (n : Int)] && (plsU [.agg ps, .int .i64 (m : Int)] && allTo (okS cs) n)
def ckQ (G : Nat → List AV) (ks n kp m : Nat) (s : Int) : List AV → Bool := stQ (cond1 (G ks) n) [.ptr (.rw 0) 0, .int .i64 0, .bool false, .int .i64 0, .slice true (.ro ks) 0 n, .int .i64 (n : Int), .int .i64 0] [some ⟨1, [.int .i64 s, .slice true (.ro ks) 0 n, .slice true (.ro kp) 0 m]⟩]
def ckO (ks n kp m : Nat) (s : Int) : LOut := .tst (.uf 1711 rowsU [.agg (.ro (.var 2 ks)), .int .i64 (.ofN (.var 3 n))]) (.one (.exit 0) [.ptr (.rw 0) (.lit 0), .int .i64 (.lit 0), .bool (.uf 1712 exU [.agg (.ro (.var 2 ks)), .int .i64 (.ofN (.var 3 n)), .int .i64 (.var 1 s)]), .undef, .undef, .undef, .undef] [some ⟨1, .of [.int .i64 (.var 1 s), .slice true (.ro (.var 2 ks)) (.lit 0) (.var 3 n), .slice true (.ro (.var 4 kp)) (.lit 0) (.var 5 m)]⟩]) (.one .ret [.undef, .int .i64 (.lit 2), .undef, .undef, .undef, .undef, .undef] [some ⟨1, .of [.int .i64 (.var 1 s), .slice true (.ro (.var 2 ks)) (.lit 0) (.var 3 n), .slice true (.ro (.var 4 kp)) (.lit 0) (.var 5 m)]⟩])
def cdQ (G : Nat → List AV) (ks n kp m : Nat) (s : Int) : List AV → Bool := stQ (cond2 (G ks) n (G kp) m) [.ptr (.rw 0) 0, .int .i64 0, .bool (exU [.agg (G ks), .int .i64 (n : Int), .int .i64 s]), .int .i64 0, .slice true (.ro kp) 0 m, .int .i64 (m : Int), .int .i64 0] [some ⟨1, [.int .i64 s, .slice true (.ro ks) 0 n, .slice true (.ro kp) 0 m]⟩]
def cdO (ks n kp m : Nat) (s : Int) : LOut := .tst (.uf 1713 plaU [.agg (.ro (.var 2 ks)), .int .i64 (.ofN (.var 3 n)), .agg (.ro (.var 4 kp)), .int .i64 (.ofN (.var 5 m))]) (.one (.exit 2) [.ptr (.rw 0) (.lit 0), .int .i64 (.lit 0), .bool (.uf 1712 exU [.agg (.ro (.var 2 ks)), .int .i64 (.ofN (.var 3 n)), .int .i64 (.var 1 s)]), .undef, .undef, .undef, .undef] [some ⟨1, .of [.int .i64 (.var 1 s), .slice true (.ro (.var 2 ks)) (.lit 0) (.var 3 n), .slice true (.ro (.var 4 kp)) (.lit 0) (.var 5 m)]⟩]) (.one .ret [.undef, .int .i64 (.lit 2), .undef, .undef, .undef, .undef, .undef] [some ⟨1, .of [.int .i64 (.var 1 s), .slice true (.ro (.var 2 ks)) (.lit 0) (.var 3 n), .slice true (.ro (.var 4 kp)) (.lit 0) (.var 5 m)]⟩])
theorem t20 (G : Nat → List AV) (ks n kp m : Nat) (s : Int) (Q : Ex → List AV → Hp → Prop) (R : AV → Hp → Prop) : vT G Q R (dcall (Dc Try.prog [] progIc [(DLat 1714 (ckQ G ks n kp m s) 0 98 [1, 2, 3, 4, 31, 32, 33] (ckO ks n kp m s)), (DLat 1715 (cdQ G ks n kp m s) 2 98 [1, 2, 3, 4, 73, 74, 75] (cdO ks n kp m s))] 1) 300 20 Try.f20 [.agg (.of [.int .i64 (.var 1 s), .slice true (.ro (.var 2 ks)) (.lit 0) (.var 3 n), .slice true (.ro (.var 4 kp)) (.lit 0) (.var 5 m)])] [] 0) = (
    (decide ((((n : Nat) : Int) : Int) > 8) = true →
      R (.int .i64 (2)) []) ∧
    (decide ((((n : Nat) : Int) : Int) > 8) = false →
      (decide ((((m : Nat) : Int) : Int) > 512) = true →
        R (.int .i64 (2)) []) ∧
      (decide ((((m : Nat) : Int) : Int) > 512) = false →
        (decide ((s : Int) < 0) = true →
          R (.int .i64 (2)) []) ∧
        (decide ((s : Int) < 0) = false →
          (((Int.tmod (s) (4) : Int) == 0) = true →
            (ckQ G ks n kp m s) [.agg ([.ptr (.rw 0) (0), .int .i64 (0), .bool (false), .int .i64 (0), .slice true (.ro (ks)) (0) (n), .int .i64 (((n : Nat) : Int)), .int .i64 (0)] : List AV), .agg ([.tup [.int .i64 (1), .agg ([.int .i64 (s), .slice true (.ro (ks)) (0) (n), .slice true (.ro (kp)) (0) (m)] : List AV)]] : List AV)] = true ∧
            (rowsU [.agg (G (ks)), .int .i64 (((n : Nat) : Int))] = true →
              (cdQ G ks n kp m s) [.agg ([.ptr (.rw 0) (0), .int .i64 (0), .bool (exU [.agg (G (ks)), .int .i64 (((n : Nat) : Int)), .int .i64 (s)]), .int .i64 (0), .slice true (.ro (kp)) (0) (m), .int .i64 (((m : Nat) : Int)), .int .i64 (0)] : List AV), .agg ([.tup [.int .i64 (1), .agg ([.int .i64 (s), .slice true (.ro (ks)) (0) (n), .slice true (.ro (kp)) (0) (m)] : List AV)]] : List AV)] = true ∧
              (plaU [.agg (G (ks)), .int .i64 (((n : Nat) : Int)), .agg (G (kp)), .int .i64 (((m : Nat) : Int))] = true →
                (exU [.agg (G (ks)), .int .i64 (((n : Nat) : Int)), .int .i64 (s)] = true →
                  R (.int .i64 (0)) []) ∧
                (exU [.agg (G (ks)), .int .i64 (((n : Nat) : Int)), .int .i64 (s)] = false →
                  R (.int .i64 (2)) [])) ∧
              (plaU [.agg (G (ks)), .int .i64 (((n : Nat) : Int)), .agg (G (kp)), .int .i64 (((m : Nat) : Int))] = false →
                R (.int .i64 (2)) [])) ∧
            (rowsU [.agg (G (ks)), .int .i64 (((n : Nat) : Int))] = false →
              R (.int .i64 (2)) [])) ∧
          (((Int.tmod (s) (4) : Int) == 0) = false →
            R (.int .i64 (2)) []))))) := by kernel_rfl
def maQ (G : Nat → List AV) (ks n kp m : Nat) (s : Int) : List AV → Bool := stQ (cond1 (G ks) n) [.ptr (.rw 0) 0, .bool false, .bool false, .int .i64 0] [some ⟨1, [.int .i64 s, .slice true (.ro ks) 0 n, .slice true (.ro kp) 0 m]⟩]
def maO (ks n kp m : Nat) (s : Int) : LOut := .tst (.uf 1711 rowsU [.agg (.ro (.var 2 ks)), .int .i64 (.ofN (.var 3 n))]) (.one (.exit 0) [.ptr (.rw 0) (.lit 0), .bool (.lit false), .bool (.uf 1712 exU [.agg (.ro (.var 2 ks)), .int .i64 (.ofN (.var 3 n)), .int .i64 (.var 1 s)]), .undef] [some ⟨1, .of [.int .i64 (.var 1 s), .slice true (.ro (.var 2 ks)) (.lit 0) (.var 3 n), .slice true (.ro (.var 4 kp)) (.lit 0) (.var 5 m)]⟩]) (.one .ret [.undef, .bool (.lit false), .undef, .undef] [some ⟨1, .of [.int .i64 (.var 1 s), .slice true (.ro (.var 2 ks)) (.lit 0) (.var 3 n), .slice true (.ro (.var 4 kp)) (.lit 0) (.var 5 m)]⟩])
def mdQ (G : Nat → List AV) (ks n kp m : Nat) (s : Int) : List AV → Bool := stQ (cond2 (G ks) n (G kp) m) [.ptr (.rw 0) 0, .bool false, .bool (exU [.agg (G ks), .int .i64 (n : Int), .int .i64 s]), .int .i64 0] [some ⟨1, [.int .i64 s, .slice true (.ro ks) 0 n, .slice true (.ro kp) 0 m]⟩]
def mdO (ks n kp m : Nat) (s : Int) : LOut := .tst (.uf 1713 plaU [.agg (.ro (.var 2 ks)), .int .i64 (.ofN (.var 3 n)), .agg (.ro (.var 4 kp)), .int .i64 (.ofN (.var 5 m))]) (.one (.exit 2) [.ptr (.rw 0) (.lit 0), .bool (.lit false), .bool (.uf 1712 exU [.agg (.ro (.var 2 ks)), .int .i64 (.ofN (.var 3 n)), .int .i64 (.var 1 s)]), .undef] [some ⟨1, .of [.int .i64 (.var 1 s), .slice true (.ro (.var 2 ks)) (.lit 0) (.var 3 n), .slice true (.ro (.var 4 kp)) (.lit 0) (.var 5 m)]⟩]) (.one .ret [.undef, .bool (.lit false), .undef, .undef] [some ⟨1, .of [.int .i64 (.var 1 s), .slice true (.ro (.var 2 ks)) (.lit 0) (.var 3 n), .slice true (.ro (.var 4 kp)) (.lit 0) (.var 5 m)]⟩])
theorem t21 (G : Nat → List AV) (ks n kp m : Nat) (s : Int) (Q : Ex → List AV → Hp → Prop) (R : AV → Hp → Prop) : vT G Q R (dcall (Dc Try.prog [] progIc [(DLat 1716 (maQ G ks n kp m s) 0 130 [1, 2, 3, 4] (maO ks n kp m s)), (DLat 1717 (mdQ G ks n kp m s) 2 130 [1, 2, 3, 6] (mdO ks n kp m s))] 1) 300 20 Try.f21 [.agg (.of [.int .i64 (.var 1 s), .slice true (.ro (.var 2 ks)) (.lit 0) (.var 3 n), .slice true (.ro (.var 4 kp)) (.lit 0) (.var 5 m)])] [] 0) = (
    (decide ((((n : Nat) : Int) : Int) > 8) = true →
      R (.bool (false)) []) ∧
    (decide ((((n : Nat) : Int) : Int) > 8) = false →
      (decide ((((m : Nat) : Int) : Int) > 512) = true →
        R (.bool (false)) []) ∧
      (decide ((((m : Nat) : Int) : Int) > 512) = false →
        (decide ((s : Int) < 0) = true →
          R (.bool (false)) []) ∧
        (decide ((s : Int) < 0) = false →
          (((Int.tmod (s) (4) : Int) == 0) = true →
            (maQ G ks n kp m s) [.agg ([.ptr (.rw 0) (0), .bool (false), .bool (false), .int .i64 (0)] : List AV), .agg ([.tup [.int .i64 (1), .agg ([.int .i64 (s), .slice true (.ro (ks)) (0) (n), .slice true (.ro (kp)) (0) (m)] : List AV)]] : List AV)] = true ∧
            (rowsU [.agg (G (ks)), .int .i64 (((n : Nat) : Int))] = true →
              (mdQ G ks n kp m s) [.agg ([.ptr (.rw 0) (0), .bool (false), .bool (exU [.agg (G (ks)), .int .i64 (((n : Nat) : Int)), .int .i64 (s)]), .int .i64 (0)] : List AV), .agg ([.tup [.int .i64 (1), .agg ([.int .i64 (s), .slice true (.ro (ks)) (0) (n), .slice true (.ro (kp)) (0) (m)] : List AV)]] : List AV)] = true ∧
              (plaU [.agg (G (ks)), .int .i64 (((n : Nat) : Int)), .agg (G (kp)), .int .i64 (((m : Nat) : Int))] = true →
                R (.bool (exU [.agg (G (ks)), .int .i64 (((n : Nat) : Int)), .int .i64 (s)])) []) ∧
              (plaU [.agg (G (ks)), .int .i64 (((n : Nat) : Int)), .agg (G (kp)), .int .i64 (((m : Nat) : Int))] = false →
                R (.bool (false)) [])) ∧
            (rowsU [.agg (G (ks)), .int .i64 (((n : Nat) : Int))] = false →
              R (.bool (false)) [])) ∧
          (((Int.tmod (s) (4) : Int) == 0) = false →
            R (.bool (false)) []))))) := by kernel_rfl
end Go.Am
