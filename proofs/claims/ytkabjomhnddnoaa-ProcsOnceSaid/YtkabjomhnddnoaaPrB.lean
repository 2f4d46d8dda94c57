/-
  Processes: the program's Children: a round.
-/
import Derived.Test.YtkabjomhnddnoaaPrA
import Derived.Test.YtkabjomhnddnoaaBase6
namespace Go.Am
open Go.Proofs Crc
set_option maxRecDepth 100000
def HKd (T S Z : EL) (n : EI) (c : EN) (rc ys : EL) : DHp := [some ⟨1, T⟩, some ⟨1, .row S (.lit 0)⟩, some ⟨1, .row S (.lit 1)⟩, some ⟨1, .row S (.lit 2)⟩, some ⟨1, .row S (.lit 3)⟩, some ⟨1, .row S (.lit 4)⟩, some ⟨1, .row S (.lit 5)⟩, some ⟨1, .row S (.lit 6)⟩, some ⟨1, .row S (.lit 7)⟩, some ⟨1, .row S (.lit 8)⟩, some ⟨1, .row S (.lit 9)⟩, some ⟨1, .row S (.lit 10)⟩, some ⟨1, .row S (.lit 11)⟩, some ⟨1, .row S (.lit 12)⟩, some ⟨1, Z⟩, some ⟨1, .of [.int .i64 n]⟩, some ⟨1, .of [.slice true (.rw 19) (.lit 0) c]⟩, some ⟨1, .of [.ptr (.rw 0) (.lit 0)]⟩, some ⟨4294967291, rc⟩, some ⟨1, ys⟩]
theorem k_as (G : Nat → List AV) (tb sl z rc ys xr : List AV) (n : Int) (c : Nat) (x0 x1 x2 x3 : Int) (xb : Bool) (x5 : Int) (Q : Ex → List AV → Hp → Prop) (R : AV → Hp → Prop) : vT G Q R (dloop (Dc Try.prog [] [] [] 0) 200 60 21 (rgA (loopN Try.f31 0)) 24 [3, 5, 8, 9, 6] [.ptr (.rw 15) (.lit 0), .ptr (.rw 16) (.lit 0), .func 76 [.ptr (.rw 17) (.lit 0)], .agg (.of [.int .i64 (.var 11 x0), .int .i64 (.var 12 x1), .int .i64 (.var 13 x2), .int .i64 (.var 14 x3), .bool (.var 15 xb), .int .i64 (.var 16 x5)]), .undef] ((HKd (.var 1 tb) (.var 2 sl) (.var 5 z) (.var 3 n) (.var 4 c) (.var 24 rc) (.var 22 ys)) ++ [some ⟨1, .var 23 xr⟩])) = (
    Q .normal [.ptr (.rw 15) (0), .ptr (.rw 16) (0), .func 76 [.ptr (.rw 17) (0)], .agg ([.int .i64 (x0), .int .i64 (x1), .int .i64 (x2), .int .i64 (x3), .bool (xb), .int .i64 (x5)] : List AV), .ptr (.rw 21) (0)] [some ⟨1, tb⟩, some ⟨1, (rowA sl (0))⟩, some ⟨1, (rowA sl (1))⟩, some ⟨1, (rowA sl (2))⟩, some ⟨1, (rowA sl (3))⟩, some ⟨1, (rowA sl (4))⟩, some ⟨1, (rowA sl (5))⟩, some ⟨1, (rowA sl (6))⟩, some ⟨1, (rowA sl (7))⟩, some ⟨1, (rowA sl (8))⟩, some ⟨1, (rowA sl (9))⟩, some ⟨1, (rowA sl (10))⟩, some ⟨1, (rowA sl (11))⟩, some ⟨1, (rowA sl (12))⟩, some ⟨1, z⟩, some ⟨1, ([.int .i64 (n)] : List AV)⟩, some ⟨1, ([.slice true (.rw 19) (0) (c)] : List AV)⟩, some ⟨1, ([.ptr (.rw 0) (0)] : List AV)⟩, some ⟨4294967291, rc⟩, some ⟨1, ys⟩, some ⟨1, xr⟩, some ⟨1, ([.int .i64 (x0), .int .i64 (x1), .int .i64 (x2), .int .i64 (x3), .bool (xb), .int .i64 (x5)] : List AV)⟩]) := by kernel_rfl
theorem k_bd (G : Nat → List AV) (tb sl z rc ys xr : List AV) (n : Int) (c : Nat) (x0 x1 x2 x3 : Int) (xb : Bool) (x5 : Int) (Q : Ex → List AV → Hp → Prop) (R : AV → Hp → Prop) : vT G Q R (dloop (Dc Try.prog [] [] [] 0) 300 60 21 (rgB (loopN Try.f31 0)) 24 [3, 5, 8, 9, 6] [.ptr (.rw 15) (.lit 0), .ptr (.rw 16) (.lit 0), .func 76 [.ptr (.rw 17) (.lit 0)], .agg (.of [.int .i64 (.var 11 x0), .int .i64 (.var 12 x1), .int .i64 (.var 13 x2), .int .i64 (.var 14 x3), .bool (.var 15 xb), .int .i64 (.var 16 x5)]), .ptr (.rw 21) (.lit 0)] (((HKd (.var 1 tb) (.var 2 sl) (.var 5 z) (.var 3 n) (.var 4 c) (.var 24 rc) (.var 22 ys)) ++ [some ⟨1, .var 23 xr⟩]) ++ [some ⟨1, (.of [.int .i64 (.var 11 x0), .int .i64 (.var 12 x1), .int .i64 (.var 13 x2), .int .i64 (.var 14 x3), .bool (.var 15 xb), .int .i64 (.var 16 x5)])⟩])) = (
    (decide ((n : Int) ≥ 1) = true →
      (((x1 : Int) == n) = true →
        leB ((c + 1) * 8) (140737488355328) = true ∧
        Nat.beq (List.length ys) (c) = true ∧
        Q .normal [.ptr (.rw 15) (0), .ptr (.rw 16) (0), .func 76 [.ptr (.rw 17) (0)], .agg ([.int .i64 (x0), .int .i64 (x1), .int .i64 (x2), .int .i64 (x3), .bool (xb), .int .i64 (x5)] : List AV), .ptr (.rw 21) (0)] [some ⟨1, tb⟩, some ⟨1, (rowA sl (0))⟩, some ⟨1, (rowA sl (1))⟩, some ⟨1, (rowA sl (2))⟩, some ⟨1, (rowA sl (3))⟩, some ⟨1, (rowA sl (4))⟩, some ⟨1, (rowA sl (5))⟩, some ⟨1, (rowA sl (6))⟩, some ⟨1, (rowA sl (7))⟩, some ⟨1, (rowA sl (8))⟩, some ⟨1, (rowA sl (9))⟩, some ⟨1, (rowA sl (10))⟩, some ⟨1, (rowA sl (11))⟩, some ⟨1, (rowA sl (12))⟩, some ⟨1, z⟩, some ⟨1, ([.int .i64 (n)] : List AV)⟩, some ⟨1, ([.slice true (.rw 23) (0) (c + 1)] : List AV)⟩, some ⟨1, ([.ptr (.rw 0) (0)] : List AV)⟩, some ⟨4294967291, rc⟩, none, some ⟨1, xr⟩, some ⟨1, ([.int .i64 (x0), .int .i64 (x1), .int .i64 (x2), .int .i64 (x3), .bool (xb), .int .i64 (x5)] : List AV)⟩, some ⟨1, ([.int .i64 (x0)] : List AV)⟩, some ⟨1, (ys ++ ([.int .i64 (x0)] : List AV))⟩]) ∧
      (((x1 : Int) == n) = false →
        Q .normal [.ptr (.rw 15) (0), .ptr (.rw 16) (0), .func 76 [.ptr (.rw 17) (0)], .agg ([.int .i64 (x0), .int .i64 (x1), .int .i64 (x2), .int .i64 (x3), .bool (xb), .int .i64 (x5)] : List AV), .ptr (.rw 21) (0)] [some ⟨1, tb⟩, some ⟨1, (rowA sl (0))⟩, some ⟨1, (rowA sl (1))⟩, some ⟨1, (rowA sl (2))⟩, some ⟨1, (rowA sl (3))⟩, some ⟨1, (rowA sl (4))⟩, some ⟨1, (rowA sl (5))⟩, some ⟨1, (rowA sl (6))⟩, some ⟨1, (rowA sl (7))⟩, some ⟨1, (rowA sl (8))⟩, some ⟨1, (rowA sl (9))⟩, some ⟨1, (rowA sl (10))⟩, some ⟨1, (rowA sl (11))⟩, some ⟨1, (rowA sl (12))⟩, some ⟨1, z⟩, some ⟨1, ([.int .i64 (n)] : List AV)⟩, some ⟨1, ([.slice true (.rw 19) (0) (c)] : List AV)⟩, some ⟨1, ([.ptr (.rw 0) (0)] : List AV)⟩, some ⟨4294967291, rc⟩, some ⟨1, ys⟩, some ⟨1, xr⟩, some ⟨1, ([.int .i64 (x0), .int .i64 (x1), .int .i64 (x2), .int .i64 (x3), .bool (xb), .int .i64 (x5)] : List AV)⟩])) ∧
    (decide ((n : Int) ≥ 1) = false →
      Q .normal [.ptr (.rw 15) (0), .ptr (.rw 16) (0), .func 76 [.ptr (.rw 17) (0)], .agg ([.int .i64 (x0), .int .i64 (x1), .int .i64 (x2), .int .i64 (x3), .bool (xb), .int .i64 (x5)] : List AV), .ptr (.rw 21) (0)] [some ⟨1, tb⟩, some ⟨1, (rowA sl (0))⟩, some ⟨1, (rowA sl (1))⟩, some ⟨1, (rowA sl (2))⟩, some ⟨1, (rowA sl (3))⟩, some ⟨1, (rowA sl (4))⟩, some ⟨1, (rowA sl (5))⟩, some ⟨1, (rowA sl (6))⟩, some ⟨1, (rowA sl (7))⟩, some ⟨1, (rowA sl (8))⟩, some ⟨1, (rowA sl (9))⟩, some ⟨1, (rowA sl (10))⟩, some ⟨1, (rowA sl (11))⟩, some ⟨1, (rowA sl (12))⟩, some ⟨1, z⟩, some ⟨1, ([.int .i64 (n)] : List AV)⟩, some ⟨1, ([.slice true (.rw 19) (0) (c)] : List AV)⟩, some ⟨1, ([.ptr (.rw 0) (0)] : List AV)⟩, some ⟨4294967291, rc⟩, some ⟨1, ys⟩, some ⟨1, xr⟩, some ⟨1, ([.int .i64 (x0), .int .i64 (x1), .int .i64 (x2), .int .i64 (x3), .bool (xb), .int .i64 (x5)] : List AV)⟩])) := by kernel_rfl
theorem k_it (G : Nat → List AV) (ry : List AV → Bool) (tb sl z rc ys ar yn : List AV) (n : Int) (c i : Nat) (kb : Bool) (Q : Ex → List AV → Hp → Prop) (R : AV → Hp → Prop) : vT G Q R (dloop (Dr Try.prog [] [] [] [] (yAt 2300 18 ry (.tst (.var 19 kb) (.one (.bool (.lit true)) [.app 19 ⟨1, .var 21 yn⟩, .set 16 ⟨1, .of [.slice true (.rw 21) (.lit 0) (.add (.var 4 c) (.lit 1))]⟩]) (.one (.bool (.lit true)) []))) 19) 300 60 19 (loopN Try.f76 0) 27 [0, 11, 12] [.yld 18, .agg (.var 25 ar), .int .i64 (.ofN (.var 6 i))] (HKd (.var 1 tb) (.var 2 sl) (.var 5 z) (.var 3 n) (.var 4 c) (.var 24 rc) (.var 22 ys))) = (
    (decide ((((i : Nat) : Int) : Int) < 13) = true →
      decide ((0 : Int) ≤ ((i : Nat) : Int)) = true ∧
      decide ((((i : Nat) : Int) : Int) < 13) = true ∧
      leB ((i) * 7 + 7) (List.length ar) = true ∧
      cellsB (subL ar ((i) * 7) (7)) = true ∧
      Nat.beq (List.length (subL ar ((i) * 7) (7))) (7) = true ∧
      isI .i64 (subL ar ((i) * 7) (7)) (0) = true ∧
      (decide ((getI (subL ar ((i) * 7) (7)) (0) : Int) > 0) = true →
        leB (6) (List.length (subL ar ((i) * 7) (7))) = true ∧
        (ry) [.agg ([.agg (subL (subL ar ((i) * 7) (7)) (0) (6))] : List AV), .agg ([.tup [.int .i64 (1), .agg tb], .tup [.int .i64 (1), .agg (rowA sl (0))], .tup [.int .i64 (1), .agg (rowA sl (1))], .tup [.int .i64 (1), .agg (rowA sl (2))], .tup [.int .i64 (1), .agg (rowA sl (3))], .tup [.int .i64 (1), .agg (rowA sl (4))], .tup [.int .i64 (1), .agg (rowA sl (5))], .tup [.int .i64 (1), .agg (rowA sl (6))], .tup [.int .i64 (1), .agg (rowA sl (7))], .tup [.int .i64 (1), .agg (rowA sl (8))], .tup [.int .i64 (1), .agg (rowA sl (9))], .tup [.int .i64 (1), .agg (rowA sl (10))], .tup [.int .i64 (1), .agg (rowA sl (11))], .tup [.int .i64 (1), .agg (rowA sl (12))], .tup [.int .i64 (1), .agg z], .tup [.int .i64 (1), .agg ([.int .i64 (n)] : List AV)], .tup [.int .i64 (1), .agg ([.slice true (.rw 19) (0) (c)] : List AV)], .tup [.int .i64 (1), .agg ([.ptr (.rw 0) (0)] : List AV)], .tup [.int .i64 (4294967291), .agg rc], .tup [.int .i64 (1), .agg ys], .tup [.int .i64 (1), .agg (subL ar ((i) * 7) (7))]] : List AV)] = true ∧
        (kb = true →
          Q .normal [.yld 18, .agg ar, .int .i64 (IntKind.wrap .i64 (((i : Nat) : Int) + 1))] [some ⟨1, tb⟩, some ⟨1, (rowA sl (0))⟩, some ⟨1, (rowA sl (1))⟩, some ⟨1, (rowA sl (2))⟩, some ⟨1, (rowA sl (3))⟩, some ⟨1, (rowA sl (4))⟩, some ⟨1, (rowA sl (5))⟩, some ⟨1, (rowA sl (6))⟩, some ⟨1, (rowA sl (7))⟩, some ⟨1, (rowA sl (8))⟩, some ⟨1, (rowA sl (9))⟩, some ⟨1, (rowA sl (10))⟩, some ⟨1, (rowA sl (11))⟩, some ⟨1, (rowA sl (12))⟩, some ⟨1, z⟩, some ⟨1, ([.int .i64 (n)] : List AV)⟩, some ⟨1, ([.slice true (.rw 21) (0) (c + 1)] : List AV)⟩, some ⟨1, ([.ptr (.rw 0) (0)] : List AV)⟩, some ⟨4294967291, rc⟩, none, some ⟨1, (subL ar ((i) * 7) (7))⟩, some ⟨1, yn⟩]) ∧
        (kb = false →
          Q .normal [.yld 18, .agg ar, .int .i64 (IntKind.wrap .i64 (((i : Nat) : Int) + 1))] [some ⟨1, tb⟩, some ⟨1, (rowA sl (0))⟩, some ⟨1, (rowA sl (1))⟩, some ⟨1, (rowA sl (2))⟩, some ⟨1, (rowA sl (3))⟩, some ⟨1, (rowA sl (4))⟩, some ⟨1, (rowA sl (5))⟩, some ⟨1, (rowA sl (6))⟩, some ⟨1, (rowA sl (7))⟩, some ⟨1, (rowA sl (8))⟩, some ⟨1, (rowA sl (9))⟩, some ⟨1, (rowA sl (10))⟩, some ⟨1, (rowA sl (11))⟩, some ⟨1, (rowA sl (12))⟩, some ⟨1, z⟩, some ⟨1, ([.int .i64 (n)] : List AV)⟩, some ⟨1, ([.slice true (.rw 19) (0) (c)] : List AV)⟩, some ⟨1, ([.ptr (.rw 0) (0)] : List AV)⟩, some ⟨4294967291, rc⟩, some ⟨1, ys⟩, some ⟨1, (subL ar ((i) * 7) (7))⟩])) ∧
      (decide ((getI (subL ar ((i) * 7) (7)) (0) : Int) > 0) = false →
        Q .normal [.yld 18, .agg ar, .int .i64 (IntKind.wrap .i64 (((i : Nat) : Int) + 1))] [some ⟨1, tb⟩, some ⟨1, (rowA sl (0))⟩, some ⟨1, (rowA sl (1))⟩, some ⟨1, (rowA sl (2))⟩, some ⟨1, (rowA sl (3))⟩, some ⟨1, (rowA sl (4))⟩, some ⟨1, (rowA sl (5))⟩, some ⟨1, (rowA sl (6))⟩, some ⟨1, (rowA sl (7))⟩, some ⟨1, (rowA sl (8))⟩, some ⟨1, (rowA sl (9))⟩, some ⟨1, (rowA sl (10))⟩, some ⟨1, (rowA sl (11))⟩, some ⟨1, (rowA sl (12))⟩, some ⟨1, z⟩, some ⟨1, ([.int .i64 (n)] : List AV)⟩, some ⟨1, ([.slice true (.rw 19) (0) (c)] : List AV)⟩, some ⟨1, ([.ptr (.rw 0) (0)] : List AV)⟩, some ⟨4294967291, rc⟩, some ⟨1, ys⟩, some ⟨1, (subL ar ((i) * 7) (7))⟩])) ∧
    (decide ((((i : Nat) : Int) : Int) < 13) = false →
      Q (.exit 0) [.yld 18, .agg ar, .int .i64 (((i : Nat) : Int))] [some ⟨1, tb⟩, some ⟨1, (rowA sl (0))⟩, some ⟨1, (rowA sl (1))⟩, some ⟨1, (rowA sl (2))⟩, some ⟨1, (rowA sl (3))⟩, some ⟨1, (rowA sl (4))⟩, some ⟨1, (rowA sl (5))⟩, some ⟨1, (rowA sl (6))⟩, some ⟨1, (rowA sl (7))⟩, some ⟨1, (rowA sl (8))⟩, some ⟨1, (rowA sl (9))⟩, some ⟨1, (rowA sl (10))⟩, some ⟨1, (rowA sl (11))⟩, some ⟨1, (rowA sl (12))⟩, some ⟨1, z⟩, some ⟨1, ([.int .i64 (n)] : List AV)⟩, some ⟨1, ([.slice true (.rw 19) (0) (c)] : List AV)⟩, some ⟨1, ([.ptr (.rw 0) (0)] : List AV)⟩, some ⟨4294967291, rc⟩, some ⟨1, ys⟩])) := by kernel_rfl
def ptC (s : Ptb) (c : Nat) : Nat → AV := fun n => match s.sg n with
  | none => .nilp
  | some _ => .ptr (.rw (if n = c then 14 else 1 + n)) 0
def B15 (s : Ptb) (cc : Nat) (sl z : List AV) : Hp := some ⟨1, encV (ptC s cc) s⟩ :: ((List.range 13).map (fun n => some ⟨1, rowA sl n⟩) ++ [some ⟨1, z⟩])
structure Flt (sl z : List AV) : Prop where
  rows : ∀ n, n < 13 → bnds 0 (rowA sl n) = true
  z : bnds 0 z = true
theorem B15_len {s : Ptb} {cc : Nat} {sl z : List AV} : (B15 s cc sl z).length = 15 := by simp [B15]
theorem tb15 (s : Ptb) (cc : Nat) {m : Nat} (hm : 15 ≤ m) : bnds m (encV (ptC s cc) s) = true := by
  refine tsP_ok.bnd m (ptC s cc) s fun n hn => ?_
  unfold ptC
  split
  · rfl
  · have : (if n = cc then 14 else 1 + n) < m := by split <;> omega
    simpa [bnd] using this
theorem B15_at {s : Ptb} {cc : Nat} {sl z : List AV} (hf : Flt sl z) {i : Nat} {b : Blk} (hb : (B15 s cc sl z)[i]? = some (some b)) : bnds 15 b.cells = true := by
  have hi := (List.getElem?_eq_some_iff.1 hb).1
  rw [B15_len] at hi
  unfold B15 at hb
  by_cases h0 : i = 0
  · subst h0
    simp only [List.getElem?_cons_zero, Option.some.injEq] at hb
    subst hb
    exact tb15 s cc (Nat.le_refl 15)
  · obtain ⟨n, rfl⟩ : ∃ n, i = n + 1 := ⟨i - 1, by omega⟩
    rw [List.getElem?_cons_succ] at hb
    by_cases h1 : n < 13
    · rw [List.getElem?_append_left (by simpa using h1), List.getElem?_map, List.getElem?_range h1] at hb
      simp only [Option.map_some, Option.some.injEq] at hb
      subst hb
      exact bnds_mono (Nat.zero_le _) _ (hf.rows n h1)
    · have : n = 13 := by omega
      subst this
      rw [List.getElem?_append_right (by simp)] at hb
      simp at hb
      subst hb
      exact bnds_mono (Nat.zero_le _) _ hf.z
theorem B15_bnd {s : Ptb} {cc : Nat} {sl z : List AV} (hf : Flt sl z) {m : Nat} (hm : 15 ≤ m) : hpB m (B15 s cc sl z) = true :=
  hpB_of fun _ _ hb => bnds_mono hm _ (B15_at hf hb)
where
  hpB_of {m : Nat} : ∀ {H : Hp}, (∀ (i : Nat) b, H[i]? = some (some b) → bnds m b.cells = true) → hpB m H = true
    | [], _ => rfl
    | none :: H, h => by simp only [hpB]; exact hpB_of fun i b hb => h (i + 1) b hb
    | some b :: H, h => by
      simp only [hpB, Bool.and_eq_true]
      exact ⟨h 0 b rfl, hpB_of fun i b hb => h (i + 1) b hb⟩
theorem blks_b15 {s : Ptb} {cc : Nat} {sl z : List AV} (hfl : Flt sl z) {θ : List Nat} {H' E : Hp} {n : Nat} {js : List Nat} (hn : 15 ≤ n) (hf : ∀ i, i < 15 → θ.getD i 0 = i) (hH : H'.take 15 = B15 s cc sl z) (hE : blks θ H' n js E) : blks θ H' n ([0, 1, 2, 3, 4, 5, 6, 7, 8, 9, 10, 11, 12, 13, 14] ++ js) (B15 s cc sl z ++ E) := by
  have key : ∀ (k : Nat) (L : Hp) (is : List Nat), is = List.range' k L.length → (∀ (i : Nat) b, L[i]? = some b → (B15 s cc sl z)[k + i]? = some b) → k + L.length ≤ 15 → blks θ H' n (is ++ js) (L ++ E) := by
    intro k L
    induction L generalizing k with
    | nil => intro is h _ _; subst h; exact hE
    | cons b L ih =>
      intro is h hL hk
      subst h
      simp only [List.length_cons, List.range'_succ, List.cons_append]
      have ih' := ih (k + 1) _ rfl (fun i b hb => by
        have := hL (i + 1) b hb
        rwa [show k + 1 + i = k + (i + 1) by omega]) (by simp at hk; omega)
      have h0 := hL 0 b rfl
      rw [Nat.add_zero] at h0
      have hH0 : H'[k]? = some b := by
        have : (H'.take 15)[k]? = some b := by rw [hH]; exact h0
        rw [List.getElem?_take] at this
        split at this
        · exact this
        · cases this
      cases b with
      | none => exact ⟨(List.getElem?_eq_some_iff.1 hH0).1, ih'⟩
      | some b =>
        refine ⟨⟨?_, ?_⟩, ih'⟩
        · exact bnds_mono hn _ (B15_at hfl h0)
        · rw [rens_fix hf _ (B15_at hfl h0)]
          exact hH0
  exact key 0 (B15 s cc sl z) [0, 1, 2, 3, 4, 5, 6, 7, 8, 9, 10, 11, 12, 13, 14] (by rw [B15_len]; rfl) (fun i b hb => by rw [Nat.zero_add]; exact hb) (by rw [B15_len]; omega)
def hpK (s : Ptb) (cc : Nat) (sl z : List AV) (n : Int) (c : Nat) (rc ys : List AV) : Hp := B15 s cc sl z ++ [some ⟨1, [.int .i64 n]⟩, some ⟨1, [.slice true (.rw 19) 0 c]⟩, some ⟨1, [.ptr (.rw 0) 0]⟩, some ⟨4294967291, rc⟩, some ⟨1, ys⟩]
theorem hK (G : Nat → List AV) (s : Ptb) (cc : Nat) (sl z : List AV) (n : Int) (c : Nat) (rc ys : List AV) : vHp G (HKd (.var 1 (encV (ptC s cc) s)) (.var 2 sl) (.var 5 z) (.var 3 n) (.var 4 c) (.var 24 rc) (.var 22 ys)) = hpK s cc sl z n c rc ys := rfl
theorem hKx (G : Nat → List AV) (s : Ptb) (cc : Nat) (sl z : List AV) (n : Int) (c : Nat) (rc ys xr : List AV) : vHp G (HKd (.var 1 (encV (ptC s cc) s)) (.var 2 sl) (.var 5 z) (.var 3 n) (.var 4 c) (.var 24 rc) (.var 22 ys) ++ [some ⟨1, .var 23 xr⟩]) = hpK s cc sl z n c rc ys ++ [some ⟨1, xr⟩] := rfl
def F0k : Fr := fl 24 [3, 5, 8] [.ptr (.rw 15) 0, .ptr (.rw 16) 0, .func 76 [.ptr (.rw 17) 0]]
noncomputable def rcK (p : Nat) : List AV := rcA (loopN Try.f31 0) p F0k
theorem N31_eq : loopN Try.f31 0 = .rangeFunc (rgG (loopN Try.f31 0)) (rgP (loopN Try.f31 0)) (rgA (loopN Try.f31 0)) (rgB (loopN Try.f31 0)) := by kernel_rfl
theorem rcK_b (q : Nat) : bnds 18 (rcK q) = true := by kernel_rfl
end Go.Am
