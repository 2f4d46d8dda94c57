/-
  Filters: what a filter says of each byte; two lists; the summaries of the questions.
-/
import Derived.Test.YtnkcfoicbkobbaaFlF
namespace Go.Am
open Go.Proofs
set_option maxRecDepth 100000
theorem dgM (G : Nat → List AV) (B : Nat) (M : Nat) : DGood (⟨Try.prog, G, B⟩ : Ctx) (Dc Try.prog [] [] [] M) [] := dgood (mixF G B) (by kernel_rfl) .nil .nil
theorem wtF_cells {cs : List AV} {n : Nat} : cellsB (wtF cs n) = true := by
  unfold wtF cellsB
  generalize 64 = k
  induction k with
  | zero => rfl
  | succ k ih => simp only [tabF]; rw [List.all_append, ih]; rfl
theorem wtF_sub {cs : List AV} {n : Nat} : subL (wtF cs n) 0 192 = wtF cs n := by
  unfold subL; rw [List.drop_zero]; exact List.take_of_length_le (by rw [wtF_len]; omega)
/-! ### bytes -/
def wtU : List AV → List AV := fun xs => match xs with
  | [.agg cs, .int _ n] => wtF (ctT cs n.toNat) n.toNat
  | _ => []
theorem wtU_eq {cs : List AV} {n : Nat} (h : cs.length = n * 3) : wtU [.agg cs, .int .i64 (n : Int)] = wtF cs n := by
  simp only [wtU, int_nat, ctT_all h]
def mayU2 : List AV → Bool := fun xs => match xs with
  | [.agg cs, .int _ n] => mayF (ctT cs n.toNat) n.toNat
  | _ => false
theorem mayU2_eq {cs : List AV} {n : Nat} (h : cs.length = n * 3) : mayU2 [.agg cs, .int .i64 (n : Int)] = mayF cs n := by
  simp only [mayU2, int_nat, ctT_all h]
def wbQ (G : Nat → List AV) (k n : Nat) : List AV → Bool := stQ (okT (G k) n) [.ptr (.rw 0) 0, .ptr (.rw 1) 0, .bool true, .slice true (.ro k) 0 n, .int .i64 (n : Int), .int .i64 0] [some ⟨1, wtF [] 0⟩, some ⟨1, wtF [] 0⟩]
def wbO (G : Nat → List AV) (k n : Nat) : LOut := .one (.exit 0) [.ptr (.rw 0) (.lit 0), .ptr (.rw 1) (.lit 0), .bool (.uf 1615 mayU2 [.agg (.ro (.var 1 k)), .int .i64 (.ofN (.var 2 n))]), .slice true (.ro (.var 1 k)) (.lit 0) (.var 2 n), .undef, .undef] [some ⟨1, .of ((List.replicate 64 [.bool (.lit false), .int .i64 (.lit 0), .int .i64 (.lit 0)]).flatten)⟩, some ⟨1, .uf 1613 wtU [.agg (.ro (.var 1 k)), .int .i64 (.ofN (.var 2 n))]⟩]
theorem wt0 (cs : List AV) : wtF cs 0 = wtF [] 0 := rfl
theorem z192 (G : Nat → List AV) : vL G (.of ((List.replicate 64 [.bool (.lit false), .int .i64 (.lit 0), .int .i64 (.lit 0)]).flatten)) = wtF [] 0 := by kernel_rfl
theorem wbL_ok (G : Nat → List AV) (B : Nat) (k n : Nat) : DLoopOk (⟨Try.prog, G, B⟩ : Ctx) 2 (loopN Try.f28 0) (DLat 1624 (wbQ G k n) 0 68 [2, 4, 5, 9, 10, 11] (wbO G k n)) := by
  refine DLat_ok rfl fun h => ?_
  obtain ⟨hl, hn, hk, ho⟩ := okT_iff.1 h
  refine scan n (fun i => [.ptr (.rw 0) 0, .ptr (.rw 1) 0, .bool (mayF (G k) i), .slice true (.ro k) 0 n, .int .i64 (n : Int), .int .i64 (i : Int)]) (fun i => [some ⟨1, wtF [] 0⟩, some ⟨1, wtF (G k) i⟩]) fun i hi => ?_
  refine dloop_ok (C := (⟨Try.prog, G, B⟩ : Ctx)) (dgM G B 2) (fuel := 300) (n0 := 20) (m := 2) (c := loopN Try.f28 0) (vs := [.ptr (.rw 0) (.lit 0), .ptr (.rw 1) (.lit 0), .bool (.var 7 (mayF (G k) i)), .slice true (.ro (.var 1 k)) (.lit 0) (.var 2 n), .int .i64 (.ofN (.var 2 n)), .int .i64 (.var 6 (i : Int))]) (H := [some ⟨1, .var 8 (wtF [] 0)⟩, some ⟨1, .var 9 (wtF (G k) i)⟩]) (by simp) ?_
  rw [by_b, int_nat]
  have eA : getI (G k) (i * 3) = tA (G k) i := rfl
  have eM : getI (G k) (i * 3 + 1) = tM (G k) i := rfl
  have eV : getI (G k) (i * 3 + 2) = tV (G k) i := rfl
  rw [eA, eM, eV]
  refine ⟨fun h => ?_, fun h => ?_⟩
  · have hin : i < n := by have := of_decide_eq_true h; omega
    have hb := okTst_iff.1 (ho i hin)
    obtain ⟨w1, w2, w3, w4, w5, w6⟩ := wtF_is (cs := G k) (n := i) (a := (tA (G k) i).toNat) (by omega)
    have hs := wtF_set (cs := G k) (n := i) (ho.mono hin)
    have ho' := ho.mono hi
    have em := (tM_nat ho hin).1
    have ev := (tV_nat ho hin).1
    have lm := (tM_nat ho hin).2
    have lv := (tV_nat ho hin).2
    have la := mkAt_lt ho' (tA (G k) i).toNat
    have lw := vlAt_lt ho' (tA (G k) i).toNat
    have fin : ∀ w : Bool, w = mayF (G k) (i + 1) → ∀ xs : List AV, i < n ∧ ((([.ptr (.rw 0) 0, .ptr (.rw 1) 0, .bool w, .slice true (.ro k) 0 n, .int .i64 (n : Int), .int .i64 (IntKind.i64.wrap ((i : Int) + 1))] : List AV) = [.ptr (.rw 0) 0, .ptr (.rw 1) 0, .bool (mayF (G k) (i + 1)), .slice true (.ro k) 0 n, .int .i64 (n : Int), .int .i64 ((i + 1 : Nat) : Int)] ∧ ([some ⟨1, wtF [] 0⟩, some ⟨1, wtF (G k) (i + 1)⟩, some ⟨1, xs⟩] : Hp) = [some ⟨1, wtF [] 0⟩, some ⟨1, wtF (G k) (i + 1)⟩]) ∨
        View 2 [.ptr (.rw 0) 0, .ptr (.rw 1) 0, .bool (mayF (G k) (i + 1)), .slice true (.ro k) 0 n, .int .i64 (n : Int), .int .i64 ((i + 1 : Nat) : Int)] [some ⟨1, wtF [] 0⟩, some ⟨1, wtF (G k) (i + 1)⟩] [.ptr (.rw 0) 0, .ptr (.rw 1) 0, .bool w, .slice true (.ro k) 0 n, .int .i64 (n : Int), .int .i64 (IntKind.i64.wrap ((i : Int) + 1))] [some ⟨1, wtF [] 0⟩, some ⟨1, wtF (G k) (i + 1)⟩, some ⟨1, xs⟩]) := by
      rintro w rfl xs
      rw [i64_in (by omega)]
      have m2 : ∀ c j, bnds 2 (wtF c j) = true := fun c j => bnds_mono (Nat.zero_le _) _ wtF_flat.1
      exact ⟨hin, .inr (View.same (H := [some ⟨1, wtF [] 0⟩, some ⟨1, wtF (G k) (i + 1)⟩]) (G := [some ⟨1, xs⟩]) (by simp) (by simp [hpB, m2]) (by simp [fv, bnd]))⟩
    rw [w4, w5, w6, hs]
    rw [em, ev, kAndNot_nat lv lm]
    have ex : kAnd .i64 (kAnd .i64 (kXor .i64 (vlAt (G k) i (tA (G k) i).toNat : Int) (tvN (G k) i : Int)) (mkAt (G k) i (tA (G k) i).toNat : Int)) (tmN (G k) i : Int) = ((((vlAt (G k) i (tA (G k) i).toNat ^^^ tvN (G k) i) &&& mkAt (G k) i (tA (G k) i).toNat) &&& tmN (G k) i : Nat) : Int) := by
      have l1 := Nat.xor_lt_two_pow (n := 8) lw lv
      rw [kXor_nat lw lv, kAnd_nat l1 la, kAnd_nat (Nat.lt_of_le_of_lt Nat.and_le_left l1) lm]
    have ex2 : (((((vlAt (G k) i (tA (G k) i).toNat ^^^ tvN (G k) i) &&& mkAt (G k) i (tA (G k) i).toNat) &&& tmN (G k) i : Nat) : Int) == 0) = ((vlAt (G k) i (tA (G k) i).toNat &&& mkAt (G k) i (tA (G k) i).toNat) &&& tmN (G k) i == (tvN (G k) i &&& mkAt (G k) i (tA (G k) i).toNat) &&& tmN (G k) i) := by
      rw [Bool.eq_iff_iff, beq_iff_eq, beq_iff_eq, Nat.and_assoc, Nat.and_assoc, Nat.and_assoc, ← xor_zero]
      omega
    rw [ex, ex2]
    have hle : leB ((tA (G k) i).toNat * 3 + 3) (wtF (G k) i).length = true := leB_iff.2 (by rw [wtF_len]; omega)
    refine ⟨decide_eq_true (by omega), h, leafs3F hk hin, decide_eq_true (by omega), decide_eq_true (by omega), fun h1 => ⟨w1, fun h2 => ⟨w3, w2, fun h3 => ⟨w2, w3, hle, fin _ ?_ _⟩, fun h3 => ⟨w2, w3, hle, fin _ ?_ _⟩⟩, fun h2 => ⟨w2, w3, hle, fin _ ?_ _⟩⟩, fun h1 => ⟨w2, w3, hle, fin _ ?_ _⟩⟩
    · simp only [mayF, goes, h1, h2, h3, Bool.or_true, Bool.and_self, Bool.and_true]
    · simp only [mayF, goes, h1, h2, h3, Bool.not_true, Bool.or_self, Bool.and_false]
    · simp only [mayF, goes, h1, h2, Bool.not_false, Bool.true_or, Bool.and_self, Bool.and_true]
    · simp only [mayF, goes, h1, Bool.false_and, Bool.and_false]
  · have : i = n := by have := of_decide_eq_false h; omega
    subst this
    refine ⟨rfl, .inl ⟨?_, ?_⟩⟩
    · simp only [vVs, vV, vI, vB, vN, vR, vL, wk, mayU2_eq hl, and_self]
    · simp only [vHp, List.map_cons, List.map_nil, Option.map_some, vBlk, z192, vL, vVs, vV, vI, vN, wtU_eq hl]
      exact (congrArg (fun l => [some (⟨1, l⟩ : Blk), some ⟨1, wtF (G k) i⟩]) (z192 G)).symm
theorem t28 (G : Nat → List AV) (k n : Nat) (Q : Ex → List AV → Hp → Prop) (R : AV → Hp → Prop) : vT G Q R (dcall (Dc Try.prog [] [] [DLat 1624 (wbQ G k n) 0 68 [2, 4, 5, 9, 10, 11] (wbO G k n)] 2) 300 20 Try.f28 [.slice true (.ro (.var 1 k)) (.lit 0) (.var 2 n)] [] 0) = (
    (wbQ G k n) [.agg ([.ptr (.rw 0) (0), .ptr (.rw 1) (0), .bool (true), .slice true (.ro (k)) (0) (n), .int .i64 (((n : Nat) : Int)), .int .i64 (0)] : List AV), .agg ([.tup [.int .i64 (1), .agg ([.bool (false), .int .i64 (0), .int .i64 (0), .bool (false), .int .i64 (0), .int .i64 (0), .bool (false), .int .i64 (0), .int .i64 (0), .bool (false), .int .i64 (0), .int .i64 (0), .bool (false), .int .i64 (0), .int .i64 (0), .bool (false), .int .i64 (0), .int .i64 (0), .bool (false), .int .i64 (0), .int .i64 (0), .bool (false), .int .i64 (0), .int .i64 (0), .bool (false), .int .i64 (0), .int .i64 (0), .bool (false), .int .i64 (0), .int .i64 (0), .bool (false), .int .i64 (0), .int .i64 (0), .bool (false), .int .i64 (0), .int .i64 (0), .bool (false), .int .i64 (0), .int .i64 (0), .bool (false), .int .i64 (0), .int .i64 (0), .bool (false), .int .i64 (0), .int .i64 (0), .bool (false), .int .i64 (0), .int .i64 (0), .bool (false), .int .i64 (0), .int .i64 (0), .bool (false), .int .i64 (0), .int .i64 (0), .bool (false), .int .i64 (0), .int .i64 (0), .bool (false), .int .i64 (0), .int .i64 (0), .bool (false), .int .i64 (0), .int .i64 (0), .bool (false), .int .i64 (0), .int .i64 (0), .bool (false), .int .i64 (0), .int .i64 (0), .bool (false), .int .i64 (0), .int .i64 (0), .bool (false), .int .i64 (0), .int .i64 (0), .bool (false), .int .i64 (0), .int .i64 (0), .bool (false), .int .i64 (0), .int .i64 (0), .bool (false), .int .i64 (0), .int .i64 (0), .bool (false), .int .i64 (0), .int .i64 (0), .bool (false), .int .i64 (0), .int .i64 (0), .bool (false), .int .i64 (0), .int .i64 (0), .bool (false), .int .i64 (0), .int .i64 (0), .bool (false), .int .i64 (0), .int .i64 (0), .bool (false), .int .i64 (0), .int .i64 (0), .bool (false), .int .i64 (0), .int .i64 (0), .bool (false), .int .i64 (0), .int .i64 (0), .bool (false), .int .i64 (0), .int .i64 (0), .bool (false), .int .i64 (0), .int .i64 (0), .bool (false), .int .i64 (0), .int .i64 (0), .bool (false), .int .i64 (0), .int .i64 (0), .bool (false), .int .i64 (0), .int .i64 (0), .bool (false), .int .i64 (0), .int .i64 (0), .bool (false), .int .i64 (0), .int .i64 (0), .bool (false), .int .i64 (0), .int .i64 (0), .bool (false), .int .i64 (0), .int .i64 (0), .bool (false), .int .i64 (0), .int .i64 (0), .bool (false), .int .i64 (0), .int .i64 (0), .bool (false), .int .i64 (0), .int .i64 (0), .bool (false), .int .i64 (0), .int .i64 (0), .bool (false), .int .i64 (0), .int .i64 (0), .bool (false), .int .i64 (0), .int .i64 (0), .bool (false), .int .i64 (0), .int .i64 (0), .bool (false), .int .i64 (0), .int .i64 (0), .bool (false), .int .i64 (0), .int .i64 (0), .bool (false), .int .i64 (0), .int .i64 (0), .bool (false), .int .i64 (0), .int .i64 (0), .bool (false), .int .i64 (0), .int .i64 (0), .bool (false), .int .i64 (0), .int .i64 (0), .bool (false), .int .i64 (0), .int .i64 (0), .bool (false), .int .i64 (0), .int .i64 (0), .bool (false), .int .i64 (0), .int .i64 (0), .bool (false), .int .i64 (0), .int .i64 (0), .bool (false), .int .i64 (0), .int .i64 (0), .bool (false), .int .i64 (0), .int .i64 (0)] : List AV)], .tup [.int .i64 (1), .agg ([.bool (false), .int .i64 (0), .int .i64 (0), .bool (false), .int .i64 (0), .int .i64 (0), .bool (false), .int .i64 (0), .int .i64 (0), .bool (false), .int .i64 (0), .int .i64 (0), .bool (false), .int .i64 (0), .int .i64 (0), .bool (false), .int .i64 (0), .int .i64 (0), .bool (false), .int .i64 (0), .int .i64 (0), .bool (false), .int .i64 (0), .int .i64 (0), .bool (false), .int .i64 (0), .int .i64 (0), .bool (false), .int .i64 (0), .int .i64 (0), .bool (false), .int .i64 (0), .int .i64 (0), .bool (false), .int .i64 (0), .int .i64 (0), .bool (false), .int .i64 (0), .int .i64 (0), .bool (false), .int .i64 (0), .int .i64 (0), .bool (false), .int .i64 (0), .int .i64 (0), .bool (false), .int .i64 (0), .int .i64 (0), .bool (false), .int .i64 (0), .int .i64 (0), .bool (false), .int .i64 (0), .int .i64 (0), .bool (false), .int .i64 (0), .int .i64 (0), .bool (false), .int .i64 (0), .int .i64 (0), .bool (false), .int .i64 (0), .int .i64 (0), .bool (false), .int .i64 (0), .int .i64 (0), .bool (false), .int .i64 (0), .int .i64 (0), .bool (false), .int .i64 (0), .int .i64 (0), .bool (false), .int .i64 (0), .int .i64 (0), .bool (false), .int .i64 (0), .int .i64 (0), .bool (false), .int .i64 (0), .int .i64 (0), .bool (false), .int .i64 (0), .int .i64 (0), .bool (false), .int .i64 (0), .int .i64 (0), .bool (false), .int .i64 (0), .int .i64 (0), .bool (false), .int .i64 (0), .int .i64 (0), .bool (false), .int .i64 (0), .int .i64 (0), .bool (false), .int .i64 (0), .int .i64 (0), .bool (false), .int .i64 (0), .int .i64 (0), .bool (false), .int .i64 (0), .int .i64 (0), .bool (false), .int .i64 (0), .int .i64 (0), .bool (false), .int .i64 (0), .int .i64 (0), .bool (false), .int .i64 (0), .int .i64 (0), .bool (false), .int .i64 (0), .int .i64 (0), .bool (false), .int .i64 (0), .int .i64 (0), .bool (false), .int .i64 (0), .int .i64 (0), .bool (false), .int .i64 (0), .int .i64 (0), .bool (false), .int .i64 (0), .int .i64 (0), .bool (false), .int .i64 (0), .int .i64 (0), .bool (false), .int .i64 (0), .int .i64 (0), .bool (false), .int .i64 (0), .int .i64 (0), .bool (false), .int .i64 (0), .int .i64 (0), .bool (false), .int .i64 (0), .int .i64 (0), .bool (false), .int .i64 (0), .int .i64 (0), .bool (false), .int .i64 (0), .int .i64 (0), .bool (false), .int .i64 (0), .int .i64 (0), .bool (false), .int .i64 (0), .int .i64 (0), .bool (false), .int .i64 (0), .int .i64 (0), .bool (false), .int .i64 (0), .int .i64 (0), .bool (false), .int .i64 (0), .int .i64 (0), .bool (false), .int .i64 (0), .int .i64 (0), .bool (false), .int .i64 (0), .int .i64 (0), .bool (false), .int .i64 (0), .int .i64 (0), .bool (false), .int .i64 (0), .int .i64 (0), .bool (false), .int .i64 (0), .int .i64 (0), .bool (false), .int .i64 (0), .int .i64 (0), .bool (false), .int .i64 (0), .int .i64 (0), .bool (false), .int .i64 (0), .int .i64 (0), .bool (false), .int .i64 (0), .int .i64 (0)] : List AV)]] : List AV)] = true ∧
    leB (192) (List.length (wtU [.agg (G (k)), .int .i64 (((n : Nat) : Int))])) = true ∧
    cellsB (subL (wtU [.agg (G (k)), .int .i64 (((n : Nat) : Int))]) (0) (192)) = true ∧
    Nat.beq (List.length (subL (wtU [.agg (G (k)), .int .i64 (((n : Nat) : Int))]) (0) (192))) (192) = true ∧
    leB (192) (List.length (subL (wtU [.agg (G (k)), .int .i64 (((n : Nat) : Int))]) (0) (192))) = true ∧
    R (.tup [.agg (subL (subL (wtU [.agg (G (k)), .int .i64 (((n : Nat) : Int))]) (0) (192)) (0) (192)), .bool (mayU2 [.agg (G (k)), .int .i64 (((n : Nat) : Int))])]) []) := by kernel_rfl
theorem wb_call (G : Nat → List AV) (B : Nat) (k n : Nat) (h : okT (G k) n = true) : ACalls (⟨Try.prog, G, B⟩ : Ctx) 28 [.slice true (.ro k) 0 n] [] fun v _ => v = .tup [.agg (wtF (G k) n), .bool (mayF (G k) n)] := by
  have := dcall_ok (C := (⟨Try.prog, G, B⟩ : Ctx)) (fuel := 300) (n0 := 20) (f := 28) (fn := Try.f28) (args := [.slice true (.ro (.var 1 k)) (.lit 0) (.var 2 n)]) (H := []) (keep := 0)
    (R := fun v _ => v = .tup [.agg (wtF (G k) n), .bool (mayF (G k) n)]) (dgood (mixF G B) (by kernel_rfl) .nil (.cast (.cons (i := 0) (by kernel_rfl) rfl (wbL_ok G B k n) .nil) (by kernel_rfl))) (by kernel_rfl) (by kernel_rfl) (by kernel_rfl) (by
    have hl := (okT_iff.1 h).1
    rw [t28, wtU_eq hl, mayU2_eq hl, wtF_sub, wtF_sub]
    exact ⟨stQ_refl h rfl (by simp only [encHB, List.map_cons, List.map_nil, noRcds, noRcd, wtF_flat.2.2]; rfl), leB_iff.2 (by rw [wtF_len]; omega), wtF_cells, by rw [wtF_len]; rfl, leB_iff.2 (by rw [wtF_len]; omega), rfl⟩)
  exact this.monoK fun v H' h => h
/-! ### Equal -/
def eqE (G : Nat → List AV) (k n k2 m : Nat) : List AV → Bool := stQ (stQ2 G k n k2 m) [.slice true (.ro k) 0 n, .slice true (.ro k2) 0 m, .bool false, .int .i64 (n : Int), .int .i64 0] []
def eqO2 (G : Nat → List AV) (k n k2 m : Nat) : LOut := .tst (.uf 1612 stU [.agg (.ro (.var 1 k)), .int .i64 (.ofN (.var 2 n)), .agg (.ro (.var 3 k2)), .int .i64 (.ofN (.var 4 m))]) (.one (.exit 0) [.undef, .undef, .undef, .undef, .undef] []) (.one .ret [.undef, .undef, .bool (.lit false), .undef, .undef] [])
theorem eqL_ok (G : Nat → List AV) (B : Nat) (k n k2 m : Nat) : DLoopOk (⟨Try.prog, G, B⟩ : Ctx) 0 (loopN Try.f34 0) (DLat 1625 (eqE G k n k2 m) 0 26 [0, 1, 4, 12, 13] (eqO2 G k n k2 m)) := by
  refine DLat_ok rfl fun h => ?_
  simp only [stQ2, Bool.and_eq_true] at h
  obtain ⟨hnm, h, h2⟩ := h
  obtain ⟨hl, hn, hk, ho⟩ := okT_iff.1 h
  obtain ⟨hl2, hn2, hk2, ho2⟩ := okT_iff.1 h2
  have hnm := Nat.eq_of_beq_eq_true hnm
  have key : stU [.agg (G k), .int .i64 (n : Int), .agg (G k2), .int .i64 (m : Int)] = allTo (rowEq (G k) (G k2)) n := by
    rw [stU_eq hl hl2, stF, hnm, Nat.beq_refl]; rfl
  refine scanP (fun i => ∀ l, l < i → rowEq (G k) (G k2) l = true) n (fun i => [.slice true (.ro k) 0 n, .slice true (.ro k2) 0 m, .bool false, .int .i64 (n : Int), .int .i64 (i : Int)]) (fun _ => []) (fun l hl => by omega) fun i hi hall => ?_
  refine dloop_ok (C := (⟨Try.prog, G, B⟩ : Ctx)) (dgF G B) (fuel := 300) (n0 := 20) (m := 0) (c := loopN Try.f34 0) (vs := [.slice true (.ro (.var 1 k)) (.lit 0) (.var 2 n), .slice true (.ro (.var 3 k2)) (.lit 0) (.var 4 m), .bool (.lit false), .int .i64 (.ofN (.var 2 n)), .int .i64 (.var 6 (i : Int))]) (H := []) (by simp) ?_
  rw [eq_b, int_nat]
  refine ⟨fun h => ?_, fun h => ?_⟩
  · have hin : i < n := by have := of_decide_eq_true h; omega
    have bad : rowEq (G k) (G k2) i = false → (eqO2 G k n k2 m).post G 0 .ret [.slice true (.ro k) 0 n, .slice true (.ro k2) 0 m, .bool false, .int .i64 (n : Int), .int .i64 (i : Int)] [] := fun hb =>
      .inr ⟨by show stU _ = false; rw [show stU (vVs G [.agg (.ro (.var 1 k)), .int .i64 (.ofN (.var 2 n)), .agg (.ro (.var 3 k2)), .int .i64 (.ofN (.var 4 m))]) = _ from key]; exact allTo_false hin hb, rfl, .inl ⟨by simp [vVs, vV, vI, vB, wk], rfl⟩⟩
    rw [i64_in (by omega)]
    refine ⟨decide_eq_true (by omega), h, leafs3F hk hin, decide_eq_true (by omega), decide_eq_true (by omega), leafs3F hk2 (by omega), fun h1 => ⟨fun h2 => ⟨fun h3 => ⟨hin, fun l hl => ?_, .inl ⟨rfl, rfl⟩⟩, fun h3 => bad ?_⟩, fun h2 => bad ?_⟩, fun h1 => bad ?_⟩
    · by_cases e : l = i
      · subst e; simp only [rowEq, tA, tM, tV, h1, h2, h3, Bool.and_self]
      · exact hall l (by omega)
    · simp only [rowEq, tA, tM, tV, h1, h2, h3, Bool.and_false]
    · simp only [rowEq, tA, tM, tV, h1, h2, Bool.false_and, Bool.and_false]
    · simp only [rowEq, tA, tM, tV, h1, Bool.false_and]
  · have : i = n := by have := of_decide_eq_false h; omega
    refine .inl ⟨by show stU _ = true; rw [show stU (vVs G [.agg (.ro (.var 1 k)), .int .i64 (.ofN (.var 2 n)), .agg (.ro (.var 3 k2)), .int .i64 (.ofN (.var 4 m))]) = _ from key]; exact allTo_iff.2 (by subst this; exact hall), rfl, .inl ⟨by simp [vVs, vV, vI, vB, wk], rfl⟩⟩
theorem t34 (G : Nat → List AV) (k n k2 m : Nat) (Q : Ex → List AV → Hp → Prop) (R : AV → Hp → Prop) : vT G Q R (dcall (Dc Try.prog [] [] [DLat 1625 (eqE G k n k2 m) 0 26 [0, 1, 4, 12, 13] (eqO2 G k n k2 m)] 0) 300 20 Try.f34 [.slice true (.ro (.var 1 k)) (.lit 0) (.var 2 n), .slice true (.ro (.var 3 k2)) (.lit 0) (.var 4 m)] [] 0) = (
    (((((n : Nat) : Int) : Int) == ((m : Nat) : Int)) = true →
      (eqE G k n k2 m) [.agg ([.slice true (.ro (k)) (0) (n), .slice true (.ro (k2)) (0) (m), .bool (false), .int .i64 (((n : Nat) : Int)), .int .i64 (0)] : List AV), .agg ([] : List AV)] = true ∧
      (stU [.agg (G (k)), .int .i64 (((n : Nat) : Int)), .agg (G (k2)), .int .i64 (((m : Nat) : Int))] = true →
        R (.bool (true)) []) ∧
      (stU [.agg (G (k)), .int .i64 (((n : Nat) : Int)), .agg (G (k2)), .int .i64 (((m : Nat) : Int))] = false →
        R (.bool (false)) [])) ∧
    (((((n : Nat) : Int) : Int) == ((m : Nat) : Int)) = false →
      R (.bool (false)) [])) := by kernel_rfl
theorem eq_call (G : Nat → List AV) (B : Nat) (k n k2 m : Nat) (h : okT (G k) n = true) (h2 : okT (G k2) m = true) : ACalls (⟨Try.prog, G, B⟩ : Ctx) 34 [.slice true (.ro k) 0 n, .slice true (.ro k2) 0 m] [] fun v _ => v = .bool (stF (G k) n (G k2) m) := by
  have := dcall_ok (C := (⟨Try.prog, G, B⟩ : Ctx)) (fuel := 300) (n0 := 20) (f := 34) (fn := Try.f34) (args := [.slice true (.ro (.var 1 k)) (.lit 0) (.var 2 n), .slice true (.ro (.var 3 k2)) (.lit 0) (.var 4 m)]) (H := []) (keep := 0)
    (R := fun v _ => v = .bool (stF (G k) n (G k2) m)) (dgood (mixF G B) (by kernel_rfl) .nil (.cast (.cons (i := 0) (by kernel_rfl) rfl (eqL_ok G B k n k2 m) .nil) (by kernel_rfl))) (by kernel_rfl) (by kernel_rfl) (by kernel_rfl) (by
    rw [t34, stU_eq (okT_iff.1 h).1 (okT_iff.1 h2).1]
    refine ⟨fun e => ⟨stQ_refl ?_ rfl rfl, fun e => by rw [e], fun e => by rw [e]⟩, fun e => ?_⟩
    · have : n = m := by have := eq_of_beq e; omega
      simp only [stQ2, this, Nat.beq_refl, h2, Bool.true_and, Bool.and_true]
      rw [← this]; exact h
    · have : n ≠ m := by intro q; rw [q] at e; simp at e
      unfold stF
      cases hb : Nat.beq n m with
      | true => exact absurd (Nat.eq_of_beq_eq_true hb) this
      | false => rfl)
  exact this.monoK fun v H' h => h
/-! ### the summaries -/
def okTU : List AV → Bool := fun xs => match xs with
  | [.agg cs, .int _ n] => okT (ctT cs n.toNat) n.toNat
  | _ => false
theorem okT_flat {cs : List AV} {n : Nat} (h : okT (ctT cs n) n = true) : bnds 0 (cs.take (n * 3)) = true ∧ noros (cs.take (n * 3)) = true := by
  obtain ⟨h1, h2, h3, h4⟩ := okT_iff.1 h
  have := okI_flatN h3
  rwa [ctT, List.take_take, Nat.min_self] at this
section
variable {C : Ctx}
theorem DOut.t1 {f : FuncId} {x : EV} {rest : List EV} {H : DHp} {v : EV} {L : EL} {n : EN} {F : List AV → Nat → AV} (hx : rdT H x = some (L, n)) (h1 : okT (ctT (vL C.G L) (vN C.G n)) (vN C.G n) = true) (hr : norws (vVs C.G rest) = true ∧ noros (vVs C.G rest) = true)
    (h : ∀ (G : Nat → List AV) (B : Nat) (k n : Nat), okT (G k) n = true → ACalls ⟨C.P, G, B⟩ f (.slice true (.ro k) 0 n :: vVs C.G rest) [] fun v' _ => v' = F (G k) n) (hv : vV C.G v = F (ctT (vL C.G L) (vN C.G n)) (vN C.G n)) (hf : bnd 0 (vV C.G v) = true ∧ noro (vV C.G v) = true) : DOut C f (x :: rest) H v [] :=
  DOut.rd1 (C := C) (vN C.G n * 3) hx (okT_flat h1) hr (fun G' B' e => by
    have e : G' 0 = ctT (vL C.G L) (vN C.G n) := e
    rw [hv, ← e]
    exact h G' B' 0 (vN C.G n) (by rw [e]; exact h1)) hf
theorem DOut.t2 {f : FuncId} {x y : EV} {rest : List EV} {H : DHp} {v : EV} {L L' : EL} {n m : EN} {F : List AV → Nat → List AV → Nat → AV} (hx : rdT H x = some (L, n)) (hy : rdT H y = some (L', m)) (h1 : okT (ctT (vL C.G L) (vN C.G n)) (vN C.G n) = true) (h2 : okT (ctT (vL C.G L') (vN C.G m)) (vN C.G m) = true) (hr : norws (vVs C.G rest) = true ∧ noros (vVs C.G rest) = true)
    (h : ∀ (G : Nat → List AV) (B : Nat) (k n k2 m : Nat), okT (G k) n = true → okT (G k2) m = true → ACalls ⟨C.P, G, B⟩ f (.slice true (.ro k) 0 n :: .slice true (.ro k2) 0 m :: vVs C.G rest) [] fun v' _ => v' = F (G k) n (G k2) m) (hv : vV C.G v = F (ctT (vL C.G L) (vN C.G n)) (vN C.G n) (ctT (vL C.G L') (vN C.G m)) (vN C.G m)) (hf : bnd 0 (vV C.G v) = true ∧ noro (vV C.G v) = true) : DOut C f (x :: y :: rest) H v [] :=
  DOut.rd2 (C := C) (vN C.G n * 3) (vN C.G m * 3) hx hy (okT_flat h1) (okT_flat h2) hr (fun G' B' e e' => by
    have e : G' 0 = ctT (vL C.G L) (vN C.G n) := e
    have e' : G' 1 = ctT (vL C.G L') (vN C.G m) := e'
    rw [hv, ← e, ← e']
    exact h G' B' 0 (vN C.G n) 1 (vN C.G m) (by rw [e]; exact h1) (by rw [e']; exact h2)) hf
end
def loS : DSum := fun args H => match args with
  | [x] => match rdT H x with
    | some (l, n) => some (.chk (.uf 1614 okTU [.agg l, .int .i64 (.ofN n)]) (.one (.int .i64 (.uf 1609 loU [.agg l, .int .i64 (.ofN n)])) []))
    | none => none
  | _ => none
theorem loS_ok (G : Nat → List AV) (B : Nat) : DSumOk (⟨Try.prog, G, B⟩ : Ctx) 29 loS := by
  intro args H o ho
  unfold loS at ho
  split at ho
  · split at ho
    · rename_i x l n hx
      simp only [Option.some.injEq] at ho
      subst ho
      intro h1
      exact DOut.t1 (C := (⟨Try.prog, G, B⟩ : Ctx)) (F := fun cs n => .int .i64 (loF cs n : Int)) hx h1 ⟨rfl, rfl⟩ (fun G B k n h => lo_call G B k n h) rfl ⟨rfl, rfl⟩
    · simp at ho
  · simp at ho
def byS : DSum := fun args H => match args with
  | [x, .int .i64 a, .int .i64 b] => match rdT H x with
    | some (l, n) => some (.chk (.uf 1614 okTU [.agg l, .int .i64 (.ofN n)]) (.chk (.cmp .leq (.lit 0) a) (.chk (.cmp .leq (.lit 0) b) (.chk (.cmp .leq b (.lit 255)) (.one (.bool (.uf 1610 byU [.agg l, .int .i64 (.ofN n), .int .i64 a, .int .i64 b])) [])))))
    | none => none
  | _ => none
theorem byS_ok (G : Nat → List AV) (B : Nat) : DSumOk (⟨Try.prog, G, B⟩ : Ctx) 30 byS := by
  intro args H o ho
  unfold byS at ho
  split at ho
  · rename_i x a b
    split at ho
    · rename_i l n hx
      simp only [Option.some.injEq] at ho
      subst ho
      intro h1 h2 h3 h4
      have h2 : 0 ≤ vI G a := of_decide_eq_true h2
      have h3 : 0 ≤ vI G b := of_decide_eq_true h3
      have h4 : vI G b ≤ 255 := of_decide_eq_true h4
      exact DOut.t1 (C := (⟨Try.prog, G, B⟩ : Ctx)) (rest := [.int .i64 a, .int .i64 b]) (F := fun cs n => .bool (byF cs n (vI G a).toNat (vI G b).toNat)) hx h1 ⟨rfl, rfl⟩ (fun G' B k n h => by
        have := bt_call G' B k n (vI G a).toNat (vI G b).toNat h (by omega)
        rw [Int.toNat_of_nonneg h2, Int.toNat_of_nonneg h3] at this
        exact this) rfl ⟨rfl, rfl⟩
    · simp at ho
  · simp at ho
def mkS : DSum := fun args H => match args with
  | [x, .int .i64 a] => match rdT H x with
    | some (l, n) => some (.chk (.uf 1614 okTU [.agg l, .int .i64 (.ofN n)]) (.chk (.cmp .leq (.lit 0) a) (.one (.int .i64 (.uf 1611 mkU [.agg l, .int .i64 (.ofN n), .int .i64 a])) [])))
    | none => none
  | _ => none
theorem mkS_ok (G : Nat → List AV) (B : Nat) : DSumOk (⟨Try.prog, G, B⟩ : Ctx) 31 mkS := by
  intro args H o ho
  unfold mkS at ho
  split at ho
  · rename_i x a
    split at ho
    · rename_i l n hx
      simp only [Option.some.injEq] at ho
      subst ho
      intro h1 h2
      have h2 : 0 ≤ vI G a := of_decide_eq_true h2
      exact DOut.t1 (C := (⟨Try.prog, G, B⟩ : Ctx)) (rest := [.int .i64 a]) (F := fun cs n => .int .i64 (mkAt cs n (vI G a).toNat : Int)) hx h1 ⟨rfl, rfl⟩ (fun G' B k n h => by
        have := mk_call G' B k n (vI G a).toNat h
        rw [Int.toNat_of_nonneg h2] at this
        exact this) rfl ⟨rfl, rfl⟩
    · simp at ho
  · simp at ho
def stS : DSum := fun args H => match args with
  | [x, y] => match rdT H x, rdT H y with
    | some (l, n), some (l2, m) => some (.chk (.uf 1614 okTU [.agg l, .int .i64 (.ofN n)]) (.chk (.uf 1614 okTU [.agg l2, .int .i64 (.ofN m)]) (.one (.bool (.uf 1612 stU [.agg l, .int .i64 (.ofN n), .agg l2, .int .i64 (.ofN m)])) [])))
    | _, _ => none
  | _ => none
theorem stS_of (G : Nat → List AV) (B : Nat) {f : Nat} (h : ∀ (G : Nat → List AV) (B : Nat) (k n k2 m : Nat), okT (G k) n = true → okT (G k2) m = true → ACalls (⟨Try.prog, G, B⟩ : Ctx) f [.slice true (.ro k) 0 n, .slice true (.ro k2) 0 m] [] fun v _ => v = .bool (stF (G k) n (G k2) m)) : DSumOk (⟨Try.prog, G, B⟩ : Ctx) f stS := by
  intro args H o ho
  unfold stS at ho
  split at ho
  · rename_i x y
    split at ho
    · rename_i l n l2 m hx hy
      simp only [Option.some.injEq] at ho
      subst ho
      intro h1 h2
      exact DOut.t2 (C := (⟨Try.prog, G, B⟩ : Ctx)) (F := fun cs n ds m => .bool (stF cs n ds m)) hx hy h1 h2 ⟨rfl, rfl⟩ (fun G B k n k2 m q1 q2 => h G B k n k2 m q1 q2) rfl ⟨rfl, rfl⟩
    · simp at ho
  · simp at ho
def wbS : DSum := fun args H => match args with
  | [x] => match rdT H x with
    | some (l, n) => some (.chk (.uf 1614 okTU [.agg l, .int .i64 (.ofN n)]) (.one (.tup [.agg (.uf 1613 wtU [.agg l, .int .i64 (.ofN n)]), .bool (.uf 1615 mayU2 [.agg l, .int .i64 (.ofN n)])]) []))
    | none => none
  | _ => none
theorem wbS_ok (G : Nat → List AV) (B : Nat) : DSumOk (⟨Try.prog, G, B⟩ : Ctx) 28 wbS := by
  intro args H o ho
  unfold wbS at ho
  split at ho
  · split at ho
    · rename_i x l n hx
      simp only [Option.some.injEq] at ho
      subst ho
      intro h1
      refine DOut.t1 (C := (⟨Try.prog, G, B⟩ : Ctx)) (F := fun cs n => .tup [.agg (wtF cs n), .bool (mayF cs n)]) hx h1 ⟨rfl, rfl⟩ (fun G B k n h => wb_call G B k n h) rfl ?_
      simp only [vV, vVs, vL, vB, bnd, bnds, noro, noros, Bool.and_true]
      exact ⟨wtF_flat.1, wtF_flat.2.1⟩
    · simp at ho
  · simp at ho
def progG : List (Nat × DSum) := (29, loS) :: (30, byS) :: (31, mkS) :: (17, stS) :: (34, stS) :: (28, wbS) :: progFc
theorem progG_ok (G : Nat → List AV) (B : Nat) : DSumsOk (⟨Try.prog, G, B⟩ : Ctx) progG := .cons (loS_ok G B) (.cons (byS_ok G B) (.cons (mkS_ok G B) (.cons (stS_of G B fun G B k n k2 m => st_call G B k n k2 m) (.cons (stS_of G B fun G B k n k2 m => eq_call G B k n k2 m) (.cons (wbS_ok G B) (progFc_ok G B))))))
end Go.Am
