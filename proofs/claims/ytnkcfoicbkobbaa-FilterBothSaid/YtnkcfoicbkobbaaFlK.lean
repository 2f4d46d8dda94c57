/-
  Filters: the program's plain filter.
-/
import Derived.Test.YtnkcfoicbkobbaaFlJ
namespace Go.Am
open Go.Proofs
set_option maxRecDepth 100000
def progK : List (Nat × DSum) := (41, dfS) :: progH
theorem progK_ok (G : Nat → List AV) (B : Nat) : DSumsOk (⟨Try.prog, G, B⟩ : Ctx) progK := .cons (dfS_ok G B) (progH_ok G B)
theorem pl_b (G : Nat → List AV) (w z : List AV) (x a : Nat) (Q : Ex → List AV → Hp → Prop) (R : AV → Hp → Prop) : vT G Q R (dloop (Dc Try.prog [] progK [] 0) 300 20 0 (loopN Try.f33 0) 36 [6, 16, 17] [.slice true (.rw 1) (.lit 0) (.var 9 x), .agg (.var 12 w), .int .i64 (.ofN (.var 10 a))] [some ⟨1, .var 12 w⟩, some ⟨3, .var 11 z⟩]) = (
    (decide ((((a : Nat) : Int) : Int) < 64) = true →
      decide ((0 : Int) ≤ ((a : Nat) : Int)) = true ∧
      decide ((((a : Nat) : Int) : Int) < 64) = true ∧
      leB ((a) * 3 + 3) (List.length w) = true ∧
      cellsB (subL w ((a) * 3) (3)) = true ∧
      Nat.beq (List.length (subL w ((a) * 3) (3))) (3) = true ∧
      isB (subL w ((a) * 3) (3)) (0) = true ∧
      (getB (subL w ((a) * 3) (3)) (0) = true →
        okIU3 [.agg z, .int .i64 (((x : Nat) : Int))] = true ∧
        dfOkU [.agg z, .int .i64 (((x : Nat) : Int))] = true ∧
        isI .i64 (subL w ((a) * 3) (3)) (1) = true ∧
        isI .i64 (subL w ((a) * 3) (3)) (2) = true ∧
        leB ((dnU [.agg z, .int .i64 (((x : Nat) : Int))] + 1) * 24) (140737488355328) = true ∧
        leB ((dnU [.agg z, .int .i64 (((x : Nat) : Int))]) * 3) (List.length (dcU [.agg z, .int .i64 (((x : Nat) : Int))])) = true ∧
        Q .normal [.slice true (.rw 4) (0) (dnU [.agg z, .int .i64 (((x : Nat) : Int))] + 1), .agg w, .int .i64 (IntKind.wrap .i64 (((a : Nat) : Int) + 1))] [some ⟨1, w⟩, none, some ⟨1, (subL w ((a) * 3) (3))⟩, some ⟨3, ([.int .i64 (((a : Nat) : Int)), .int .i64 (getI (subL w ((a) * 3) (3)) (1)), .int .i64 (getI (subL w ((a) * 3) (3)) (2))] : List AV)⟩, some ⟨3, ((subL (dcU [.agg z, .int .i64 (((x : Nat) : Int))]) (0) ((dnU [.agg z, .int .i64 (((x : Nat) : Int))]) * 3)) ++ ([.int .i64 (((a : Nat) : Int)), .int .i64 (getI (subL w ((a) * 3) (3)) (1)), .int .i64 (getI (subL w ((a) * 3) (3)) (2))] : List AV))⟩]) ∧
      (getB (subL w ((a) * 3) (3)) (0) = false →
        Q .normal [.slice true (.rw 1) (0) (x), .agg w, .int .i64 (IntKind.wrap .i64 (((a : Nat) : Int) + 1))] [some ⟨1, w⟩, some ⟨3, z⟩, some ⟨1, (subL w ((a) * 3) (3))⟩])) ∧
    (decide ((((a : Nat) : Int) : Int) < 64) = false →
      Q (.exit 0) [.slice true (.rw 1) (0) (x), .agg w, .int .i64 (((a : Nat) : Int))] [some ⟨1, w⟩, some ⟨3, z⟩])) := by kernel_rfl
theorem wtF_row {cs : List AV} {n a : Nat} (ha : a < 64) : subL (wtF cs n) (a * 3) 3 = wtR cs n a := by
  apply List.ext_getElem?
  intro j
  unfold subL
  rw [List.getElem?_take]
  split
  · rename_i hj
    rw [List.getElem?_drop, wtF_get ha hj]
  · rename_i hj
    rw [List.getElem?_eq_none (by simp [wtR]; omega)]
def rowV (cs : List AV) (n a : Nat) : List AV := [.int .i64 (a : Int), .int .i64 (mkAt cs n a : Int), .int .i64 (vlAt cs n a : Int)]
/-- the rows with a mask; is there one without behind them, of which place -/
def psC (cs : List AV) (n : Nat) : Nat → List AV
  | 0 => []
  | k + 1 => if mkAt cs n k = 0 then psC cs n k else psC cs n k ++ rowV cs n k
def psK (cs : List AV) (n : Nat) : Nat → Nat
  | 0 => 0
  | k + 1 => if mkAt cs n k = 0 then psK cs n k else psK cs n k + 1
def pzF (cs : List AV) (n : Nat) : Nat → Bool
  | 0 => false
  | k + 1 => if isAt cs n k = true then mkAt cs n k == 0 else pzF cs n k
def plF (cs : List AV) (n : Nat) : Nat → Nat
  | 0 => 0
  | k + 1 => if isAt cs n k = true then k else plF cs n k
def ppC (cs : List AV) (n k : Nat) : List AV := if pzF cs n k = true then psC cs n k ++ rowV cs n (plF cs n k) else psC cs n k
def ppK (cs : List AV) (n k : Nat) : Nat := if pzF cs n k = true then psK cs n k + 1 else psK cs n k
theorem psC_len {cs : List AV} {n : Nat} : ∀ k, (psC cs n k).length = psK cs n k * 3 ∧ psK cs n k ≤ k
  | 0 => ⟨rfl, Nat.le_refl _⟩
  | k + 1 => by
    obtain ⟨h1, h2⟩ := psC_len (cs := cs) (n := n) k
    simp only [psC, psK]
    split
    · exact ⟨h1, by omega⟩
    · rw [List.length_append, h1]; exact ⟨by simp [rowV]; omega, by omega⟩
def isI64V : AV → Bool
  | .int .i64 _ => true
  | _ => false
theorem psC_ints {cs : List AV} {n : Nat} : ∀ k, (psC cs n k).all isI64V = true
  | 0 => rfl
  | k + 1 => by
    simp only [psC]
    split
    · exact psC_ints k
    · rw [List.all_append, psC_ints k]; rfl
theorem ints_flat {l : List AV} (h : l.all isI64V = true) : bnds 0 l = true ∧ noros l = true ∧ noRcds l = true ∧ ∀ m, m ≤ l.length → okI .i64 l 0 m = true := by
  rw [List.all_eq_true] at h
  have key : ∀ v ∈ l, ∃ n, v = .int .i64 n := by
    intro v hv
    have := h v hv
    cases v with
    | int k n => cases k <;> simp [isI64V] at this; exact ⟨n, rfl⟩
    | _ => simp [isI64V] at this
  refine ⟨?_, ?_, noRcds_of fun v hv => ?_, fun m hm => okI_of fun j hj => ?_⟩
  · rw [bnds_eq, List.all_eq_true]; intro v hv; obtain ⟨n, rfl⟩ := key v hv; rfl
  · rw [noros_eq, List.all_eq_true]; intro v hv; obtain ⟨n, rfl⟩ := key v hv; rfl
  · obtain ⟨n, rfl⟩ := key v hv; rfl
  · rw [Nat.zero_add]
    have hj' : j < l.length := by omega
    obtain ⟨n, e⟩ := key l[j] (List.getElem_mem hj')
    unfold isI
    rw [List.getElem?_eq_getElem hj', e]
    rfl
theorem ppC_ints {cs : List AV} {n k : Nat} : (ppC cs n k).all isI64V = true := by
  unfold ppC
  split
  · rw [List.all_append, psC_ints]; rfl
  · exact psC_ints k
theorem ppC_len {cs : List AV} {n k : Nat} : (ppC cs n k).length = ppK cs n k * 3 ∧ ppK cs n k ≤ k + 1 := by
  obtain ⟨h1, h2⟩ := psC_len (cs := cs) (n := n) k
  unfold ppC ppK
  split
  · rw [List.length_append, h1]; exact ⟨by simp [rowV]; omega, by omega⟩
  · exact ⟨h1, by omega⟩
theorem psC_mask {cs : List AV} {n : Nat} : ∀ {k i : Nat}, i < psK cs n k → tM (psC cs n k) i ≠ 0
  | k + 1, i, h => by
    obtain ⟨h1, h2⟩ := psC_len (cs := cs) (n := n) k
    simp only [psC, psK] at h ⊢
    split
    · rename_i hm; rw [if_pos hm] at h; exact psC_mask h
    · rename_i hm
      rw [if_neg hm] at h
      by_cases e : i = psK cs n k
      · subst e
        unfold tM getI
        rw [List.getElem?_append_right (by omega), h1, show psK cs n k * 3 + 1 - psK cs n k * 3 = 1 by omega]
        show (mkAt cs n k : Int) ≠ 0
        omega
      · have := psC_mask (cs := cs) (n := n) (k := k) (i := i) (by omega)
        unfold tM getI at this ⊢
        rw [List.getElem?_append_left (by omega)]
        exact this
theorem pz_mask {cs : List AV} {n : Nat} : ∀ {k : Nat}, pzF cs n k = true → mkAt cs n (plF cs n k) = 0
  | k + 1, h => by
    simp only [pzF, plF] at h ⊢
    split
    · rename_i hi; rw [if_pos hi] at h; exact eq_of_beq h
    · rename_i hi; rw [if_neg hi] at h; exact pz_mask h
/-- where the tests without a mask stand -/
theorem pp_zx {cs : List AV} {n k : Nat} : zxN (ppC cs n k) (ppK cs n k) = psK cs n k := by
  obtain ⟨h1, h2⟩ := psC_len (cs := cs) (n := n) k
  unfold zxN ppC ppK
  split
  · rename_i hz
    refine fstF_eq (by omega) ?_ fun j hj => ?_
    · show (tM (psC cs n k ++ rowV cs n (plF cs n k)) (psK cs n k) == 0) = true
      unfold tM getI
      rw [List.getElem?_append_right (by omega), h1, show psK cs n k * 3 + 1 - psK cs n k * 3 = 1 by omega]
      show ((mkAt cs n (plF cs n k) : Int) == 0) = true
      rw [pz_mask hz]; rfl
    · refine beq_eq_false_iff_ne.2 ?_
      have := psC_mask (cs := cs) (n := n) hj
      unfold tM getI at this ⊢
      rw [List.getElem?_append_left (by omega)]
      exact this
  · obtain ⟨g1, g2, g3⟩ := fstF_spec (p := fun i => tM (psC cs n k) i == 0) (k := psK cs n k)
    refine Nat.le_antisymm g1 (Nat.le_of_not_lt fun hlt => ?_)
    exact psC_mask (cs := cs) (n := n) (k := k) hlt (eq_of_beq (g2 hlt))
theorem pp_del {cs : List AV} {n k : Nat} : (zxF (ppC cs n k) (ppK cs n k) = -1 ∨ zxN (ppC cs n k) (ppK cs n k) + 1 = ppK cs n k) ∧ dnF (ppC cs n k) (ppK cs n k) = psK cs n k ∧ (dcF (ppC cs n k) (ppK cs n k)).length = ppK cs n k * 3 ∧ subL (dcF (ppC cs n k) (ppK cs n k)) 0 (psK cs n k * 3) = psC cs n k ∧ bnds 0 (dcF (ppC cs n k) (ppK cs n k)) = true := by
  have hz := pp_zx (cs := cs) (n := n) (k := k)
  obtain ⟨h1, h2⟩ := psC_len (cs := cs) (n := n) k
  obtain ⟨h3, h4⟩ := ppC_len (cs := cs) (n := n) (k := k)
  have hb := (ints_flat (ppC_ints (cs := cs) (n := n) (k := k))).1
  unfold dnF dcF zxF
  rw [hz]
  have hsub : ∀ l : List AV, subL (psC cs n k ++ l) 0 (psK cs n k * 3) = psC cs n k := fun l => by
    unfold subL
    rw [List.drop_zero, List.take_append_of_le_length (by omega), List.take_of_length_le (by omega)]
  by_cases e : pzF cs n k = true
  · have ek : ppK cs n k = psK cs n k + 1 := by unfold ppK; rw [if_pos e]
    have ec : ppC cs n k = psC cs n k ++ rowV cs n (plF cs n k) := by unfold ppC; rw [if_pos e]
    rw [if_neg (by omega), if_neg (by omega), if_neg (by omega)]
    refine ⟨.inr (by omega), rfl, ?_, ?_, bnds_set3 hb rfl⟩
    · rw [ec]
      show (spl _ _ _).length = _
      unfold spl
      simp [h1, rowV, ek]; omega
    · rw [ec]
      show subL (spl _ _ _) 0 _ = _
      unfold spl
      rw [List.take_append_of_le_length (by omega), List.take_of_length_le (by omega)]
      exact hsub _
  · have ek : ppK cs n k = psK cs n k := by unfold ppK; rw [if_neg e]
    have ec : ppC cs n k = psC cs n k := by unfold ppC; rw [if_neg e]
    rw [ek, if_pos rfl, if_pos rfl, if_pos rfl, ec]
    refine ⟨.inl rfl, rfl, h1, ?_, by rw [ec] at hb; exact hb⟩
    have := hsub []
    rwa [List.append_nil] at this
theorem pp_next {cs : List AV} {n k : Nat} : (isAt cs n k = true → ppC cs n (k + 1) = psC cs n k ++ rowV cs n k ∧ ppK cs n (k + 1) = psK cs n k + 1) ∧ (isAt cs n k = false → ppC cs n (k + 1) = ppC cs n k ∧ ppK cs n (k + 1) = ppK cs n k) := by
  refine ⟨fun h => ?_, fun h => ?_⟩
  · unfold ppC ppK
    simp only [pzF, plF, psC, psK, h, if_true]
    by_cases e : mkAt cs n k = 0
    · simp [e]
    · simp [e]
  · have e := mk_none h
    unfold ppC ppK
    simp only [pzF, plF, psC, psK, h, e, if_true, Bool.false_eq_true, if_false, and_self]
def ppU : List AV → List AV := fun xs => match xs with
  | [.agg cs, .int _ n] => if mayF (ctT cs n.toNat) n.toNat = true then ppC (ctT cs n.toNat) n.toNat 64 else []
  | _ => []
def ppN : List AV → Nat := fun xs => match xs with
  | [.agg cs, .int _ n] => if mayF (ctT cs n.toNat) n.toNat = true then ppK (ctT cs n.toNat) n.toNat 64 else 0
  | _ => 0
theorem ppU_eq {cs : List AV} {n : Nat} (h : cs.length = n * 3) : ppU [.agg cs, .int .i64 (n : Int)] = (if mayF cs n = true then ppC cs n 64 else []) ∧ ppN [.agg cs, .int .i64 (n : Int)] = (if mayF cs n = true then ppK cs n 64 else 0) := by
  simp only [ppU, ppN, int_nat, ctT_all h, and_self]
def plQ (G : Nat → List AV) (k n : Nat) : List AV → Bool := stQ (okT (G k) n && mayF (G k) n) [.nils, .agg (wtF (G k) n), .int .i64 0] [some ⟨1, wtF (G k) n⟩]
def plO (G : Nat → List AV) (k n : Nat) : LOut := .one (.exit 0) [.slice true (.rw 1) (.lit 0) (.uf 1640 ppN [.agg (.ro (.var 1 k)), .int .i64 (.ofN (.var 2 n))]), .undef, .undef] [some ⟨1, .uf 1613 wtU [.agg (.ro (.var 1 k)), .int .i64 (.ofN (.var 2 n))]⟩, some ⟨3, .uf 1641 ppU [.agg (.ro (.var 1 k)), .int .i64 (.ofN (.var 2 n))]⟩]
theorem t33 (G : Nat → List AV) (k n : Nat) (Q : Ex → List AV → Hp → Prop) (R : AV → Hp → Prop) : vT G Q R (dcall (Dc Try.prog [] progK [(DLat 1642 (plQ G k n) 0 36 [6, 16, 17] (plO G k n))] 0) 300 20 Try.f33 [.slice true (.ro (.var 1 k)) (.lit 0) (.var 2 n)] [] 9) = (
    okTU [.agg (G (k)), .int .i64 (((n : Nat) : Int))] = true ∧
    cellsB (wtU [.agg (G (k)), .int .i64 (((n : Nat) : Int))]) = true ∧
    Nat.beq (List.length (wtU [.agg (G (k)), .int .i64 (((n : Nat) : Int))])) (192) = true ∧
    (mayU2 [.agg (G (k)), .int .i64 (((n : Nat) : Int))] = true →
      leB (192) (List.length (wtU [.agg (G (k)), .int .i64 (((n : Nat) : Int))])) = true ∧
      (plQ G k n) [.agg ([.nils, .agg (subL (wtU [.agg (G (k)), .int .i64 (((n : Nat) : Int))]) (0) (192)), .int .i64 (0)] : List AV), .agg ([.tup [.int .i64 (1), .agg (wtU [.agg (G (k)), .int .i64 (((n : Nat) : Int))])]] : List AV)] = true ∧
      R (.tup [.slice true (.rw 1) (0) (ppN [.agg (G (k)), .int .i64 (((n : Nat) : Int))]), .bool (true)]) [some ⟨1, (wtU [.agg (G (k)), .int .i64 (((n : Nat) : Int))])⟩, some ⟨3, (ppU [.agg (G (k)), .int .i64 (((n : Nat) : Int))])⟩]) ∧
    (mayU2 [.agg (G (k)), .int .i64 (((n : Nat) : Int))] = false →
      R (.tup [.nils, .bool (false)]) [some ⟨1, (wtU [.agg (G (k)), .int .i64 (((n : Nat) : Int))])⟩])) := by kernel_rfl
theorem plL_ok (G : Nat → List AV) (B : Nat) (k n : Nat) : DLoopOk (⟨Try.prog, G, B⟩ : Ctx) 0 (loopN Try.f33 0) (DLat 1642 (plQ G k n) 0 36 [6, 16, 17] (plO G k n)) := by
  refine DLat_ok rfl fun h => ?_
  rw [Bool.and_eq_true] at h
  obtain ⟨h, hmay⟩ := h
  obtain ⟨hl, hn, hk, ho⟩ := okT_iff.1 h
  refine AWp.nilL [.slice true (.rw 1) 0 0, .agg (wtF (G k) n), .int .i64 0] 3 (by simp) ⟨.inr ⟨rfl, rfl⟩, .inl rfl, .inl rfl, trivial⟩ ?_
  refine scan 64 (fun a => [.slice true (.rw 1) 0 (ppK (G k) n a), .agg (wtF (G k) n), .int .i64 (a : Int)]) (fun a => [some ⟨1, wtF (G k) n⟩, some ⟨3, ppC (G k) n a⟩]) fun a ha => ?_
  refine dloop_ok (C := (⟨Try.prog, G, B⟩ : Ctx)) (dgood (inl := []) (ls := []) (M := 0) (mixF G B) (by kernel_rfl) (progK_ok G B) .nil) (fuel := 300) (n0 := 20) (m := 0) (c := loopN Try.f33 0) (vs := [.slice true (.rw 1) (.lit 0) (.var 9 (ppK (G k) n a)), .agg (.var 12 (wtF (G k) n)), .int .i64 (.ofN (.var 10 a))]) (H := [some ⟨1, .var 12 (wtF (G k) n)⟩, some ⟨3, .var 11 (ppC (G k) n a)⟩]) (by simp) ?_
  rw [pl_b]
  obtain ⟨d1, d2, d3, d4, d5⟩ := pp_del (cs := G k) (n := n) (k := a)
  obtain ⟨c1, c2⟩ := ppC_len (cs := G k) (n := n) (k := a)
  obtain ⟨q1, q2⟩ := psC_len (cs := G k) (n := n) a
  obtain ⟨i1, i2, i3, i4⟩ := ints_flat (ppC_ints (cs := G k) (n := n) (k := a))
  obtain ⟨j1, _, _, _⟩ := ints_flat (ppC_ints (cs := G k) (n := n) (k := a + 1))
  have w0 := (wtF_flat (cs := G k) (n := n)).1
  have edn : dnU [.agg (ppC (G k) n a), .int .i64 (ppK (G k) n a : Int)] = psK (G k) n a := by simp only [dnU, int_nat, d2]
  have edc : dcU [.agg (ppC (G k) n a), .int .i64 (ppK (G k) n a : Int)] = dcF (ppC (G k) n a) (ppK (G k) n a) := by simp only [dcU, int_nat]
  rw [edn, edc, d4]
  refine ⟨fun h1 => ?_, fun h1 => ?_⟩
  · have h1' := of_decide_eq_true h1
    rw [wtF_row (by omega), i64_in (by omega)]
    refine ⟨decide_eq_true (by omega), h1, leB_iff.2 (by rw [wtF_len]; omega), rfl, rfl, rfl, fun h2 => ?_, fun h2 => ?_⟩
    · obtain ⟨e1, e2⟩ := pp_next.1 (show isAt (G k) n a = true from h2)
      refine ⟨okIU3_iff.2 ⟨i4 _ (by omega), by omega, i1, i3⟩, ?_, rfl, rfl, leB_iff.2 (by omega), leB_iff.2 ?_, by omega, .inr ?_⟩
      · show (decide (zxF (ppC (G k) n a) ((ppK (G k) n a : Int)).toNat = -1) || Nat.beq (zxN (ppC (G k) n a) ((ppK (G k) n a : Int)).toNat + 1) ((ppK (G k) n a : Int)).toNat) = true
        rw [int_nat]
        rcases d1 with d1 | d1
        · rw [decide_eq_true d1]; rfl
        · rw [d1, Nat.beq_refl, Bool.or_true]
      · rw [d3]
        have : psK (G k) n a ≤ ppK (G k) n a := by unfold ppK; split <;> omega
        omega
      · rw [e2]
        refine View.renM (θ := [0, 4]) (by simp) (fun i hi => by omega) (by decide) ⟨⟨bnds_mono (Nat.zero_le _) _ w0, by rw [rens_flat _ _ w0]; rfl⟩, ⟨bnds_mono (Nat.zero_le _) _ j1, by rw [rens_flat _ _ j1, e1]; rfl⟩, trivial⟩ (by simp [bnds, bnd, bnds_mono (Nat.zero_le 2) _ w0]) (by simp [rens, ren, wk, rens_flat _ _ w0])
    · obtain ⟨e1, e2⟩ := pp_next.2 (show isAt (G k) n a = false from h2)
      refine ⟨by omega, .inr ?_⟩
      rw [e1, e2]
      have m2 : ∀ {l : List AV}, bnds 0 l = true → bnds 2 l = true := fun h => bnds_mono (Nat.zero_le _) _ h
      exact View.same (H := [some ⟨1, wtF (G k) n⟩, some ⟨3, ppC (G k) n a⟩]) (by simp) (by simp [hpB, m2 w0, m2 i1]) (by simp [fv, bnd, m2 w0])
  · have h1 := of_decide_eq_false h1
    have ea : a = 64 := by omega
    subst ea
    refine ⟨rfl, .inl ⟨?_, ?_⟩⟩
    · simp only [vVs, vV, vI, vB, vN, vR, vL, wk, (ppU_eq hl).2, hmay, if_true, and_self]
    · simp only [vHp, List.map_cons, List.map_nil, Option.map_some, vBlk, vL, vVs, vV, vI, vN, wtU_eq hl, (ppU_eq hl).1, hmay, if_true]
end Go.Am
