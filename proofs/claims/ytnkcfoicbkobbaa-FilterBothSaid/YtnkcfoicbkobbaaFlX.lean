/-
  Filters: the laws, plainly: the plain filter's rows, what passes, the least packet.
-/
import Derived.Test.YtnkcfoicbkobbaaFlN
namespace Go.Am
/-! ### matching -/
def xb (x : Int) : Nat := (BitVec.ofInt 64 x).toNat
theorem kAnd_gen {x : Int} {y : Nat} (hy : y < 256) : kAnd .i64 x (y : Int) = ((xb x &&& y : Nat) : Int) := by
  unfold kAnd xb
  show IntKind.i64.wrap (((BitVec.ofInt 64 x) &&& (BitVec.ofInt 64 (y : Int))).toNat : Int) = _
  rw [bv_nat hy, BitVec.toNat_and, BitVec.toNat_ofNat, Nat.mod_eq_of_lt (by omega)]
  exact wrap_nat (Nat.lt_of_le_of_lt Nat.and_le_right hy)
/-- the packet's byte at a place -/
def pb (ps : List AV) (a : Nat) : Nat := xb (IntKind.i64.wrap (getI ps a))
theorem pasB_eq {cs ps : List AV} {n m i : Nat} (ho : okF cs n) (hi : i < n) : pasB cs ps m i = (decide ((tA cs i).toNat < m) && (pb ps (tA cs i).toNat &&& tmN cs i == tvN cs i)) := by
  have hb := okTst_iff.1 (ho i hi)
  unfold pasB
  rw [(tM_nat ho hi).1, (tV_nat ho hi).1, kAnd_gen (tM_nat ho hi).2]
  congr 1
  · rw [Bool.eq_iff_iff, decide_eq_true_iff, decide_eq_true_iff]; omega
  · rw [Bool.eq_iff_iff, beq_iff_eq, beq_iff_eq]; unfold pb; omega
theorem pas_iff {cs ps : List AV} {n m : Nat} (ho : okF cs n) : allTo (pasB cs ps m) n = true ↔ loF cs n ≤ m ∧ ∀ a, byF cs n a (pb ps a) = true := by
  rw [allTo_iff]
  constructor
  · intro h
    refine ⟨?_, fun a => byF_iff.2 fun i hi ha => ?_⟩
    · refine Nat.le_of_not_lt fun hlt => ?_
      obtain ⟨i, hi, e⟩ := loF_is (cs := cs) (n := n) (by omega)
      have := h i hi
      rw [pasB_eq ho hi, Bool.and_eq_true, decide_eq_true_iff] at this
      omega
    · have := h i hi
      rw [pasB_eq ho hi, Bool.and_eq_true, beq_iff_eq] at this
      rw [show (tA cs i).toNat = a by omega] at this
      exact this.2
  · rintro ⟨h1, h2⟩ i hi
    rw [pasB_eq ho hi, Bool.and_eq_true, decide_eq_true_iff, beq_iff_eq]
    have := loF_le (cs := cs) hi
    exact ⟨by omega, byF_iff.1 (h2 _) i hi (tA_nat ho hi)⟩
/-- just the packets with the values under the masks -/
theorem pas_mask {cs ps : List AV} {n m : Nat} (ho : okF cs n) (hm : mayF cs n = true) : allTo (pasB cs ps m) n = true ↔ loF cs n ≤ m ∧ ∀ a, pb ps a &&& mkAt cs n a = vlAt cs n a := by
  rw [pas_iff ho]
  simp only [byF_mask ho hm]
/-- what no packet passes -/
theorem pas_never {cs ps : List AV} {n m : Nat} (ho : okF cs n) (hm : mayF cs n = false) : allTo (pasB cs ps m) n = false := by
  cases e : allTo (pasB cs ps m) n with
  | false => rfl
  | true =>
    have := by_may ho fun a => ⟨_, ((pas_iff ho).1 e).2 a⟩
    rw [this] at hm; cases hm
/-! ### rows of masks and values -/
theorem vl_mk0 {cs : List AV} {n a : Nat} (ho : okF cs n) (hm : mayF cs n = true) (h : mkAt cs n a = 0) : vlAt cs n a = 0 := by
  have := (may_by ho hm a).2
  rw [h, Nat.and_zero] at this
  exact this.symm
theorem isAt_lo {cs : List AV} {n a : Nat} (ho : okF cs n) (h : isAt cs n a = true) : a < loF cs n := by
  obtain ⟨i, hi, e⟩ := isAt_iff.1 h
  have := loF_le (cs := cs) hi
  omega
theorem isAt_last {cs : List AV} {n l : Nat} (ho : okF cs n) (h : loF cs n = l + 1) : isAt cs n l = true := by
  obtain ⟨i, hi, e⟩ := loF_is (cs := cs) (n := n) (by omega)
  exact isAt_iff.2 ⟨i, hi, by have := tA_nat ho hi; omega⟩
theorem loF_le64 {cs : List AV} {n : Nat} (ho : okF cs n) : loF cs n ≤ 64 := by
  by_cases h : loF cs n = 0
  · omega
  · obtain ⟨i, hi, e⟩ := loF_is h
    have := okTst_iff.1 (ho i hi)
    omega
theorem ps_stay {cs : List AV} {n L : Nat} (h : ∀ a, L ≤ a → isAt cs n a = false) : ∀ k, L ≤ k → psC cs n k = psC cs n L ∧ psK cs n k = psK cs n L ∧ pzF cs n k = pzF cs n L ∧ plF cs n k = plF cs n L := by
  intro k hk
  induction k with
  | zero => have : L = 0 := by omega
            subst this; exact ⟨rfl, rfl, rfl, rfl⟩
  | succ k ih =>
    by_cases e : L = k + 1
    · subst e; exact ⟨rfl, rfl, rfl, rfl⟩
    · obtain ⟨h1, h2, h3, h4⟩ := ih (by omega)
      have hi := h k (by omega)
      have hm := mk_none hi
      simp only [psC, psK, pzF, plF, hm, hi, if_true, Bool.false_eq_true, if_false]
      exact ⟨h1, h2, h3, h4⟩
/-- the plain filter: the rows with masks, and the last place -/
theorem pp_form {cs : List AV} {n l : Nat} (ho : okF cs n) (h : loF cs n = l + 1) : ppC cs n 64 = psC cs n l ++ rowV cs n l ∧ ppK cs n 64 = psK cs n l + 1 := by
  have h64 := loF_le64 ho
  obtain ⟨h1, h2, h3, h4⟩ := ps_stay (cs := cs) (n := n) (L := l + 1) (fun a ha => by
    cases e : isAt cs n a with
    | false => rfl
    | true => have := isAt_lo ho e; omega) 64 (by omega)
  have hi := isAt_last ho h
  unfold ppC ppK
  rw [h1, h2, h3, h4]
  simp only [psC, psK, pzF, plF, hi, if_true]
  by_cases e : mkAt cs n l = 0
  · simp [e]
  · simp [e]
theorem pp_none {cs : List AV} {n : Nat} (ho : okF cs n) (h : loF cs n = 0) : ppC cs n 64 = [] ∧ ppK cs n 64 = 0 := by
  obtain ⟨h1, h2, h3, h4⟩ := ps_stay (cs := cs) (n := n) (L := 0) (fun a ha => by
    cases e : isAt cs n a with
    | false => rfl
    | true => have := isAt_lo ho e; omega) 64 (by omega)
  unfold ppC ppK
  rw [h1, h2, h3]
  exact ⟨rfl, rfl⟩
theorem psC_congr {cs ds : List AV} {n m : Nat} : ∀ {k : Nat}, (∀ a, a < k → mkAt cs n a = mkAt ds m a ∧ vlAt cs n a = vlAt ds m a) → psC cs n k = psC ds m k ∧ psK cs n k = psK ds m k
  | 0, _ => ⟨rfl, rfl⟩
  | k + 1, h => by
    obtain ⟨h1, h2⟩ := psC_congr (k := k) fun a ha => h a (by omega)
    obtain ⟨e1, e2⟩ := h k (by omega)
    simp only [psC, psK, rowV, h1, h2, e1, e2, and_self]
/-- the document's plain filter is the same -/
theorem rp_form {cs : List AV} {n : Nat} (ho : okF cs n) (hm : mayF cs n = true) : rpC cs n (lnF cs n) (lnF cs n) = ppC cs n 64 ∧ rpK cs n (lnF cs n) (lnF cs n) = ppK cs n 64 := by
  have hs : somF cs n = true := by rw [somF_may ho, hm]
  have hL : lnF cs n = loF cs n := by unfold lnF; rw [if_pos hs]
  rw [hL]
  cases hlo : loF cs n with
  | zero => obtain ⟨h1, h2⟩ := pp_none ho hlo; rw [h1, h2]; exact ⟨rfl, rfl⟩
  | succ l =>
    obtain ⟨h1, h2⟩ := pp_form ho hlo
    have key : ∀ j, j ≤ l → rpC cs n (l + 1) j = psC cs n j ∧ rpK cs n (l + 1) j = psK cs n j := by
      intro j hj
      induction j with
      | zero => exact ⟨rfl, rfl⟩
      | succ j ih =>
        obtain ⟨i1, i2⟩ := ih (by omega)
        have e1 : (j + 1 == l + 1) = false := beq_eq_false_iff_ne.2 (by omega)
        by_cases e : mkAt cs n j = 0
        · simp [rpC, rpK, psC, psK, inP, e, e1, i1, i2]
        · simp [rpC, rpK, psC, psK, inP, e, i1, i2, roP, rowV, lbF_may ho hm]
    obtain ⟨k1, k2⟩ := key l (Nat.le_refl _)
    rw [h1, h2]
    simp [rpC, rpK, inP, k1, k2, roP, rowV, lbF_may ho hm]
/-! ### the plain filter's tests, seen as a filter -/
theorem mkAt_pre {cs ds : List AV} : ∀ {n : Nat} (a : Nat), (∀ i, i < n → tA cs i = tA ds i ∧ tM cs i = tM ds i ∧ tV cs i = tV ds i) → mkAt cs n a = mkAt ds n a ∧ vlAt cs n a = vlAt ds n a ∧ isAt cs n a = isAt ds n a
  | 0, _, _ => ⟨rfl, rfl, rfl⟩
  | n + 1, a, h => by
    obtain ⟨h1, h2, h3⟩ := mkAt_pre (n := n) a fun i hi => h i (by omega)
    obtain ⟨e1, e2, e3⟩ := h n (by omega)
    simp only [mkAt, vlAt, isAt, tmN, tvN, h1, h2, h3, e1, e2, e3, and_self]
theorem lo_pre {cs ds : List AV} : ∀ {n : Nat}, (∀ i, i < n → tA cs i = tA ds i ∧ tM cs i = tM ds i ∧ tV cs i = tV ds i) → loF cs n = loF ds n ∧ mayF cs n = mayF ds n
  | 0, _ => ⟨rfl, rfl⟩
  | n + 1, h => by
    obtain ⟨h1, h2⟩ := lo_pre (n := n) fun i hi => h i (by omega)
    obtain ⟨e1, e2, e3⟩ := h n (by omega)
    have hp := fun a => mkAt_pre (cs := cs) (ds := ds) (n := n) a fun i hi => h i (by omega)
    have hg : goes cs n = goes ds n := by
      unfold goes
      simp only [tmN, tvN, e1, e2, e3, (hp _).1, (hp _).2.1, (hp _).2.2]
    simp only [loF, mayF, h1, h2, e1, hg, and_self]
theorem app_pre {r t : List AV} {n : Nat} (h : r.length = n * 3) : ∀ i, i < n → tA (r ++ t) i = tA r i ∧ tM (r ++ t) i = tM r i ∧ tV (r ++ t) i = tV r i := by
  intro i hi
  unfold tA tM tV getI
  rw [List.getElem?_append_left (by omega), List.getElem?_append_left (by omega), List.getElem?_append_left (by omega)]
  exact ⟨rfl, rfl, rfl⟩
theorem app_last {r : List AV} {n : Nat} {x y z : Int} (h : r.length = n * 3) : tA (r ++ [.int .i64 x, .int .i64 y, .int .i64 z]) n = x ∧ tM (r ++ [.int .i64 x, .int .i64 y, .int .i64 z]) n = y ∧ tV (r ++ [.int .i64 x, .int .i64 y, .int .i64 z]) n = z := by
  unfold tA tM tV getI
  rw [List.getElem?_append_right (by omega), List.getElem?_append_right (by omega), List.getElem?_append_right (by omega), h, Nat.sub_self, show n * 3 + 1 - n * 3 = 1 by omega, show n * 3 + 2 - n * 3 = 2 by omega]
  exact ⟨rfl, rfl, rfl⟩
/-- one row more, of a place that none names -/
theorem row_more {r : List AV} {n a x y : Nat} (h : r.length = n * 3) (hi : isAt r n a = false) : ∀ b, mkAt (r ++ [.int .i64 (a : Int), .int .i64 (x : Int), .int .i64 (y : Int)]) (n + 1) b = (if b = a then x else mkAt r n b) ∧ vlAt (r ++ [.int .i64 (a : Int), .int .i64 (x : Int), .int .i64 (y : Int)]) (n + 1) b = (if b = a then y else vlAt r n b) ∧ isAt (r ++ [.int .i64 (a : Int), .int .i64 (x : Int), .int .i64 (y : Int)]) (n + 1) b = (if b = a then true else isAt r n b) := by
  intro b
  obtain ⟨p1, p2, p3⟩ := mkAt_pre (cs := r ++ [.int .i64 (a : Int), .int .i64 (x : Int), .int .i64 (y : Int)]) (ds := r) (n := n) b (app_pre h)
  obtain ⟨l1, l2, l3⟩ := app_last (x := (a : Int)) (y := (x : Int)) (z := (y : Int)) h
  simp only [mkAt, vlAt, isAt, tmN, tvN, l1, l2, l3, p1, p2, p3, Int.toNat_natCast]
  by_cases e : b = a
  · subst e
    simp [mk_none hi, vl_none hi]
  · have e2 : ((a : Int) == (b : Int)) = false := beq_eq_false_iff_ne.2 (by omega)
    simp [e, e2]
theorem lo_more {r : List AV} {n a x y : Nat} (h : r.length = n * 3) : loF (r ++ [.int .i64 (a : Int), .int .i64 (x : Int), .int .i64 (y : Int)]) (n + 1) = if a + 1 > loF r n then a + 1 else loF r n := by
  obtain ⟨p1, p2⟩ := lo_pre (cs := r ++ [.int .i64 (a : Int), .int .i64 (x : Int), .int .i64 (y : Int)]) (ds := r) (n := n) (app_pre h)
  obtain ⟨l1, l2, l3⟩ := app_last (x := (a : Int)) (y := (x : Int)) (z := (y : Int)) h
  simp only [loF, l1, p1, Int.toNat_natCast]
theorem may_more {r : List AV} {n a x y : Nat} (h : r.length = n * 3) (hi : isAt r n a = false) (hv : y &&& x = y) : mayF (r ++ [.int .i64 (a : Int), .int .i64 (x : Int), .int .i64 (y : Int)]) (n + 1) = mayF r n := by
  obtain ⟨p1, p2⟩ := lo_pre (cs := r ++ [.int .i64 (a : Int), .int .i64 (x : Int), .int .i64 (y : Int)]) (ds := r) (n := n) (app_pre h)
  obtain ⟨q1, q2, q3⟩ := mkAt_pre (cs := r ++ [.int .i64 (a : Int), .int .i64 (x : Int), .int .i64 (y : Int)]) (ds := r) (n := n) a (app_pre h)
  obtain ⟨l1, l2, l3⟩ := app_last (x := (a : Int)) (y := (x : Int)) (z := (y : Int)) h
  simp only [mayF, goes, tmN, tvN, l1, l2, l3, p2, Int.toNat_natCast, q3, hi, hv]
  simp
theorem ps_at {cs : List AV} {n : Nat} (ho : okF cs n) (hm : mayF cs n = true) : ∀ k, (∀ a, mkAt (psC cs n k) (psK cs n k) a = (if a < k then mkAt cs n a else 0) ∧ vlAt (psC cs n k) (psK cs n k) a = (if a < k then vlAt cs n a else 0) ∧ (isAt (psC cs n k) (psK cs n k) a = true → a < k)) ∧ loF (psC cs n k) (psK cs n k) ≤ k ∧ mayF (psC cs n k) (psK cs n k) = true
  | 0 => ⟨fun a => ⟨by simp [psC, psK, mkAt], by simp [psC, psK, vlAt], by simp [psC, psK, isAt]⟩, by simp [psC, psK, loF], rfl⟩
  | k + 1 => by
    obtain ⟨i1, i2, i3⟩ := ps_at ho hm k
    have hl := (psC_len (cs := cs) (n := n) k).1
    by_cases e : mkAt cs n k = 0
    · have e' := vl_mk0 ho hm e
      simp only [psC, psK, e, if_true]
      refine ⟨fun a => ⟨?_, ?_, fun h => by have := (i1 a).2.2 h; omega⟩, by omega, i3⟩
      · rw [(i1 a).1]
        by_cases q : a = k
        · subst q; simp [e]
        · by_cases q2 : a < k
          · rw [if_pos q2, if_pos (by omega)]
          · rw [if_neg q2, if_neg (by omega)]
      · rw [(i1 a).2.1]
        by_cases q : a = k
        · subst q; simp [e']
        · by_cases q2 : a < k
          · rw [if_pos q2, if_pos (by omega)]
          · rw [if_neg q2, if_neg (by omega)]
    · have hn : isAt (psC cs n k) (psK cs n k) k = false := by
        cases q : isAt (psC cs n k) (psK cs n k) k with
        | false => rfl
        | true => have := (i1 k).2.2 q; omega
      simp only [psC, psK, e, if_false, rowV]
      refine ⟨fun a => ?_, ?_, ?_⟩
      · obtain ⟨m1, m2, m3⟩ := row_more (x := mkAt cs n k) (y := vlAt cs n k) hl hn a
        rw [m1, m2, m3]
        by_cases q : a = k
        · subst q; simp
        · simp only [q, if_false]
          rw [(i1 a).1, (i1 a).2.1]
          refine ⟨?_, ?_, fun h => by have := (i1 a).2.2 h; omega⟩
          · by_cases q2 : a < k
            · rw [if_pos q2, if_pos (by omega)]
            · rw [if_neg q2, if_neg (by omega)]
          · by_cases q2 : a < k
            · rw [if_pos q2, if_pos (by omega)]
            · rw [if_neg q2, if_neg (by omega)]
      · rw [lo_more hl]; split <;> omega
      · rw [may_more hl hn (may_by ho hm k).2]; exact i3
/-- the plain filter, seen as a filter -/
theorem pp_at {cs : List AV} {n : Nat} (ho : okF cs n) (hm : mayF cs n = true) : (∀ a, mkAt (ppC cs n 64) (ppK cs n 64) a = mkAt cs n a ∧ vlAt (ppC cs n 64) (ppK cs n 64) a = vlAt cs n a) ∧ loF (ppC cs n 64) (ppK cs n 64) = loF cs n ∧ mayF (ppC cs n 64) (ppK cs n 64) = true := by
  have hout : ∀ a, loF cs n ≤ a → mkAt cs n a = 0 ∧ vlAt cs n a = 0 := fun a ha => by
    have : isAt cs n a = false := by
      cases e : isAt cs n a with
      | false => rfl
      | true => have := isAt_lo ho e; omega
    exact ⟨mk_none this, vl_none this⟩
  cases hlo : loF cs n with
  | zero =>
    obtain ⟨h1, h2⟩ := pp_none ho hlo
    rw [h1, h2]
    refine ⟨fun a => ?_, rfl, rfl⟩
    obtain ⟨e1, e2⟩ := hout a (by omega)
    rw [e1, e2]; exact ⟨rfl, rfl⟩
  | succ l =>
    obtain ⟨h1, h2⟩ := pp_form ho hlo
    obtain ⟨i1, i2, i3⟩ := ps_at ho hm l
    have hl := (psC_len (cs := cs) (n := n) l).1
    have hn : isAt (psC cs n l) (psK cs n l) l = false := by
      cases q : isAt (psC cs n l) (psK cs n l) l with
      | false => rfl
      | true => have := (i1 l).2.2 q; omega
    rw [h1, h2]
    unfold rowV
    refine ⟨fun a => ?_, ?_, ?_⟩
    · obtain ⟨m1, m2, m3⟩ := row_more (x := mkAt cs n l) (y := vlAt cs n l) hl hn a
      rw [m1, m2]
      by_cases q : a = l
      · subst q; simp
      · simp only [q, if_false]
        rw [(i1 a).1, (i1 a).2.1]
        by_cases q2 : a < l
        · rw [if_pos q2, if_pos q2]; exact ⟨rfl, rfl⟩
        · rw [if_neg q2, if_neg q2]
          obtain ⟨e1, e2⟩ := hout a (by omega)
          rw [e1, e2]; exact ⟨rfl, rfl⟩
    · rw [lo_more hl, if_pos (by omega)]
    · rw [may_more hl hn (may_by ho hm l).2]; exact i3
/-- of filters with the same masks, values and length the plain ones are the same -/
theorem pp_congr {cs ds : List AV} {n m : Nat} (ho : okF cs n) (ho2 : okF ds m) (h : ∀ a, mkAt cs n a = mkAt ds m a ∧ vlAt cs n a = vlAt ds m a) (hl : loF cs n = loF ds m) : ppC cs n 64 = ppC ds m 64 ∧ ppK cs n 64 = ppK ds m 64 := by
  cases hlo : loF ds m with
  | zero =>
    obtain ⟨h1, h2⟩ := pp_none ho (by omega)
    obtain ⟨h3, h4⟩ := pp_none ho2 hlo
    rw [h1, h2, h3, h4]; exact ⟨rfl, rfl⟩
  | succ l =>
    obtain ⟨h1, h2⟩ := pp_form ho (l := l) (by omega)
    obtain ⟨h3, h4⟩ := pp_form ho2 hlo
    obtain ⟨e1, e2⟩ := psC_congr (cs := cs) (ds := ds) (n := n) (m := m) (k := l) fun a _ => h a
    rw [h1, h2, h3, h4, e1, e2]
    unfold rowV
    rw [(h l).1, (h l).2]
    exact ⟨rfl, rfl⟩
/-- the plain filter has no more tests -/
def cntF (p : Nat → Bool) : Nat → Nat
  | 0 => 0
  | k + 1 => cntF p k + (if p k = true then 1 else 0)
theorem cnt_or {p : Nat → Bool} {a : Nat} : ∀ k, cntF (fun b => p b || (a == b)) k ≤ cntF p k + (if a < k then 1 else 0)
  | 0 => by simp [cntF]
  | k + 1 => by
    have ih := cnt_or (p := p) (a := a) k
    simp only [cntF]
    by_cases e : a = k
    · subst e
      simp at ih ⊢
      split <;> omega
    · have e2 : (a == k) = false := beq_eq_false_iff_ne.2 e
      simp only [e2, Bool.or_false]
      by_cases h : a < k
      · rw [if_pos h] at ih; rw [if_pos (show a < k + 1 by omega)]; omega
      · rw [if_neg h] at ih; rw [if_neg (show ¬ a < k + 1 by omega)]; omega
theorem cnt_is {cs : List AV} : ∀ {n : Nat}, okF cs n → cntF (isAt cs n) 64 ≤ n
  | 0, _ => by
    have : ∀ k, cntF (fun _ => false) k = 0 := fun k => by
      induction k with
      | zero => rfl
      | succ k ih => simp [cntF, ih]
    have e : isAt cs 0 = fun _ => false := rfl
    rw [e, this]; omega
  | n + 1, h => by
    have ih := cnt_is (h.mono (Nat.le_succ _))
    have hn := tA_nat h (Nat.lt_succ_self n)
    have := cnt_or (p := isAt cs n) (a := (tA cs n).toNat) 64
    have e : (isAt cs (n + 1)) = fun b => isAt cs n b || ((tA cs n).toNat == b) := by
      funext b
      simp only [isAt]
      congr 1
      rw [Bool.eq_iff_iff, beq_iff_eq, beq_iff_eq]; omega
    rw [e]
    split at this <;> omega
theorem pp_cnt {cs : List AV} {n : Nat} : ∀ k, ppK cs n k ≤ cntF (isAt cs n) k
  | 0 => by simp [ppK, pzF, psK, cntF]
  | k + 1 => by
    have ih := pp_cnt (cs := cs) (n := n) k
    simp only [cntF]
    cases e : isAt cs n k with
    | false => rw [(pp_next.2 e).2]; simp; exact ih
    | true =>
      rw [(pp_next.1 e).2]
      have : psK cs n k ≤ ppK cs n k := by unfold ppK; split <;> omega
      simp; omega
theorem ppK_le {cs : List AV} {n : Nat} (ho : okF cs n) : ppK cs n 64 ≤ n := Nat.le_trans (pp_cnt 64) (cnt_is ho)
theorem pp_may {cs : List AV} {n : Nat} (ho : okF cs n) (h8 : ppK cs n 64 ≤ 8) : mayB (ppC cs n 64) (ppK cs n 64) = true := mayB_iff.2 ⟨h8, (okT_iff.1 (ppC_okT ho)).2.2.2⟩
/-- the same packets pass the plain filter -/
theorem pp_match {cs ps : List AV} {n m : Nat} (ho : okF cs n) (hm : mayF cs n = true) : allTo (pasB (ppC cs n 64) ps m) (ppK cs n 64) = allTo (pasB cs ps m) n := by
  have ho2 := (okT_iff.1 (ppC_okT ho)).2.2.2
  obtain ⟨h1, h2, h3⟩ := pp_at ho hm
  rw [Bool.eq_iff_iff, pas_mask ho2 h3, pas_mask ho hm, h2]
  simp only [(h1 _).1, (h1 _).2]
theorem pp_pp {cs : List AV} {n : Nat} (ho : okF cs n) (hm : mayF cs n = true) : ppC (ppC cs n 64) (ppK cs n 64) 64 = ppC cs n 64 ∧ ppK (ppC cs n 64) (ppK cs n 64) 64 = ppK cs n 64 := by
  have ho2 := (okT_iff.1 (ppC_okT ho)).2.2.2
  obtain ⟨h1, h2, h3⟩ := pp_at ho hm
  exact pp_congr ho2 ho h1 h2
/-! ### the least packet -/
theorem leW_pre {r t : List AV} {n : Nat} (h : r.length = n * 3) : ∀ {j : Nat}, j ≤ n → leW (r ++ t) j = leW r j
  | 0, _ => rfl
  | j + 1, hj => by
    obtain ⟨e1, e2, e3⟩ := app_pre (t := t) h j (by omega)
    simp only [leW, leW_pre h (j := j) (by omega), e1, e3]
def vlL (cs : List AV) (n : Nat) : Nat → List AV
  | 0 => []
  | j + 1 => vlL cs n j ++ [.int .u8 (vlAt cs n j : Int)]
theorem vlL_len {cs : List AV} {n : Nat} : ∀ j, (vlL cs n j).length = j
  | 0 => rfl
  | j + 1 => by simp [vlL, vlL_len j]
theorem leW_row {cs r : List AV} {n k x : Nat} (ho : okF cs n) (h : r.length = x * 3) (hl : (leW r x).length ≤ k) (hp : leW r x ++ zs (k - (leW r x).length) = vlL cs n k) : leW (r ++ rowV cs n k) (x + 1) = vlL cs n (k + 1) := by
  obtain ⟨l1, l2, l3⟩ := app_last (x := (k : Int)) (y := (mkAt cs n k : Int)) (z := (vlAt cs n k : Int)) h
  have hv := vlAt_lt ho k
  unfold rowV
  simp only [leW, l1, l3, Int.toNat_natCast]
  rw [leW_pre h (Nat.le_refl _), show IntKind.u8.wrap (vlAt cs n k : Int) = (vlAt cs n k : Int) from IntWalk.u8_in _ (by omega)]
  have e : leW r x ++ zs (k + 1 - (leW r x).length) = vlL cs n k ++ [.int .u8 0] := by
    rw [← hp, show k + 1 - (leW r x).length = (k - (leW r x).length) + 1 by omega]
    unfold zs
    rw [List.replicate_succ', List.append_assoc]
  rw [e]
  simp only [vlL]
  rw [List.set_append_right _ _ (by rw [vlL_len]; omega), vlL_len, Nat.sub_self]
  rfl
theorem leW_ps {cs : List AV} {n : Nat} (ho : okF cs n) (hm : mayF cs n = true) : ∀ k, (leW (psC cs n k) (psK cs n k)).length ≤ k ∧ leW (psC cs n k) (psK cs n k) ++ zs (k - (leW (psC cs n k) (psK cs n k)).length) = vlL cs n k
  | 0 => ⟨by simp [psC, psK, leW], by simp [psC, psK, leW, zs, vlL]⟩
  | k + 1 => by
    obtain ⟨h1, h2⟩ := leW_ps ho hm k
    have hl := (psC_len (cs := cs) (n := n) k).1
    by_cases e : mkAt cs n k = 0
    · simp only [psC, psK, e, if_true, vlL]
      refine ⟨by omega, ?_⟩
      rw [vl_mk0 ho hm e, ← h2, show k + 1 - (leW (psC cs n k) (psK cs n k)).length = (k - (leW (psC cs n k) (psK cs n k)).length) + 1 by omega]
      unfold zs
      rw [List.replicate_succ', List.append_assoc]
      rfl
    · simp only [psC, psK, e, if_false]
      have := leW_row ho hl h1 h2
      rw [this, vlL_len]
      exact ⟨Nat.le_refl _, by simp [zs]⟩
theorem leW_pp {cs : List AV} {n : Nat} (ho : okF cs n) (hm : mayF cs n = true) : leW (ppC cs n 64) (ppK cs n 64) = vlL cs n (loF cs n) := by
  cases hlo : loF cs n with
  | zero => obtain ⟨h1, h2⟩ := pp_none ho hlo; rw [h1, h2]; rfl
  | succ l =>
    obtain ⟨h1, h2⟩ := pp_form ho hlo
    obtain ⟨h3, h4⟩ := leW_ps ho hm l
    rw [h1, h2]
    exact leW_row ho (psC_len l).1 h3 h4
theorem lc_vl {cs : List AV} {n : Nat} (ho : okF cs n) (hm : mayF cs n = true) : lcF cs n = vlL cs n (loF cs n) ∧ lnF cs n = loF cs n := by
  have hs : somF cs n = true := by rw [somF_may ho, hm]
  have hL : lnF cs n = loF cs n := by unfold lnF; rw [if_pos hs]
  refine ⟨?_, hL⟩
  unfold lcF
  rw [hL]
  have : ∀ j, lcT cs n j = vlL cs n j := fun j => by
    induction j with
    | zero => rfl
    | succ j ih => simp only [lcT, vlL, ih, lbF_may ho hm]
  exact this _
theorem vlL_get {cs : List AV} {n a : Nat} : ∀ {j : Nat}, a < j → getI (vlL cs n j) a = (vlAt cs n a : Int)
  | j + 1, h => by
    simp only [vlL]
    unfold getI
    by_cases e : a = j
    · subst e
      rw [List.getElem?_append_right (by rw [vlL_len]; omega), vlL_len, Nat.sub_self]; rfl
    · rw [List.getElem?_append_left (by rw [vlL_len]; omega)]
      exact vlL_get (j := j) (by omega)
theorem xb_nat {x : Nat} (h : x < 256) : xb (IntKind.i64.wrap (x : Int)) = x := by
  rw [wrap_nat h]
  unfold xb
  rw [bv_nat h, BitVec.toNat_ofNat, Nat.mod_eq_of_lt (by omega)]
/-- the least packet passes -/
theorem le_pass {cs : List AV} {n : Nat} (ho : okF cs n) (hm : mayF cs n = true) : allTo (pasB cs (vlL cs n (loF cs n)) (loF cs n)) n = true := by
  refine allTo_iff.2 fun i hi => ?_
  have hl := loF_le (cs := cs) hi
  rw [pasB_eq ho hi, Bool.and_eq_true, decide_eq_true_iff, beq_iff_eq]
  refine ⟨by omega, ?_⟩
  unfold pb
  rw [vlL_get (by omega), xb_nat (vlAt_lt ho _)]
  exact (may_by ho hm _).1 i hi (tA_nat ho hi)
end Go.Am
