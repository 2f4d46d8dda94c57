/-
  Filters: the tests, plainly.
  Filters: what tests say of a byte, plainly.
-/
import Derived.Test.YthejjolnlngahaaBase4
import Derived.Test.YthejjolnlngahaaBase6
namespace Go.Am
def tA (cs : List AV) (i : Nat) : Int := getI cs (i * 3)
def tM (cs : List AV) (i : Nat) : Int := getI cs (i * 3 + 1)
def tV (cs : List AV) (i : Nat) : Int := getI cs (i * 3 + 2)
def by8 (x : Int) : Bool := decide (0 ≤ x) && decide (x ≤ 255)
def okTst (cs : List AV) (i : Nat) : Bool := (decide (0 ≤ tA cs i) && decide (tA cs i < 64)) && (by8 (tM cs i) && by8 (tV cs i))
def allTo (f : Nat → Bool) : Nat → Bool
  | 0 => true
  | n + 1 => allTo f n && f n
theorem allTo_iff {f : Nat → Bool} {n : Nat} : allTo f n = true ↔ ∀ i, i < n → f i = true := by
  induction n with
  | zero => simp [allTo]
  | succ n ih =>
    simp only [allTo, Bool.and_eq_true, ih]
    constructor
    · rintro ⟨h1, h2⟩ i hi
      by_cases h : i = n
      · subst h; exact h2
      · exact h1 i (by omega)
    · exact fun h => ⟨fun i hi => h i (by omega), h n (by omega)⟩
theorem allTo_false {f : Nat → Bool} {n i : Nat} (hi : i < n) (h : f i = false) : allTo f n = false := by
  cases e : allTo f n with
  | false => rfl
  | true => rw [allTo_iff.1 e i hi] at h; cases h
theorem allTo_congr {f g : Nat → Bool} {n : Nat} (h : ∀ i, i < n → f i = g i) : allTo f n = allTo g n := by
  induction n with
  | zero => rfl
  | succ n ih => simp only [allTo]; rw [ih fun i hi => h i (by omega), h n (by omega)]
/-- may a filter be? -/
def mayB (cs : List AV) (n : Nat) : Bool := decide (n ≤ 8) && allTo (okTst cs) n
/-- does a test let a packet by? -/
def pasB (cs : List AV) (ps : List AV) (m : Nat) (i : Nat) : Bool := decide (tA cs i < (m : Int)) && (kAnd .i64 (IntKind.i64.wrap (getI ps (tA cs i).toNat)) (tM cs i) == tV cs i)
def matchB (cs : List AV) (n : Nat) (ps : List AV) (m : Nat) : Bool := mayB cs n && (decide (m ≤ 64) && allTo (pasB cs ps m) n)
theorem shr8 (x : Int) : ((kShr .i64 x 8 : Int) == 0) = by8 x := by
  have e : kShr .i64 x 8 = x / 256 := by
    unfold kShr
    rw [Int.fdiv_eq_ediv_of_nonneg _ (by decide)]
    rfl
  rw [e]
  unfold by8
  rw [Bool.eq_iff_iff]
  simp only [beq_iff_eq, Bool.and_eq_true, decide_eq_true_eq]
  omega
theorem okTst_iff {cs : List AV} {i : Nat} : okTst cs i = true ↔ (0 ≤ tA cs i ∧ tA cs i < 64) ∧ (0 ≤ tM cs i ∧ tM cs i ≤ 255) ∧ (0 ≤ tV cs i ∧ tV cs i ≤ 255) := by
  simp only [okTst, by8, Bool.and_eq_true, decide_eq_true_eq]
theorem mayB_iff {cs : List AV} {n : Nat} : mayB cs n = true ↔ n ≤ 8 ∧ ∀ i, i < n → okTst cs i = true := by
  simp only [mayB, Bool.and_eq_true, decide_eq_true_eq, allTo_iff]
/-- only the first cells matter -/
theorem getI_take {cs : List AV} {k j : Nat} (h : j < k) : getI (cs.take k) j = getI cs j := by unfold getI; rw [List.getElem?_take, if_pos h]
theorem isI_take {t : IntKind} {cs : List AV} {k j : Nat} (h : j < k) : isI t (cs.take k) j = isI t cs j := by unfold isI; rw [List.getElem?_take, if_pos h]
theorem okI_take {t : IntKind} {cs : List AV} {k : Nat} : okI t (cs.take k) 0 k = okI t cs 0 k := by
  unfold okI
  rw [Bool.eq_iff_iff]
  simp only [List.all_eq_true, List.mem_range, Nat.zero_add]
  exact ⟨fun h j hj => by rw [← isI_take hj]; exact h j hj, fun h j hj => by rw [isI_take hj]; exact h j hj⟩
theorem okTst_take {cs : List AV} {n i : Nat} (h : i < n) : okTst (cs.take (n * 3)) i = okTst cs i := by
  unfold okTst tA tM tV; rw [getI_take (by omega), getI_take (by omega), getI_take (by omega)]
theorem mayB_take {cs : List AV} {n : Nat} : mayB (cs.take (n * 3)) n = mayB cs n := by
  unfold mayB; rw [allTo_congr fun i hi => okTst_take hi]
theorem pasB_take {cs ps : List AV} {n m i : Nat} (h : i < n) (ha : 0 ≤ tA cs i) : pasB (cs.take (n * 3)) (ps.take m) m i = pasB cs ps m i := by
  have e1 : tA (cs.take (n * 3)) i = tA cs i := getI_take (by omega)
  have e2 : tM (cs.take (n * 3)) i = tM cs i := getI_take (by omega)
  have e3 : tV (cs.take (n * 3)) i = tV cs i := getI_take (by omega)
  unfold pasB
  rw [e1, e2, e3]
  by_cases hl : tA cs i < (m : Int)
  · have e4 : getI (ps.take m) (tA cs i).toNat = getI ps (tA cs i).toNat := getI_take (by omega)
    rw [e4]
  · rw [decide_eq_false hl, Bool.false_and, Bool.false_and]
theorem matchB_take {cs ps : List AV} {n m : Nat} : matchB (cs.take (n * 3)) n (ps.take m) m = matchB cs n ps m := by
  unfold matchB
  rw [mayB_take]
  cases h : mayB cs n with
  | false => rw [Bool.false_and, Bool.false_and]
  | true =>
    rw [allTo_congr fun i hi => pasB_take hi ((okTst_iff.1 ((mayB_iff.1 h).2 i hi)).1.1)]
theorem okI_flatN {t : IntKind} {cs : List AV} {k : Nat} (h : okI t cs 0 k = true) : bnds 0 (cs.take k) = true ∧ noros (cs.take k) = true := by
  have key : ∀ v ∈ cs.take k, ∃ n, v = .int t n := by
    intro v hv
    obtain ⟨j, hj, e⟩ := List.getElem_of_mem hv
    have hj' : j < k := by rw [List.length_take] at hj; omega
    have := okI_get h (j := j) hj'
    rw [Nat.zero_add] at this
    unfold isI at this
    rw [List.getElem_take] at e
    have hjc : j < cs.length := by rw [List.length_take] at hj; omega
    rw [List.getElem?_eq_getElem hjc, e] at this
    cases v <;> simp at this
    exact ⟨_, by rw [this]⟩
  generalize cs.take k = l at key
  induction l with
  | nil => exact ⟨rfl, rfl⟩
  | cons x l ih =>
    obtain ⟨n, rfl⟩ := key x (by simp)
    obtain ⟨h1, h2⟩ := ih fun v hv => key v (by simp [hv])
    exact ⟨by simp [bnds, bnd, h1], by simp [noros, noro, h2]⟩
end Go.Am
namespace Go.Am
def tmN (cs : List AV) (i : Nat) : Nat := (tM cs i).toNat
def tvN (cs : List AV) (i : Nat) : Nat := (tV cs i).toNat
/-- is a place named by one of the first tests? -/
def isAt (cs : List AV) : Nat → Nat → Bool
  | 0, _ => false
  | n + 1, a => isAt cs n a || (tA cs n == (a : Int))
def mkAt (cs : List AV) : Nat → Nat → Nat
  | 0, _ => 0
  | n + 1, a => if (tA cs n == (a : Int)) = true then mkAt cs n a ||| tmN cs n else mkAt cs n a
def vlAt (cs : List AV) : Nat → Nat → Nat
  | 0, _ => 0
  | n + 1, a => if (tA cs n == (a : Int)) = true then vlAt cs n a ||| tvN cs n else vlAt cs n a
/-- does the test go with those ahead of it? -/
def goes (cs : List AV) (n : Nat) : Bool :=
  (tvN cs n &&& tmN cs n == tvN cs n) && (!isAt cs n (tA cs n).toNat || ((vlAt cs n (tA cs n).toNat &&& mkAt cs n (tA cs n).toNat) &&& tmN cs n == (tvN cs n &&& mkAt cs n (tA cs n).toNat) &&& tmN cs n))
def mayF (cs : List AV) : Nat → Bool
  | 0 => true
  | n + 1 => mayF cs n && goes cs n
/-- may a byte stand at a place? -/
def byF (cs : List AV) (n a b : Nat) : Bool := allTo (fun i => !(tA cs i == (a : Int)) || (b &&& tmN cs i == tvN cs i)) n
/-- how many bytes a packet has at least -/
def loF (cs : List AV) : Nat → Nat
  | 0 => 0
  | n + 1 => if (tA cs n).toNat + 1 > loF cs n then (tA cs n).toNat + 1 else loF cs n
/-- the tests of a list -/
def okF (cs : List AV) (n : Nat) : Prop := ∀ i, i < n → okTst cs i = true
theorem tA_nat {cs : List AV} {n i : Nat} (h : okF cs n) (hi : i < n) : tA cs i = ((tA cs i).toNat : Int) := by have := okTst_iff.1 (h i hi); omega
theorem tM_nat {cs : List AV} {n i : Nat} (h : okF cs n) (hi : i < n) : tM cs i = (tmN cs i : Int) ∧ tmN cs i < 256 := by have := okTst_iff.1 (h i hi); unfold tmN; omega
theorem tV_nat {cs : List AV} {n i : Nat} (h : okF cs n) (hi : i < n) : tV cs i = (tvN cs i : Int) ∧ tvN cs i < 256 := by have := okTst_iff.1 (h i hi); unfold tvN; omega
theorem okF.mono {cs : List AV} {n m : Nat} (h : okF cs n) (hm : m ≤ n) : okF cs m := fun i hi => h i (by omega)
theorem mkAt_lt {cs : List AV} : ∀ {n : Nat}, okF cs n → ∀ a, mkAt cs n a < 256
  | 0, _, a => by simp [mkAt]
  | n + 1, h, a => by
    simp only [mkAt]
    split
    · exact Nat.or_lt_two_pow (n := 8) (mkAt_lt (h.mono (Nat.le_succ _)) a) (tM_nat h (Nat.lt_succ_self _)).2
    · exact mkAt_lt (h.mono (Nat.le_succ _)) a
theorem vlAt_lt {cs : List AV} : ∀ {n : Nat}, okF cs n → ∀ a, vlAt cs n a < 256
  | 0, _, a => by simp [vlAt]
  | n + 1, h, a => by
    simp only [vlAt]
    split
    · exact Nat.or_lt_two_pow (n := 8) (vlAt_lt (h.mono (Nat.le_succ _)) a) (tV_nat h (Nat.lt_succ_self _)).2
    · exact vlAt_lt (h.mono (Nat.le_succ _)) a
/-! ### bits -/
theorem bv_nat {x : Nat} (h : x < 256) : (BitVec.ofInt 64 (x : Int)) = BitVec.ofNat 64 x := by
  apply BitVec.eq_of_toNat_eq
  simp
theorem wrap_nat {x : Nat} (h : x < 256) : IntKind.i64.wrap (x : Int) = (x : Int) := i64_in (by omega)
theorem kAnd_nat {x y : Nat} (hx : x < 256) (hy : y < 256) : kAnd .i64 (x : Int) (y : Int) = ((x &&& y : Nat) : Int) := by
  unfold kAnd
  show IntKind.i64.wrap (((BitVec.ofInt 64 (x : Int)) &&& (BitVec.ofInt 64 (y : Int))).toNat : Int) = _
  rw [bv_nat hx, bv_nat hy, BitVec.toNat_and, BitVec.toNat_ofNat, BitVec.toNat_ofNat, Nat.mod_eq_of_lt (by omega), Nat.mod_eq_of_lt (by omega)]
  exact wrap_nat (Nat.lt_of_le_of_lt Nat.and_le_left hx)
theorem kOr_nat {x y : Nat} (hx : x < 256) (hy : y < 256) : kOr .i64 (x : Int) (y : Int) = ((x ||| y : Nat) : Int) := by
  unfold kOr
  show IntKind.i64.wrap (((BitVec.ofInt 64 (x : Int)) ||| (BitVec.ofInt 64 (y : Int))).toNat : Int) = _
  rw [bv_nat hx, bv_nat hy, BitVec.toNat_or, BitVec.toNat_ofNat, BitVec.toNat_ofNat, Nat.mod_eq_of_lt (by omega), Nat.mod_eq_of_lt (by omega)]
  exact wrap_nat (Nat.or_lt_two_pow (n := 8) hx hy)
theorem kXor_nat {x y : Nat} (hx : x < 256) (hy : y < 256) : kXor .i64 (x : Int) (y : Int) = ((x ^^^ y : Nat) : Int) := by
  unfold kXor
  show IntKind.i64.wrap (((BitVec.ofInt 64 (x : Int)) ^^^ (BitVec.ofInt 64 (y : Int))).toNat : Int) = _
  rw [bv_nat hx, bv_nat hy, BitVec.toNat_xor, BitVec.toNat_ofNat, BitVec.toNat_ofNat, Nat.mod_eq_of_lt (by omega), Nat.mod_eq_of_lt (by omega)]
  exact wrap_nat (Nat.xor_lt_two_pow (n := 8) hx hy)
theorem xor_zero {x y z : Nat} : ((x ^^^ y) &&& z = 0) ↔ x &&& z = y &&& z := by
  constructor
  · intro h
    apply Nat.eq_of_testBit_eq
    intro i
    have := congrArg (fun n => n.testBit i) h
    simp only [Nat.testBit_and, Nat.testBit_xor, Nat.zero_testBit] at this ⊢
    cases hx : x.testBit i <;> cases hy : y.testBit i <;> cases hz : z.testBit i <;> simp_all
  · intro h
    apply Nat.eq_of_testBit_eq
    intro i
    have := congrArg (fun n => n.testBit i) h
    simp only [Nat.testBit_and, Nat.testBit_xor, Nat.zero_testBit] at this ⊢
    cases hx : x.testBit i <;> cases hy : y.testBit i <;> cases hz : z.testBit i <;> simp_all
theorem kAndNot_nat {x y : Nat} (hx : x < 256) (hy : y < 256) : ((kAndNot .i64 (x : Int) (y : Int) : Int) == 0) = (x &&& y == x) := by
  have e : kAndNot .i64 (x : Int) (y : Int) = ((x &&& (~~~ BitVec.ofNat 64 y).toNat : Nat) : Int) := by
    unfold kAndNot
    show IntKind.i64.wrap (((BitVec.ofInt 64 (x : Int)) &&& ~~~ (BitVec.ofInt 64 (y : Int))).toNat : Int) = _
    rw [bv_nat hx, bv_nat hy, BitVec.toNat_and, BitVec.toNat_ofNat, Nat.mod_eq_of_lt (by omega)]
    exact wrap_nat (Nat.lt_of_le_of_lt Nat.and_le_left hx)
  rw [e, Bool.eq_iff_iff, beq_iff_eq, beq_iff_eq]
  have hb : ∀ i, (~~~ BitVec.ofNat 64 y).toNat.testBit i = (decide (i < 64) && !y.testBit i) := by
    intro i
    rw [BitVec.testBit_toNat, BitVec.getLsbD_not]
    cases h : decide (i < 64)
    · simp
    · have : i < 64 := of_decide_eq_true h
      simp only [Bool.true_and]
      rw [← BitVec.testBit_toNat, BitVec.toNat_ofNat, Nat.mod_eq_of_lt (by omega)]
  have hlt : ∀ i, x.testBit i = true → i < 64 := by
    intro i hi
    have : i < 8 := by
      refine Nat.lt_of_not_le fun h8 => ?_
      have := Nat.testBit_lt_two_pow (x := x) (i := i) (Nat.lt_of_lt_of_le hx (Nat.pow_le_pow_right (n := 2) (by decide) h8))
      rw [this] at hi; cases hi
    omega
  constructor
  · intro h
    have h : x &&& (~~~ BitVec.ofNat 64 y).toNat = 0 := by omega
    apply Nat.eq_of_testBit_eq
    intro i
    have := congrArg (fun n => n.testBit i) h
    simp only [Nat.testBit_and, Nat.zero_testBit, hb] at this ⊢
    cases hxi : x.testBit i
    · simp
    · simp [hxi, hlt i hxi] at this; simp [this]
  · intro h
    have : x &&& (~~~ BitVec.ofNat 64 y).toNat = 0 := by
      apply Nat.eq_of_testBit_eq
      intro i
      have := congrArg (fun n => n.testBit i) h
      simp only [Nat.testBit_and, Nat.zero_testBit, hb] at this ⊢
      cases hxi : x.testBit i
      · simp
      · simp [hxi] at this; simp [this]
    omega
/-! ### which bytes may be -/
theorem isAt_iff {cs : List AV} {a : Nat} : ∀ {n : Nat}, isAt cs n a = true ↔ ∃ i, i < n ∧ tA cs i = (a : Int)
  | 0 => by simp [isAt]
  | n + 1 => by
    simp only [isAt, Bool.or_eq_true, isAt_iff (n := n), beq_iff_eq]
    constructor
    · rintro (⟨i, h1, h2⟩ | h)
      · exact ⟨i, by omega, h2⟩
      · exact ⟨n, by omega, h⟩
    · rintro ⟨i, h1, h2⟩
      by_cases h : i = n
      · subst h; exact .inr h2
      · exact .inl ⟨i, by omega, h2⟩
theorem byF_iff {cs : List AV} {n a b : Nat} : byF cs n a b = true ↔ ∀ i, i < n → tA cs i = (a : Int) → b &&& tmN cs i = tvN cs i := by
  simp only [byF, allTo_iff, Bool.or_eq_true, Bool.not_eq_true', beq_iff_eq, beq_eq_false_iff_ne]
  constructor
  · intro h i hi ha
    rcases h i hi with h | h
    · exact absurd ha h
    · exact h
  · intro h i hi
    by_cases ha : tA cs i = (a : Int)
    · exact .inr (h i hi ha)
    · exact .inl ha
/-- what stands at a place shows the masks' value -/
theorem by_mask {cs : List AV} {a b : Nat} : ∀ {n : Nat}, byF cs n a b = true → b &&& mkAt cs n a = vlAt cs n a
  | 0, _ => by simp [mkAt, vlAt]
  | n + 1, h => by
    have h' := byF_iff.1 h
    have ih := by_mask (n := n) (byF_iff.2 fun i hi => h' i (by omega))
    simp only [mkAt, vlAt]
    split
    · rename_i ha
      rw [Nat.and_or_distrib_left, ih, h' n (by omega) (eq_of_beq ha)]
    · exact ih
/-- bits, one by one -/
theorem bits {x y : Nat} (h : ∀ i, x.testBit i = y.testBit i) : x = y := Nat.eq_of_testBit_eq h
theorem mk_bit {cs : List AV} {a j : Nat} : ∀ {n : Nat}, (mkAt cs n a).testBit j = true ↔ ∃ i, i < n ∧ tA cs i = (a : Int) ∧ (tmN cs i).testBit j = true
  | 0 => by simp [mkAt]
  | n + 1 => by
    simp only [mkAt]
    split
    · rename_i h
      have h := eq_of_beq h
      rw [Nat.testBit_or, Bool.or_eq_true, mk_bit (n := n)]
      constructor
      · rintro (⟨i, h1, h2, h3⟩ | h1)
        · exact ⟨i, by omega, h2, h3⟩
        · exact ⟨n, by omega, h, h1⟩
      · rintro ⟨i, h1, h2, h3⟩
        by_cases e : i = n
        · subst e; exact .inr h3
        · exact .inl ⟨i, by omega, h2, h3⟩
    · rename_i h
      have h : ¬ tA cs n = (a : Int) := fun e => h (beq_iff_eq.2 e)
      rw [mk_bit (n := n)]
      constructor
      · rintro ⟨i, h1, h2, h3⟩
        exact ⟨i, by omega, h2, h3⟩
      · rintro ⟨i, h1, h2, h3⟩
        by_cases e : i = n
        · subst e; exact absurd h2 h
        · exact ⟨i, by omega, h2, h3⟩
theorem vl_bit {cs : List AV} {a j : Nat} : ∀ {n : Nat}, (vlAt cs n a).testBit j = true ↔ ∃ i, i < n ∧ tA cs i = (a : Int) ∧ (tvN cs i).testBit j = true
  | 0 => by simp [vlAt]
  | n + 1 => by
    simp only [vlAt]
    split
    · rename_i h
      have h := eq_of_beq h
      rw [Nat.testBit_or, Bool.or_eq_true, vl_bit (n := n)]
      constructor
      · rintro (⟨i, h1, h2, h3⟩ | h1)
        · exact ⟨i, by omega, h2, h3⟩
        · exact ⟨n, by omega, h, h1⟩
      · rintro ⟨i, h1, h2, h3⟩
        by_cases e : i = n
        · subst e; exact .inr h3
        · exact .inl ⟨i, by omega, h2, h3⟩
    · rename_i h
      have h : ¬ tA cs n = (a : Int) := fun e => h (beq_iff_eq.2 e)
      rw [vl_bit (n := n)]
      constructor
      · rintro ⟨i, h1, h2, h3⟩
        exact ⟨i, by omega, h2, h3⟩
      · rintro ⟨i, h1, h2, h3⟩
        by_cases e : i = n
        · subst e; exact absurd h2 h
        · exact ⟨i, by omega, h2, h3⟩
theorem mk_none {cs : List AV} {a n : Nat} (h : isAt cs n a = false) : mkAt cs n a = 0 := by
  apply bits
  intro j
  rw [Nat.zero_testBit]
  cases e : (mkAt cs n a).testBit j with
  | false => rfl
  | true =>
    obtain ⟨i, h1, h2, _⟩ := mk_bit.1 e
    rw [isAt_iff.2 ⟨i, h1, h2⟩] at h; cases h
theorem vl_none {cs : List AV} {a n : Nat} (h : isAt cs n a = false) : vlAt cs n a = 0 := by
  apply bits
  intro j
  rw [Nat.zero_testBit]
  cases e : (vlAt cs n a).testBit j with
  | false => rfl
  | true =>
    obtain ⟨i, h1, h2, _⟩ := vl_bit.1 e
    rw [isAt_iff.2 ⟨i, h1, h2⟩] at h; cases h
theorem may_by {cs : List AV} : ∀ {n : Nat}, okF cs n → mayF cs n = true → ∀ a : Nat, (∀ i, i < n → tA cs i = (a : Int) → vlAt cs n a &&& tmN cs i = tvN cs i) ∧ vlAt cs n a &&& mkAt cs n a = vlAt cs n a
  | 0, _, _, a => by simp [vlAt]
  | n + 1, hk, h, a => by
    simp only [mayF, Bool.and_eq_true] at h
    obtain ⟨h1, h2⟩ := h
    obtain ⟨i1, i2⟩ := may_by (hk.mono (Nat.le_succ _)) h1 a
    simp only [goes, Bool.and_eq_true, Bool.or_eq_true, Bool.not_eq_true', beq_iff_eq] at h2
    obtain ⟨g1, g2⟩ := h2
    have hnat := tA_nat hk (Nat.lt_succ_self n)
    simp only [mkAt, vlAt]
    by_cases ha : tA cs n = (a : Int)
    · have ea : (tA cs n).toNat = a := by omega
      rw [ea] at g2
      have hb : (tA cs n == (a : Int)) = true := beq_iff_eq.2 ha
      simp only [hb, if_true]
      -- the two go together where both speak
      have g3 : ∀ j, (mkAt cs n a).testBit j = true → (tmN cs n).testBit j = true → (vlAt cs n a).testBit j = (tvN cs n).testBit j := by
        intro j q1 q2
        rcases g2 with g2 | g2
        · have hm : mkAt cs n a = 0 := mk_none g2
          rw [hm] at q1; simp at q1
        · have := congrArg (fun x => x.testBit j) g2
          simpa [Nat.testBit_and, q1, q2] using this
      have v1 : ∀ j, (vlAt cs n a).testBit j = true → (mkAt cs n a).testBit j = true := by
        intro j q
        have := congrArg (fun x => x.testBit j) i2
        simp only [Nat.testBit_and, q, Bool.true_and] at this
        exact this
      have v2 : ∀ j, (tvN cs n).testBit j = true → (tmN cs n).testBit j = true := by
        intro j q
        have := congrArg (fun x => x.testBit j) g1
        simp only [Nat.testBit_and, q, Bool.true_and] at this
        exact this
      refine ⟨fun i hi hai => ?_, ?_⟩
      · by_cases e : i = n
        · subst e
          apply bits
          intro j
          simp only [Nat.testBit_and, Nat.testBit_or]
          have a1 := g3 j; have a2 := v1 j; have a3 := v2 j
          revert a1 a2 a3
          cases (vlAt cs i a).testBit j <;> cases (tvN cs i).testBit j <;> cases (tmN cs i).testBit j <;> cases (mkAt cs i a).testBit j <;> simp
        · have q := i1 i (by omega) hai
          have q' : ∀ j, ((vlAt cs n a).testBit j && (tmN cs i).testBit j) = (tvN cs i).testBit j := by
            intro j; have := congrArg (fun x => x.testBit j) q; simpa [Nat.testBit_and] using this
          have m' : ∀ j, (tmN cs i).testBit j = true → (mkAt cs n a).testBit j = true := fun j q => mk_bit.2 ⟨i, by omega, hai, q⟩
          apply bits
          intro j
          simp only [Nat.testBit_and, Nat.testBit_or]
          have a1 := g3 j; have a2 := v1 j; have a3 := v2 j; have a4 := q' j; have a5 := m' j
          revert a1 a2 a3 a4 a5
          cases (vlAt cs n a).testBit j <;> cases (tvN cs n).testBit j <;> cases (tmN cs n).testBit j <;> cases (mkAt cs n a).testBit j <;> cases (tmN cs i).testBit j <;> cases (tvN cs i).testBit j <;> simp
      · apply bits
        intro j
        simp only [Nat.testBit_and, Nat.testBit_or]
        have a1 := g3 j; have a2 := v1 j; have a3 := v2 j
        revert a1 a2 a3
        cases (vlAt cs n a).testBit j <;> cases (tvN cs n).testBit j <;> cases (tmN cs n).testBit j <;> cases (mkAt cs n a).testBit j <;> simp
    · have hb : (tA cs n == (a : Int)) = false := beq_eq_false_iff_ne.2 ha
      simp only [hb, Bool.false_eq_true, if_false]
      refine ⟨fun i hi hai => ?_, i2⟩
      by_cases e : i = n
      · subst e; exact absurd hai ha
      · exact i1 i (by omega) hai
/-- ... and if some byte may be at each place, the tests go together -/
theorem by_may {cs : List AV} : ∀ {n : Nat}, okF cs n → (∀ a : Nat, ∃ b, byF cs n a b = true) → mayF cs n = true
  | 0, _, _ => rfl
  | n + 1, hk, h => by
    simp only [mayF, Bool.and_eq_true]
    refine ⟨by_may (hk.mono (Nat.le_succ _)) fun a => ?_, ?_⟩
    · obtain ⟨b, hb⟩ := h a
      exact ⟨b, byF_iff.2 fun i hi => byF_iff.1 hb i (by omega)⟩
    · obtain ⟨b, hb⟩ := h (tA cs n).toNat
      have hn := tA_nat hk (Nat.lt_succ_self n)
      have e1 := byF_iff.1 hb n (by omega) hn
      have e2 := by_mask (n := n) (byF_iff.2 fun i hi => byF_iff.1 hb i (by omega))
      simp only [goes, Bool.and_eq_true, Bool.or_eq_true, Bool.not_eq_true', beq_iff_eq]
      generalize mkAt cs n (tA cs n).toNat = M at *
      generalize vlAt cs n (tA cs n).toNat = V at *
      generalize tmN cs n = m at *
      generalize tvN cs n = v at *
      subst e1 e2
      refine ⟨?_, .inr ?_⟩
      · apply bits; intro j; simp only [Nat.testBit_and]; cases b.testBit j <;> cases m.testBit j <;> rfl
      · apply bits; intro j; simp only [Nat.testBit_and]; cases b.testBit j <;> cases m.testBit j <;> cases M.testBit j <;> rfl
theorem may_byF {cs : List AV} {n : Nat} (hk : okF cs n) (h : mayF cs n = true) (a : Nat) : byF cs n a (vlAt cs n a) = true := byF_iff.2 (may_by hk h a).1
/-- under tests that go together: just the bytes with the value under the mask -/
theorem byF_mask {cs : List AV} {n : Nat} (hk : okF cs n) (h : mayF cs n = true) (a b : Nat) : byF cs n a b = true ↔ b &&& mkAt cs n a = vlAt cs n a := by
  refine ⟨by_mask, fun hb => byF_iff.2 fun i hi hai => ?_⟩
  have q := (may_by hk h a).1 i hi hai
  have hb' : ∀ j, (b.testBit j && (mkAt cs n a).testBit j) = (vlAt cs n a).testBit j := by intro j; have := congrArg (fun x => x.testBit j) hb; simpa [Nat.testBit_and] using this
  have q' : ∀ j, ((vlAt cs n a).testBit j && (tmN cs i).testBit j) = (tvN cs i).testBit j := by intro j; have := congrArg (fun x => x.testBit j) q; simpa [Nat.testBit_and] using this
  have m' : ∀ j, (tmN cs i).testBit j = true → (mkAt cs n a).testBit j = true := fun j q => mk_bit.2 ⟨i, hi, hai, q⟩
  apply bits
  intro j
  simp only [Nat.testBit_and]
  have a1 := hb' j; have a2 := q' j; have a3 := m' j
  revert a1 a2 a3
  cases (vlAt cs n a).testBit j <;> cases b.testBit j <;> cases (mkAt cs n a).testBit j <;> cases (tmN cs i).testBit j <;> cases (tvN cs i).testBit j <;> simp
/-- the first number below k with a property; k: none -/
def fstF (p : Nat → Bool) : Nat → Nat
  | 0 => 0
  | k + 1 => if fstF p k < k then fstF p k else if p k = true then k else k + 1
theorem fstF_spec {p : Nat → Bool} : ∀ {k : Nat}, fstF p k ≤ k ∧ (fstF p k < k → p (fstF p k) = true) ∧ ∀ j, j < fstF p k → p j = false
  | 0 => by simp [fstF]
  | k + 1 => by
    obtain ⟨h1, h2, h3⟩ := fstF_spec (p := p) (k := k)
    simp only [fstF]
    split
    · rename_i h; exact ⟨by omega, fun _ => h2 h, h3⟩
    · have : fstF p k = k := by omega
      rw [this] at h3
      split
      · rename_i hp; exact ⟨by omega, fun _ => hp, h3⟩
      · rename_i hp
        refine ⟨by omega, fun h => by omega, fun j hj => ?_⟩
        by_cases e : j = k
        · subst e; simpa using hp
        · exact h3 j (by omega)
theorem fstF_eq {p : Nat → Bool} {k b : Nat} (hb : b < k) (h : p b = true) (h' : ∀ j, j < b → p j = false) : fstF p k = b := by
  obtain ⟨h1, h2, h3⟩ := fstF_spec (p := p) (k := k)
  have a1 : ¬ b < fstF p k := fun q => by rw [h3 b q] at h; cases h
  have a2 : ¬ fstF p k < b := fun q => by have := h' _ q; rw [h2 (by omega)] at this; cases this
  omega
/-- the least byte at a place -/
def lbF (cs : List AV) (n a : Nat) : Nat := fstF (byF cs n a) 256
theorem lbF_may {cs : List AV} {n : Nat} (hk : okF cs n) (h : mayF cs n = true) (a : Nat) : lbF cs n a = vlAt cs n a := by
  refine fstF_eq (vlAt_lt hk a) (may_byF hk h a) fun j hj => ?_
  cases e : byF cs n a j with
  | false => rfl
  | true =>
    have := by_mask e
    have := Nat.and_le_left (n := j) (m := mkAt cs n a)
    omega
/-- is there a packet? -/
def somF (cs : List AV) (n : Nat) : Bool := allTo (fun a => decide (lbF cs n a < 256)) (loF cs n)
theorem loF_le {cs : List AV} : ∀ {n i : Nat}, i < n → (tA cs i).toNat + 1 ≤ loF cs n
  | n + 1, i, h => by
    simp only [loF]
    by_cases e : i = n
    · subst e; split <;> omega
    · have := loF_le (cs := cs) (n := n) (i := i) (by omega)
      split <;> omega
theorem loF_is {cs : List AV} : ∀ {n : Nat}, loF cs n ≠ 0 → ∃ i, i < n ∧ (tA cs i).toNat + 1 = loF cs n
  | 0, h => by simp [loF] at h
  | n + 1, h => by
    simp only [loF] at h ⊢
    split
    · exact ⟨n, by omega, rfl⟩
    · rename_i hn
      simp only [hn, if_false] at h
      obtain ⟨i, h1, h2⟩ := loF_is h
      exact ⟨i, by omega, h2⟩
theorem somF_may {cs : List AV} {n : Nat} (hk : okF cs n) : somF cs n = mayF cs n := by
  rw [Bool.eq_iff_iff]
  constructor
  · intro h
    refine by_may hk fun a => ?_
    by_cases ha : a < loF cs n
    · have := of_decide_eq_true (allTo_iff.1 h a ha)
      exact ⟨_, fstF_spec.2.1 this⟩
    · refine ⟨0, byF_iff.2 fun i hi hai => ?_⟩
      have := loF_le (cs := cs) hi
      omega
  · intro h
    refine allTo_iff.2 fun a _ => decide_eq_true ?_
    rw [lbF_may hk h]
    exact vlAt_lt hk a
end Go.Am
