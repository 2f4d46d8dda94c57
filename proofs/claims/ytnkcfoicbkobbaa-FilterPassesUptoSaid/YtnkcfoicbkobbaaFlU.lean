/-
  Filters: the tests, plainly.
-/
import Derived.Test.YtnkcfoicbkobbaaBase4
namespace Go.Am
def tA (cs : List AV) (i : Nat) : Int := getI cs (i * 3)
def tM (cs : List AV) (i : Nat) : Int := getI cs (i * 3 + 1)
def tV (cs : List AV) (i : Nat) : Int := getI cs (i * 3 + 2)
def by8 (x : Int) : Bool := decide (0 ≤ x) && decide (x ≤ 255)
def okTst (cs : List AV) (i : Nat) : Bool := (decide (0 ≤ tA cs i) && decide (tA cs i < 64)) && (by8 (tM cs i) && by8 (tV cs i))
def allTo (f : Nat → Bool) : Nat → Bool
  | 0 => true
  | n + 1 => allTo f n && f n
theorem allTo_iff {f : Nat → Bool} {n : Nat} : allTo f n = true ↔ ∀ i, i < n → f i = true := by
  induction n with
  | zero => simp [allTo]
  | succ n ih =>
    simp only [allTo, Bool.and_eq_true, ih]
    constructor
    · rintro ⟨h1, h2⟩ i hi
      by_cases h : i = n
      · subst h; exact h2
      · exact h1 i (by omega)
    · exact fun h => ⟨fun i hi => h i (by omega), h n (by omega)⟩
theorem allTo_false {f : Nat → Bool} {n i : Nat} (hi : i < n) (h : f i = false) : allTo f n = false := by
  cases e : allTo f n with
  | false => rfl
  | true => rw [allTo_iff.1 e i hi] at h; cases h
theorem allTo_congr {f g : Nat → Bool} {n : Nat} (h : ∀ i, i < n → f i = g i) : allTo f n = allTo g n := by
  induction n with
  | zero => rfl
  | succ n ih => simp only [allTo]; rw [ih fun i hi => h i (by omega), h n (by omega)]
/-- may a filter be? -/
def mayB (cs : List AV) (n : Nat) : Bool := decide (n ≤ 8) && allTo (okTst cs) n
/-- does a test let a packet by? -/
def pasB (cs : List AV) (ps : List AV) (m : Nat) (i : Nat) : Bool := decide (tA cs i < (m : Int)) && (kAnd .i64 (IntKind.i64.wrap (getI ps (tA cs i).toNat)) (tM cs i) == tV cs i)
def matchB (cs : List AV) (n : Nat) (ps : List AV) (m : Nat) : Bool := mayB cs n && (decide (m ≤ 64) && allTo (pasB cs ps m) n)
theorem shr8 (x : Int) : ((kShr .i64 x 8 : Int) == 0) = by8 x := by
  have e : kShr .i64 x 8 = x / 256 := by
    unfold kShr
    rw [Int.fdiv_eq_ediv_of_nonneg _ (by decide)]
    rfl
  rw [e]
  unfold by8
  rw [Bool.eq_iff_iff]
  simp only [beq_iff_eq, Bool.and_eq_true, decide_eq_true_eq]
  omega
theorem okTst_iff {cs : List AV} {i : Nat} : okTst cs i = true ↔ (0 ≤ tA cs i ∧ tA cs i < 64) ∧ (0 ≤ tM cs i ∧ tM cs i ≤ 255) ∧ (0 ≤ tV cs i ∧ tV cs i ≤ 255) := by
  simp only [okTst, by8, Bool.and_eq_true, decide_eq_true_eq]
theorem mayB_iff {cs : List AV} {n : Nat} : mayB cs n = true ↔ n ≤ 8 ∧ ∀ i, i < n → okTst cs i = true := by
  simp only [mayB, Bool.and_eq_true, decide_eq_true_eq, allTo_iff]
/-- only the first cells matter -/
theorem getI_take {cs : List AV} {k j : Nat} (h : j < k) : getI (cs.take k) j = getI cs j := by unfold getI; rw [List.getElem?_take, if_pos h]
theorem isI_take {t : IntKind} {cs : List AV} {k j : Nat} (h : j < k) : isI t (cs.take k) j = isI t cs j := by unfold isI; rw [List.getElem?_take, if_pos h]
theorem okI_take {t : IntKind} {cs : List AV} {k : Nat} : okI t (cs.take k) 0 k = okI t cs 0 k := by
  unfold okI
  rw [Bool.eq_iff_iff]
  simp only [List.all_eq_true, List.mem_range, Nat.zero_add]
  exact ⟨fun h j hj => by rw [← isI_take hj]; exact h j hj, fun h j hj => by rw [isI_take hj]; exact h j hj⟩
theorem okTst_take {cs : List AV} {n i : Nat} (h : i < n) : okTst (cs.take (n * 3)) i = okTst cs i := by
  unfold okTst tA tM tV; rw [getI_take (by omega), getI_take (by omega), getI_take (by omega)]
theorem mayB_take {cs : List AV} {n : Nat} : mayB (cs.take (n * 3)) n = mayB cs n := by
  unfold mayB; rw [allTo_congr fun i hi => okTst_take hi]
theorem pasB_take {cs ps : List AV} {n m i : Nat} (h : i < n) (ha : 0 ≤ tA cs i) : pasB (cs.take (n * 3)) (ps.take m) m i = pasB cs ps m i := by
  have e1 : tA (cs.take (n * 3)) i = tA cs i := getI_take (by omega)
  have e2 : tM (cs.take (n * 3)) i = tM cs i := getI_take (by omega)
  have e3 : tV (cs.take (n * 3)) i = tV cs i := getI_take (by omega)
  unfold pasB
  rw [e1, e2, e3]
  by_cases hl : tA cs i < (m : Int)
  · have e4 : getI (ps.take m) (tA cs i).toNat = getI ps (tA cs i).toNat := getI_take (by omega)
    rw [e4]
  · rw [decide_eq_false hl, Bool.false_and, Bool.false_and]
theorem matchB_take {cs ps : List AV} {n m : Nat} : matchB (cs.take (n * 3)) n (ps.take m) m = matchB cs n ps m := by
  unfold matchB
  rw [mayB_take]
  cases h : mayB cs n with
  | false => rw [Bool.false_and, Bool.false_and]
  | true =>
    rw [allTo_congr fun i hi => pasB_take hi ((okTst_iff.1 ((mayB_iff.1 h).2 i hi)).1.1)]
theorem okI_flatN {t : IntKind} {cs : List AV} {k : Nat} (h : okI t cs 0 k = true) : bnds 0 (cs.take k) = true ∧ noros (cs.take k) = true := by
  have key : ∀ v ∈ cs.take k, ∃ n, v = .int t n := by
    intro v hv
    obtain ⟨j, hj, e⟩ := List.getElem_of_mem hv
    have hj' : j < k := by rw [List.length_take] at hj; omega
    have := okI_get h (j := j) hj'
    rw [Nat.zero_add] at this
    unfold isI at this
    rw [List.getElem_take] at e
    have hjc : j < cs.length := by rw [List.length_take] at hj; omega
    rw [List.getElem?_eq_getElem hjc, e] at this
    cases v <;> simp at this
    exact ⟨_, by rw [this]⟩
  generalize cs.take k = l at key
  induction l with
  | nil => exact ⟨rfl, rfl⟩
  | cons x l ih =>
    obtain ⟨n, rfl⟩ := key x (by simp)
    obtain ⟨h1, h2⟩ := ih fun v hv => key v (by simp [hv])
    exact ⟨by simp [bnds, bnd, h1], by simp [noros, noro, h2]⟩
end Go.Am
