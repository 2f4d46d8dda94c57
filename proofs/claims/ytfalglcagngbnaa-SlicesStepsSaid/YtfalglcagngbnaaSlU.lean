/-
  The table of slots as cells: [made, 32 × open, 32 × (number, account, gift, picks, runs, last, gap), ticks].
-/
import Derived.Test.YtfalglcagngbnaaBase6
namespace Go.Am

/-- the cells of a table that is there -/
def okS (cs : List AV) : Bool :=
  Nat.beq cs.length 258 && (isB cs 0 && (getB cs 0 && ((List.range 32).all (fun i => isB cs (i + 1)) && ((List.range 224).all (fun k => isI .i64 cs (k + 33)) && isI .i64 cs 257))))
theorem okS_iff {cs : List AV} : okS cs = true ↔ cs.length = 258 ∧ isB cs 0 = true ∧ getB cs 0 = true ∧ (∀ i, i < 32 → isB cs (i + 1) = true) ∧ (∀ k, k < 224 → isI .i64 cs (k + 33) = true) ∧ isI .i64 cs 257 = true := by
  unfold okS
  have e : Nat.beq cs.length 258 = true ↔ cs.length = 258 := ⟨Nat.eq_of_beq_eq_true, fun h => by rw [h]; rfl⟩
  simp only [Bool.and_eq_true, e, List.all_eq_true, List.mem_range]
section
variable {cs : List AV} (h : okS cs = true)
include h
theorem okS_len : cs.length = 258 := (okS_iff.1 h).1
theorem okS_0 : isB cs 0 = true := (okS_iff.1 h).2.1
theorem okS_made : getB cs 0 = true := (okS_iff.1 h).2.2.1
theorem okS_open {i : Nat} (hi : i < 32) : isB cs (i + 1) = true := (okS_iff.1 h).2.2.2.1 i hi
theorem okS_fld {k : Nat} (hk : k < 224) : isI .i64 cs (k + 33) = true := (okS_iff.1 h).2.2.2.2.1 k hk
theorem okS_tick : isI .i64 cs 257 = true := (okS_iff.1 h).2.2.2.2.2
end

theorem isB_set {cs : List AV} {i j : Nat} {v : AV} (hj : j < cs.length) : isB (cs.set j v) i = if i = j then (match v with | .bool _ => true | _ => false) else isB cs i := by
  unfold isB
  rw [List.getElem?_set]
  by_cases hij : i = j
  · subst hij; rw [if_pos rfl, if_pos hj, if_pos rfl]; cases v <;> rfl
  · rw [if_neg (fun e => hij e.symm), if_neg hij]
theorem getB_set {cs : List AV} {i j : Nat} {v : AV} (hj : j < cs.length) : getB (cs.set j v) i = if i = j then (match v with | .bool b => b | _ => false) else getB cs i := by
  unfold getB
  rw [List.getElem?_set]
  by_cases hij : i = j
  · subst hij; rw [if_pos rfl, if_pos hj, if_pos rfl]; cases v <;> rfl
  · rw [if_neg (fun e => hij e.symm), if_neg hij]
theorem isI_set {k : IntKind} {cs : List AV} {i j : Nat} {v : AV} (hj : j < cs.length) : isI k (cs.set j v) i = if i = j then isI k [v] 0 else isI k cs i := by
  unfold isI
  rw [List.getElem?_set]
  by_cases hij : i = j
  · subst hij; rw [if_pos rfl, if_pos hj, if_pos rfl]; rfl
  · rw [if_neg (fun e => hij e.symm), if_neg hij]
theorem getI_set {cs : List AV} {i j : Nat} {v : AV} (hj : j < cs.length) : getI (cs.set j v) i = if i = j then getI [v] 0 else getI cs i := by
  unfold getI
  rw [List.getElem?_set]
  by_cases hij : i = j
  · subst hij; rw [if_pos rfl, if_pos hj, if_pos rfl]; rfl
  · rw [if_neg (fun e => hij e.symm), if_neg hij]

theorem okS_setB {cs : List AV} (h : okS cs = true) {i : Nat} (hi : i < 32) (b : Bool) : okS (cs.set (i + 1) (.bool b)) = true := by
  have hl := okS_len h
  refine okS_iff.2 ⟨by simp [hl], ?_, ?_, fun j hj => ?_, fun k hk => ?_, ?_⟩
  · rw [isB_set (by omega), if_neg (by omega)]; exact okS_0 h
  · rw [getB_set (by omega), if_neg (by omega)]; exact okS_made h
  · rw [isB_set (by omega)]; split
    · rfl
    · exact okS_open h hj
  · rw [isI_set (by omega), if_neg (by omega)]; exact okS_fld h hk
  · rw [isI_set (by omega), if_neg (by omega)]; exact okS_tick h
theorem okS_setI {cs : List AV} (h : okS cs = true) {k : Nat} (hk : k < 225) (x : Int) : okS (cs.set (k + 33) (.int .i64 x)) = true := by
  have hl := okS_len h
  refine okS_iff.2 ⟨by simp [hl], ?_, ?_, fun j hj => ?_, fun k' hk' => ?_, ?_⟩
  · rw [isB_set (by omega), if_neg (by omega)]; exact okS_0 h
  · rw [getB_set (by omega), if_neg (by omega)]; exact okS_made h
  · rw [isB_set (by omega), if_neg (by omega)]; exact okS_open h hj
  · rw [isI_set (by omega)]; split
    · rfl
    · exact okS_fld h hk'
  · rw [isI_set (by omega)]; split
    · rfl
    · exact okS_tick h
theorem okS_flat {cs : List AV} (h : okS cs = true) (n : Nat) : bnds n cs = true := by
  rw [bnds_eq, List.all_eq_true]
  intro v hv
  obtain ⟨i, hi⟩ := List.getElem?_of_mem hv
  have hl : i < 258 := by rw [← okS_len h]; exact (List.getElem?_eq_some_iff.1 hi).1
  have key : isB cs i = true ∨ isI .i64 cs i = true := by
    by_cases h0 : i = 0
    · subst h0; exact .inl (okS_0 h)
    · by_cases h1 : i < 33
      · have := okS_open h (i := i - 1) (by omega)
        rw [show i - 1 + 1 = i by omega] at this; exact .inl this
      · by_cases h2 : i = 257
        · subst h2; exact .inr (okS_tick h)
        · have := okS_fld h (k := i - 33) (by omega)
          rw [show i - 33 + 33 = i by omega] at this; exact .inr this
  unfold isB isI at key
  rw [hi] at key
  cases v <;> simp [bnd] at key ⊢

/-- is a slot open? -/
def isO (cs : List AV) (n : Int) : Bool := decide (0 ≤ n) && (decide (n < 32) && getB cs (n.toNat + 1))
/-- the lowest free slot, from i on -/
def freeF (cs : List AV) : Nat → Nat → Nat
  | 0, i => i
  | k + 1, i => if getB cs (i + 1) then freeF cs k (i + 1) else i
def oN (cs : List AV) : Nat := freeF cs 32 0
end Go.Am
