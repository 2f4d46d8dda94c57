/-
  The document's cells of a set: read, written, bit by bit.
-/
import Derived.Test.YtopenjkaifbnmaaSgC
namespace Go.Am
open Crc

def encF (f g : Nat → Bool) (h : Nat → W) : List AV := ((List.range 16).map fun i => .bool (f i)) ++ (((List.range 16).map fun i => .bool (g i)) ++ ((List.range 16).map fun i => .int .u32 (u (h i))))
theorem encR_F (p : Sg) : encR p = encF (fun i => p.wt.getLsbD i) (fun i => p.hd.getLsbD i) p.at_ := rfl
theorem mapR_get {α : Type} (f : Nat → α) {i : Nat} (h : i < 16) : ((List.range 16).map f)[i]? = some (f i) := by simp [h]
theorem mapR_len {α : Type} (f : Nat → α) : ((List.range 16).map f).length = 16 := by simp
theorem encF_length (f g : Nat → Bool) (h : Nat → W) : (encF f g h).length = 48 := by simp [encF]
theorem encF_congr {f f' g g' : Nat → Bool} {h h' : Nat → W} (h1 : ∀ i, i < 16 → f i = f' i) (h2 : ∀ i, i < 16 → g i = g' i) (h3 : ∀ i, i < 16 → h i = h' i) : encF f g h = encF f' g' h' := by
  unfold encF
  rw [List.map_congr_left fun i hi => by rw [h1 i (List.mem_range.1 hi)], List.map_congr_left (f := fun i => AV.bool (g i)) fun i hi => by rw [h2 i (List.mem_range.1 hi)], List.map_congr_left (f := fun i => AV.int .u32 (u (h i))) fun i hi => by rw [h3 i (List.mem_range.1 hi)]]
def updB (f : Nat → Bool) (i : Nat) (b : Bool) : Nat → Bool := fun j => if j = i then b else f j
theorem mapR_set {α : Type} (f g : Nat → α) {i : Nat} (hi : i < 16) (x : α) (h : ∀ j, j < 16 → g j = if j = i then x else f j) : ((List.range 16).map f).set i x = (List.range 16).map g := by
  apply List.ext_getElem?
  intro j
  rw [List.getElem?_set, mapR_len]
  by_cases hj : j < 16
  · rw [mapR_get _ hj, mapR_get _ hj, h j hj]
    by_cases he : i = j
    · subst he; simp [hi]
    · rw [if_neg he, if_neg (fun h => he h.symm)]
  · rw [List.getElem?_eq_none (by rw [mapR_len]; omega), List.getElem?_eq_none (by rw [mapR_len]; omega), if_neg (by omega)]
theorem encF_setW (f g : Nat → Bool) (h : Nat → W) {i : Nat} (hi : i < 16) (b : Bool) : (encF f g h).set i (.bool b) = encF (updB f i b) g h := by
  unfold encF
  rw [List.set_append_left _ _ (by rw [mapR_len]; exact hi), mapR_set _ (fun j => AV.bool (updB f i b j)) hi]
  intro j _; unfold updB; split <;> rfl
theorem encF_setH (f g : Nat → Bool) (h : Nat → W) {i : Nat} (hi : i < 16) (b : Bool) : (encF f g h).set (i + 16) (.bool b) = encF f (updB g i b) h := by
  unfold encF
  rw [List.set_append_right _ _ (by rw [mapR_len]; omega), mapR_len, Nat.add_sub_cancel, List.set_append_left _ _ (by rw [mapR_len]; exact hi), mapR_set _ (fun j => AV.bool (updB g i b j)) hi]
  intro j _; unfold updB; split <;> rfl
theorem encF_setA (f g : Nat → Bool) (h : Nat → W) {i : Nat} (hi : i < 16) (x : W) : (encF f g h).set (i + 32) (.int .u32 (u x)) = encF f g (fun j => if j = i then x else h j) := by
  unfold encF
  rw [List.set_append_right _ _ (by rw [mapR_len]; omega), mapR_len, show i + 32 - 16 = i + 16 by omega, List.set_append_right _ _ (by rw [mapR_len]; omega), mapR_len, Nat.add_sub_cancel,
    mapR_set _ (fun j => AV.int .u32 (u (if j = i then x else h j))) hi]
  intro j _; split <;> rfl
section
variable (p : Sg) {i : Nat} (h : i < 16)
include h
theorem r_isW : isB (encR p) i = true := by simp [isB, encR_w p h]
theorem r_getW : getB (encR p) i = p.wt.getLsbD i := by simp [getB, encR_w p h]
theorem r_isH : isB (encR p) (i + 16) = true := by simp [isB, encR_h p h]
theorem r_getH : getB (encR p) (i + 16) = p.hd.getLsbD i := by simp [getB, encR_h p h]
theorem r_isA : isI .u32 (encR p) (i + 32) = true := by simp [isI, encR_a p h]
theorem r_getA : getI (encR p) (i + 32) = u (p.at_ i) := by simp [getI, encR_a p h]
end
theorem leB_encR (p : Sg) (k : Nat) (h : k ≤ 48) : leB k (encR p).length = true := leB_iff.2 (by rw [encR_length]; exact h)
theorem m34 : ∀ j, j < 16 → (65534#32).getLsbD j = decide (1 ≤ j) := by decide
theorem m32 : ∀ j, j < 16 → (65532#32).getLsbD j = decide (2 ≤ j) := by decide
theorem wt0 (p : Sg) : p.wt.getLsbD 0 = false := by rw [← p.hw, BitVec.getLsbD_and, m34 0 (by omega)]; simp
theorem hd01 (p : Sg) {j : Nat} (h : j < 2) : p.hd.getLsbD j = false := by rw [← p.hh, BitVec.getLsbD_and, m32 j (by omega)]; simp; omega

theorem r_send (p : Sg) (n : Int) (h1 : 0 < n) (h2 : n ≤ 15) : (encR p).set n.toNat (.bool true) = encR (send p n) := by
  rw [encR_F, encF_setW _ _ _ (by omega), encR_F]
  refine encF_congr (fun j hj => ?_) (fun _ _ => rfl) (fun _ _ => rfl)
  show _ = ((p.wt ||| bitN n.toNat) &&& 65534#32).getLsbD j
  rw [BitVec.getLsbD_and, BitVec.getLsbD_or, bitN_get _ _ (by omega), m34 j hj]
  unfold updB
  by_cases he : j = n.toNat
  · subst he; simp; omega
  · rw [if_neg he]
    by_cases h0 : j = 0
    · subst h0; have e := wt0 p; simp at e; simp [e]
    · have : decide (1 ≤ j) = true := decide_eq_true (by omega)
      simp [he, this]
theorem r_send0 (p : Sg) : encR (send p 0) = encR p := by
  rw [encR_F, encR_F]
  refine encF_congr (fun j hj => ?_) (fun _ _ => rfl) (fun _ _ => rfl)
  show ((p.wt ||| bitN 0) &&& 65534#32).getLsbD j = _
  rw [BitVec.getLsbD_and, BitVec.getLsbD_or, bitN_get _ _ (by omega), m34 j hj]
  by_cases h0 : j = 0
  · subst h0; rw [wt0]; simp
  · have : decide (1 ≤ j) = true := decide_eq_true (by omega)
    simp [h0, this]
theorem r_take (p : Sg) (i : Nat) (h0 : tkN p = i) (h1 : 1 ≤ i) (h2 : i < 16) : (encR p).set i (.bool false) = encR (tkP p) := by
  rw [encR_F, encF_setW _ _ _ h2]
  unfold tkP
  rw [if_neg (by omega), encR_F, h0]
  refine encF_congr (fun j hj => ?_) (fun _ _ => rfl) (fun _ _ => rfl)
  show _ = ((p.wt &&& ~~~ bitN i) &&& 65534#32).getLsbD j
  rw [BitVec.getLsbD_and, BitVec.getLsbD_and, BitVec.getLsbD_not, bitN_get _ _ (by omega), m34 j hj]
  unfold updB
  by_cases he : j = i
  · subst he; simp
  · rw [if_neg he]
    by_cases h0 : j = 0
    · subst h0; have e := wt0 p; simp at e; simp [e]
    · have h3 : decide (1 ≤ j) = true := decide_eq_true (by omega)
      have h4 : decide (j < 32) = true := decide_eq_true (by omega)
      simp [he, h3, h4]
theorem r_handle (p : Sg) (n a : Int) (h1 : 2 ≤ n) (h2 : n ≤ 15) : (encR p).set (n.toNat + 32) (.int .u32 (IntKind.wrap .u32 a)) = encR (handle p n a) := by
  rw [wrap_w32, encR_F, encF_setA _ _ _ (by omega), encR_F]
  refine encF_congr (fun _ _ => rfl) (fun _ _ => rfl) (fun j hj => ?_)
  show _ = updA p.at_ n.toNat (w32 a) j
  unfold updA
  by_cases he : j = n.toNat
  · rw [if_pos he, if_pos he, if_neg (by omega)]
  · rw [if_neg he, if_neg he]
/-- a bit of a whole number -/
theorem bit64 (a : Int) (i : Nat) (h : i < 16) : ((kAnd .i64 (kShr .i64 a (IntKind.wrap .u64 (i : Int))) 1 : Int) == 1) = (w32 a).getLsbD i := by
  have e0 : IntKind.wrap .u64 (i : Int) = i := by rw [IntKind.wrap_u64]; omega
  have e1 : kShr .i64 a (i : Int) = a / 2 ^ i := by
    unfold kShr
    rw [show min (Int.toNat (i : Int)) (IntKind.bits .i64) = i by simp [IntKind.bits]; omega]
    exact Int.fdiv_eq_ediv_of_nonneg _ (by exact Int.le_of_lt (Int.pow_pos (by omega)))
  have e2 : ∀ x : Int, ((kAnd .i64 x 1 : Int) == 1) = decide (x % 2 = 1) := fun x => by
    unfold kAnd
    have : (BitVec.ofInt (IntKind.bits .i64) x &&& BitVec.ofInt (IntKind.bits .i64) 1).toNat = (x % 2).toNat := by
      show (BitVec.ofInt 64 x &&& 1#64).toNat = _
      rw [BitVec.toNat_and, BitVec.toNat_ofInt]
      show ((x % 18446744073709551616).toNat &&& 1) = _
      rw [Nat.and_one_is_mod]
      omega
    rw [this, i64_in (by omega)]
    rw [Bool.eq_iff_iff]
    simp
    omega
  rw [e0, e1, e2]
  have e3 : (w32 a).getLsbD i = decide (((a % 4294967296).toNat / 2 ^ i) % 2 = 1) := by
    show (BitVec.ofInt 32 a).toNat.testBit i = _
    rw [BitVec.toNat_ofInt, Nat.testBit_eq_decide_div_mod_eq]
    rfl
  rw [e3, Bool.eq_iff_iff]
  simp only [decide_eq_true_eq]
  rcases (by omega : i = 0 ∨ i = 1 ∨ i = 2 ∨ i = 3 ∨ i = 4 ∨ i = 5 ∨ i = 6 ∨ i = 7 ∨ i = 8 ∨ i = 9 ∨ i = 10 ∨ i = 11 ∨ i = 12 ∨ i = 13 ∨ i = 14 ∨ i = 15) with rfl | rfl | rfl | rfl | rfl | rfl | rfl | rfl | rfl | rfl | rfl | rfl | rfl | rfl | rfl | rfl <;> simp <;> omega
theorem hd_lt (p : Sg) : p.hd.toNat < 65536 := by
  have : p.hd.toNat = (p.hd &&& 65532#32).toNat := by rw [p.hh]
  rw [this, BitVec.toNat_and]
  have := Nat.and_le_right (n := p.hd.toNat) (m := (65532#32).toNat)
  have e : (65532#32).toNat = 65532 := rfl
  omega
theorem sum_step (x : W) (i : Nat) : x.toNat % 2 ^ (i + 1) = x.toNat % 2 ^ i + (if x.getLsbD i then 2 ^ i else 0) := by
  rw [Nat.mod_pow_succ]
  show _ = _ + (if x.toNat.testBit i = true then 2 ^ i else 0)
  rw [Nat.testBit_eq_decide_div_mod_eq]
  by_cases h : x.toNat / 2 ^ i % 2 = 1
  · simp [h]
  · have : x.toNat / 2 ^ i % 2 = 0 := by omega
    simp [this]
end Go.Am
