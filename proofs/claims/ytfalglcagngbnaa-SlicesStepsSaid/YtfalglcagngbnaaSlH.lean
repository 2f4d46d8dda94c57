/-
  Slices: the operations by fields.
-/
import Derived.Test.YtfalglcagngbnaaSlE
namespace Go.Am
open Go.Proofs
set_option maxRecDepth 100000
def sO (cs : List AV) (i : Nat) : Bool := getB cs (i + 1)
def sN (cs : List AV) (i : Nat) : Int := getI cs (i * 7 + 33)
def sA (cs : List AV) (i : Nat) : Int := getI cs (i * 7 + 34)
def sG (cs : List AV) (i : Nat) : Int := getI cs (i * 7 + 35)
def sP (cs : List AV) (i : Nat) : Int := getI cs (i * 7 + 36)
def sR (cs : List AV) (i : Nat) : Int := getI cs (i * 7 + 37)
def sL (cs : List AV) (i : Nat) : Int := getI cs (i * 7 + 38)
def sQ (cs : List AV) (i : Nat) : Int := getI cs (i * 7 + 39)
def tk (cs : List AV) : Int := getI cs 257
theorem getI_s {cs : List AV} {i j : Nat} {x : Int} (hj : j < cs.length) : getI (cs.set j (.int .i64 x)) i = if i = j then x else getI cs i := getI_set hj
theorem getI_b {cs : List AV} {i j : Nat} {b : Bool} (hj : j < cs.length) (h : i ≠ j) : getI (cs.set j (.bool b)) i = getI cs i := by rw [getI_set hj, if_neg h]
theorem getB_s {cs : List AV} {i j : Nat} {v : AV} (hj : j < cs.length) (h : i ≠ j) : getB (cs.set j v) i = getB cs i := by rw [getB_set hj, if_neg h]
theorem isO_nat {cs : List AV} {n : Nat} (h : n < 32) : isO cs (n : Int) = sO cs n := by
  unfold isO sO
  rw [decide_eq_true (by omega), decide_eq_true (by omega), Int.toNat_natCast]; rfl
theorem isO_iff {cs : List AV} {a : Int} : isO cs a = true ↔ 0 ≤ a ∧ a < 32 ∧ sO cs a.toNat = true :=
  ⟨isO_spec, fun h => by simp only [isO, Bool.and_eq_true, decide_eq_true_eq]; exact h⟩
/-! ### Open -/
section
variable {cs : List AV} (hs : okS cs = true) (a : Int)
include hs
theorem openR_I {o : Nat} (ho : 33 ≤ o) : getI (openR cs a) o = if opens cs a = true ∧ oN cs * 7 + 33 ≤ o ∧ o < oN cs * 7 + 40 then getI (slotA (oN cs) a (tk cs)) (o - (oN cs * 7 + 33)) else getI cs o := by
  unfold openR
  split
  · rename_i h
    have h' := h
    simp only [opens, Bool.and_eq_true, decide_eq_true_eq] at h'
    have hl := okS_len hs
    by_cases hc : oN cs * 7 + 33 ≤ o ∧ o < oN cs * 7 + 40
    · rw [if_pos ⟨h, hc⟩]
      unfold getI
      rw [openL_get hs h'.2.2, if_pos hc]; rfl
    · rw [if_neg (fun q => hc q.2)]
      have e := getI_b (cs := cs) (i := o) (b := true) (j := oN cs + 1) (by omega) (by omega)
      rw [← e]
      unfold getI
      rw [openL_get hs h'.2.2, if_neg hc]
  · rename_i h
    rw [if_neg (fun q => h q.1)]
theorem openR_O (i : Nat) (hi : i < 32) : sO (openR cs a) i = if opens cs a = true ∧ i = oN cs then true else sO cs i := by
  unfold openR sO
  split
  · rename_i h
    have h' := h
    simp only [opens, Bool.and_eq_true, decide_eq_true_eq] at h'
    have hl := okS_len hs
    have e : getB (openL cs a) (i + 1) = getB (cs.set (oN cs + 1) (.bool true)) (i + 1) := by
      unfold getB
      rw [openL_get hs h'.2.2, if_neg (by omega)]
    rw [e, getB_set (by omega)]
    by_cases hc : i = oN cs
    · rw [if_pos (by omega), if_pos ⟨h, hc⟩]
    · rw [if_neg (by omega), if_neg (fun q => hc q.2)]
  · rename_i h
    rw [if_neg (fun q => h q.1)]
theorem openR_tk : tk (openR cs a) = tk cs := by
  unfold tk
  rw [openR_I hs a (by omega), if_neg]
  rintro ⟨h, h1⟩
  simp only [opens, Bool.and_eq_true, decide_eq_true_eq] at h
  omega
theorem openR_f {j i : Nat} (hj : j < 7) (_hi : i < 32) : getI (openR cs a) (i * 7 + (33 + j)) = if opens cs a = true ∧ i = oN cs then getI (slotA (oN cs) a (tk cs)) j else getI cs (i * 7 + (33 + j)) := by
  rw [openR_I hs a (by omega)]
  by_cases hc : opens cs a = true ∧ i = oN cs
  · obtain ⟨h, rfl⟩ := hc
    rw [if_pos ⟨h, by omega, by omega⟩, if_pos ⟨h, rfl⟩, show oN cs * 7 + (33 + j) - (oN cs * 7 + 33) = j by omega]
  · rw [if_neg hc, if_neg]
    rintro ⟨h, h1, h2⟩
    exact hc ⟨h, by omega⟩
end
/-! ### Give -/
section
variable {cs : List AV} (hs : okS cs = true) (a b : Int)
include hs
theorem giveR_I {o : Nat} : getI (giveR cs a b) o = if gives cs a b = true ∧ o = a.toNat * 7 + 35 then (if a == b then -1 else b) else getI cs o := by
  unfold giveR
  split
  · rename_i h
    have h' := h
    simp only [gives, Bool.and_eq_true] at h'
    have ha := isO_spec h'.1
    rw [getI_s (by have := okS_len hs; omega)]
    by_cases hc : o = a.toNat * 7 + 35
    · rw [if_pos hc]; exact (if_pos ⟨h, hc⟩).symm
    · rw [if_neg hc, if_neg (fun q => hc q.2)]
  · rename_i h
    rw [if_neg (fun q => h q.1)]
theorem giveR_O (i : Nat) (hi : i < 32) : sO (giveR cs a b) i = sO cs i := by
  unfold giveR sO
  split
  · rename_i h
    simp only [gives, Bool.and_eq_true] at h
    have ha := isO_spec h.1
    exact getB_s (by have := okS_len hs; omega) (by omega)
  · rfl
end
/-! ### Pick -/
/-- which slot is run -/
def rn (cs : List AV) (n : Nat) : Nat := if decide (0 ≤ sG cs n) then (sG cs n).toNat else n
def w64 (x : Int) : Int := IntKind.wrap .i64 x
def gapN (cs : List AV) (n : Nat) : Int := if w64 (w64 (tk cs + 1) - sL cs n) > sQ cs n then w64 (w64 (tk cs + 1) - sL cs n) else sQ cs n
section
variable {cs : List AV} (hs : okS cs = true) {n : Nat} (hn : n < 32)
include hs hn
theorem pk4_eq : pk4 cs n = (((cs.set 257 (.int .i64 (w64 (tk cs + 1)))).set (n * 7 + 36) (.int .i64 (w64 (sP cs n + 1)))).set (n * 7 + 39) (.int .i64 (gapN cs n))).set (n * 7 + 38) (.int .i64 (w64 (tk cs + 1))) := by
  have hl := okS_len hs
  have l1 : (pk1 cs).length = 258 := by simp [pk1, hl]
  have l2 : (pk2 cs n).length = 258 := by simp [pk2, l1]
  have e1 : getI (pk1 cs) (n * 7 + 36) = sP cs n := by unfold pk1; rw [getI_s (by omega), if_neg (by omega)]; rfl
  have e2 : getI (pk2 cs n) 257 = w64 (tk cs + 1) := by
    unfold pk2
    rw [getI_s (by omega), if_neg (by omega)]
    unfold pk1
    rw [getI_s (by omega), if_pos rfl]; rfl
  have e3 : ∀ o, 33 ≤ o → o < 257 → o ≠ n * 7 + 36 → getI (pk2 cs n) o = getI cs o := fun o h1 h2 h3 => by
    unfold pk2
    rw [getI_s (by omega), if_neg h3]
    unfold pk1
    rw [getI_s (by omega), if_neg (by omega)]
  unfold pk4 pk3
  rw [e2, e3 _ (by omega) (by omega) (by omega), e3 _ (by omega) (by omega) (by omega)]
  unfold pk2
  rw [e1]
  rfl
theorem pk4_I (o : Nat) : getI (pk4 cs n) o = if o = n * 7 + 38 then w64 (tk cs + 1) else if o = n * 7 + 39 then gapN cs n else if o = n * 7 + 36 then w64 (sP cs n + 1) else if o = 257 then w64 (tk cs + 1) else getI cs o := by
  have hl := okS_len hs
  rw [pk4_eq hs hn, getI_s (by simp only [List.length_set]; omega), getI_s (by simp only [List.length_set]; omega), getI_s (by simp only [List.length_set]; omega), getI_s (by omega)]
theorem pk4_B (i : Nat) (hi : i < 33) : getB (pk4 cs n) i = getB cs i := by
  have hl := okS_len hs
  rw [pk4_eq hs hn, getB_s (by simp only [List.length_set]; omega) (by omega), getB_s (by simp only [List.length_set]; omega) (by omega), getB_s (by simp only [List.length_set]; omega) (by omega), getB_s (by omega) (by omega)]
end
section
variable {cs : List AV} (ht : okT cs = true) {a : Int} (ha : isO cs a = true)
include ht
theorem rn_lt {n : Nat} (hn : n < 32) : rn cs n < 32 := by
  have := (okT_iff.1 ht).2 n hn
  unfold rn sG
  split
  · rename_i h
    have := of_decide_eq_true h
    unfold sG at this
    omega
  · exact hn
include ha
theorem pickR_I (o : Nat) : getI (pickR cs a) o = if o = rn cs a.toNat * 7 + 37 then w64 (sR cs (rn cs a.toNat) + 1) else if 0 ≤ sG cs a.toNat ∧ o = a.toNat * 7 + 35 then -1 else getI (pk4 cs a.toNat) o := by
  obtain ⟨hs, hg⟩ := okT_iff.1 ht
  obtain ⟨a0, a1, _⟩ := isO_spec ha
  have hn : a.toNat < 32 := by omega
  have eg : pkG cs a.toNat = sG cs a.toNat := pkG_eq hs hn
  have o4 := okS_pk4 hs hn
  have o5 := okS_pk5 hs hn
  have l4 := okS_len o4
  have l5 := okS_len o5
  have hr := rn_lt ht hn
  unfold pickR
  rw [if_pos ha, eg]
  by_cases h0 : 0 ≤ sG cs a.toNat
  · have er : rn cs a.toNat = (sG cs a.toNat).toNat := by unfold rn; rw [if_pos (decide_eq_true h0)]
    have hg2 : (sG cs a.toNat).toNat < 32 := by have := hg a.toNat hn; unfold sG at *; omega
    rw [if_pos (decide_eq_true h0), er]
    unfold run1
    rw [getI_s (by omega)]
    have e5 : ∀ o, getI (pk5 cs a.toNat) o = if o = a.toNat * 7 + 35 then -1 else getI (pk4 cs a.toNat) o := fun o => by unfold pk5; rw [getI_s (by omega)]
    split
    · rw [e5, if_neg (by omega), pk4_I hs hn, if_neg (by omega), if_neg (by omega), if_neg (by omega), if_neg (by omega)]; rfl
    · rw [e5]
      by_cases hc : o = a.toNat * 7 + 35
      · rw [if_pos hc, if_pos ⟨h0, hc⟩]
      · rw [if_neg hc, if_neg (fun q => hc q.2)]
  · have er : rn cs a.toNat = a.toNat := by unfold rn; rw [if_neg (by simpa using h0)]
    rw [if_neg (by simpa using h0), er]
    unfold run1
    rw [getI_s (by omega)]
    split
    · rw [pk4_I hs hn, if_neg (by omega), if_neg (by omega), if_neg (by omega), if_neg (by omega)]; rfl
    · rw [if_neg (fun q => h0 q.1)]
theorem pickR_O (i : Nat) (hi : i < 32) : sO (pickR cs a) i = sO cs i := by
  obtain ⟨hs, hg⟩ := okT_iff.1 ht
  obtain ⟨a0, a1, _⟩ := isO_spec ha
  have hn : a.toNat < 32 := by omega
  have eg : pkG cs a.toNat = sG cs a.toNat := pkG_eq hs hn
  have l4 := okS_len (okS_pk4 hs hn)
  have l5 := okS_len (okS_pk5 hs hn)
  have hgl := hg a.toNat hn
  unfold sO pickR
  rw [if_pos ha, eg]
  split
  · rename_i h
    have := of_decide_eq_true h
    have hg2 : (sG cs a.toNat).toNat < 32 := by unfold sG at *; omega
    unfold run1
    rw [getB_s (by omega) (by omega)]
    unfold pk5
    rw [getB_s (by omega) (by omega), pk4_B hs hn _ (by omega)]
  · unfold run1
    rw [getB_s (by omega) (by omega), pk4_B hs hn _ (by omega)]
theorem pickR_tk : tk (pickR cs a) = w64 (tk cs + 1) := by
  obtain ⟨hs, hg⟩ := okT_iff.1 ht
  obtain ⟨a0, a1, _⟩ := isO_spec ha
  have hn : a.toNat < 32 := by omega
  have hr := rn_lt ht hn
  unfold tk
  rw [pickR_I ht ha, if_neg (by omega), if_neg (by omega), pk4_I hs hn, if_neg (by omega), if_neg (by omega), if_neg (by omega), if_pos rfl]; rfl
theorem pickR_P (i : Nat) (hi : i < 32) : sP (pickR cs a) i = if i = a.toNat then w64 (sP cs i + 1) else sP cs i := by
  obtain ⟨hs, hg⟩ := okT_iff.1 ht
  obtain ⟨a0, a1, _⟩ := isO_spec ha
  have hn : a.toNat < 32 := by omega
  have hr := rn_lt ht hn
  unfold sP
  rw [pickR_I ht ha, if_neg (by omega), if_neg (by omega), pk4_I hs hn, if_neg (by omega), if_neg (by omega)]
  by_cases hc : i = a.toNat
  · subst hc; rw [if_pos rfl, if_pos rfl]; rfl
  · rw [if_neg (by omega), if_neg (by omega), if_neg hc]
theorem pickR_R (i : Nat) (hi : i < 32) : sR (pickR cs a) i = if i = rn cs a.toNat then w64 (sR cs i + 1) else sR cs i := by
  obtain ⟨hs, hg⟩ := okT_iff.1 ht
  obtain ⟨a0, a1, _⟩ := isO_spec ha
  have hn : a.toNat < 32 := by omega
  have hr := rn_lt ht hn
  unfold sR
  rw [pickR_I ht ha]
  by_cases hc : i = rn cs a.toNat
  · subst hc; rw [if_pos rfl, if_pos rfl]; rfl
  · rw [if_neg (by omega), if_neg hc, if_neg (by omega), pk4_I hs hn, if_neg (by omega), if_neg (by omega), if_neg (by omega), if_neg (by omega)]
theorem pickR_G (i : Nat) (hi : i < 32) : sG (pickR cs a) i = if 0 ≤ sG cs a.toNat ∧ i = a.toNat then -1 else sG cs i := by
  obtain ⟨hs, hg⟩ := okT_iff.1 ht
  obtain ⟨a0, a1, _⟩ := isO_spec ha
  have hn : a.toNat < 32 := by omega
  have hr := rn_lt ht hn
  show getI (pickR cs a) (i * 7 + 35) = _
  rw [pickR_I ht ha, if_neg (by omega)]
  by_cases hc : 0 ≤ sG cs a.toNat ∧ i = a.toNat
  · rw [if_pos hc, if_pos ⟨hc.1, by omega⟩]
  · rw [if_neg hc, if_neg (fun q => hc ⟨q.1, by omega⟩), pk4_I hs hn, if_neg (by omega), if_neg (by omega), if_neg (by omega), if_neg (by omega)]; rfl
theorem pickR_A (i : Nat) (hi : i < 32) : sA (pickR cs a) i = sA cs i := by
  obtain ⟨hs, hg⟩ := okT_iff.1 ht
  obtain ⟨a0, a1, _⟩ := isO_spec ha
  have hn : a.toNat < 32 := by omega
  have hr := rn_lt ht hn
  unfold sA
  rw [pickR_I ht ha, if_neg (by omega), if_neg (by omega), pk4_I hs hn, if_neg (by omega), if_neg (by omega), if_neg (by omega), if_neg (by omega)]
theorem pickR_N (i : Nat) (hi : i < 32) : sN (pickR cs a) i = sN cs i := by
  obtain ⟨hs, hg⟩ := okT_iff.1 ht
  obtain ⟨a0, a1, _⟩ := isO_spec ha
  have hn : a.toNat < 32 := by omega
  have hr := rn_lt ht hn
  unfold sN
  rw [pickR_I ht ha, if_neg (by omega), if_neg (by omega), pk4_I hs hn, if_neg (by omega), if_neg (by omega), if_neg (by omega), if_neg (by omega)]
theorem pickR_L (i : Nat) (hi : i < 32) : sL (pickR cs a) i = if i = a.toNat then w64 (tk cs + 1) else sL cs i := by
  obtain ⟨hs, hg⟩ := okT_iff.1 ht
  obtain ⟨a0, a1, _⟩ := isO_spec ha
  have hn : a.toNat < 32 := by omega
  have hr := rn_lt ht hn
  unfold sL
  rw [pickR_I ht ha, if_neg (by omega), if_neg (by omega), pk4_I hs hn]
  by_cases hc : i = a.toNat
  · rw [if_pos (by omega), if_pos hc]
  · rw [if_neg (by omega), if_neg (by omega), if_neg (by omega), if_neg (by omega), if_neg hc]
theorem pickR_Q (i : Nat) (hi : i < 32) : sQ (pickR cs a) i = if i = a.toNat then gapN cs a.toNat else sQ cs i := by
  obtain ⟨hs, hg⟩ := okT_iff.1 ht
  obtain ⟨a0, a1, _⟩ := isO_spec ha
  have hn : a.toNat < 32 := by omega
  have hr := rn_lt ht hn
  unfold sQ
  rw [pickR_I ht ha, if_neg (by omega), if_neg (by omega), pk4_I hs hn]
  by_cases hc : i = a.toNat
  · rw [if_neg (by omega), if_pos (by omega), if_pos hc]
  · rw [if_neg (by omega), if_neg (by omega), if_neg (by omega), if_neg (by omega), if_neg hc]
end
theorem pickR_not {cs : List AV} {a : Int} (h : isO cs a = false) : pickR cs a = cs := by unfold pickR; rw [h]; rfl
/-! ### sums -/
def sumN : Nat → (Nat → Int) → Int
  | 0, _ => 0
  | n + 1, f => sumN n f + f n
theorem sumN_congr {f g : Nat → Int} : ∀ n, (∀ i, i < n → f i = g i) → sumN n f = sumN n g
  | 0, _ => rfl
  | n + 1, h => by simp only [sumN, sumN_congr n fun i hi => h i (by omega), h n (by omega)]
theorem sumN_one {f g : Nat → Int} {k : Nat} : ∀ n, k < n → (∀ i, i < n → g i = if i = k then f i + 1 else f i) → sumN n g = sumN n f + 1
  | 0, h, _ => by omega
  | n + 1, h, hg => by
    simp only [sumN, hg n (by omega)]
    by_cases hk : n = k
    · subst hk
      rw [if_pos rfl, sumN_congr (f := g) (g := f) n fun i hi => by rw [hg i (by omega), if_neg (by omega)]]
      omega
    · rw [if_neg hk, sumN_one n (by omega) fun i hi => hg i (by omega)]
      omega
theorem sumN_le {f : Nat → Int} {b : Int} (_hb : 0 ≤ b) : ∀ n, (∀ i, i < n → 0 ≤ f i ∧ f i ≤ b) → 0 ≤ sumN n f ∧ sumN n f ≤ (n : Int) * b
  | 0, _ => by simp [sumN]
  | n + 1, h => by
    have h1 := sumN_le _hb n fun i hi => h i (by omega)
    have h2 := h n (by omega)
    have e : ((n + 1 : Nat) : Int) * b = (n : Int) * b + b := by rw [Int.natCast_add, Int.add_mul]; simp
    simp only [sumN, e]
    omega
end Go.Am
