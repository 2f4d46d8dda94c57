/-
  Views by a function of the index; two objects in a heap.
-/
import Derived.Test.YtkabjomhnddnoaaPrW
namespace Go.Am
open Crc
theorem thF_get {N : Nat} {g : Nat → Nat} {i : Nat} (hi : i < N) : ((List.range N).map g).getD i 0 = g i := by
  simp [List.getD, hi]
theorem View.fn {m N : Nat} {F F' : Fr} {H H' : Hp} (g : Nat → Nat) (hN : H.length = N) (hm : m ≤ N) (hfix : ∀ i, i < m → g i = i) (hinj : ∀ i j, i < N → j < N → g i = g j → i = j)
    (hb : ∀ i, i < N → ∃ b b', H[i]? = some (some b) ∧ H'[g i]? = some (some b') ∧ b.esz = b'.esz ∧ bnds N b.cells = true ∧ ((b.cells = [] ∧ b.esz = 1) ∨ b'.cells = rens ((List.range N).map g) b.cells))
    (hF : bnds N F = true) (hF' : wk (rens ((List.range N).map g) F) F') : View m F H F' H' := by
  have hl : ((List.range N).map g).length = N := by simp
  refine ⟨(List.range N).map g, by rw [hl, hN], by omega, fun i hi => by rw [thF_get (by omega)]; exact hfix i hi, fun i hi => ?_, fun i j b b' h1 h2 he => ?_, fun i b h => ?_, by rw [← wk_length hF', rens_eq]; simp, fun k v hk => ?_⟩
  · rw [hl] at hi
    rw [thF_get hi]
    obtain ⟨b, b', _, h2, _⟩ := hb i hi
    exact (List.getElem?_eq_some_iff.1 h2).1
  · have hi := (List.getElem?_eq_some_iff.1 h1).1
    have hj := (List.getElem?_eq_some_iff.1 h2).1
    rw [hN] at hi hj
    rw [thF_get hi, thF_get hj] at he
    exact hinj i j hi hj he
  · have hi := (List.getElem?_eq_some_iff.1 h).1
    rw [hN] at hi
    obtain ⟨b1, b', h1, h2, h3, h4, h5⟩ := hb i hi
    rw [h] at h1
    simp only [Option.some.injEq] at h1
    subst h1
    rw [thF_get hi]
    refine ⟨b', h2, ?_, h3, fun k v hk => ?_, fun hr => ?_⟩
    · rcases h5 with ⟨h5, _⟩ | h5
      · rw [h5]; exact Nat.zero_le _
      · rw [h5, rens_eq]; simp
    · rcases h5 with ⟨h5, _⟩ | h5
      · rw [h5] at hk; simp at hk
      · rw [bnds_eq, List.all_eq_true] at h4
        refine ⟨by rw [hl]; exact h4 v (List.mem_of_getElem? hk), .inr ?_⟩
        rw [h5, rens_eq]; simp [hk]
    · rcases h5 with ⟨_, h5⟩ | h5
      · unfold isRec at hr; rw [h5] at hr; cases hr
      · rw [h5, rens_eq]; simp
  · rw [bnds_eq, List.all_eq_true] at hF
    refine ⟨by rw [hl]; exact hF v (List.mem_of_getElem? hk), ?_⟩
    rcases wk_get hF' k (Go.Am.ren ((List.range N).map g) v) (by rw [rens_eq]; simp [hk]) with h | h
    · left
      cases v with
      | undef => rfl
      | ptr r o => cases r <;> simp [Go.Am.ren] at h
      | slice m r o n => cases r <;> simp [Go.Am.ren] at h
      | _ => simp [Go.Am.ren] at h
    · exact .inr h
def canB (t : TS) (p : Nat → AV) (s s' : Ptb) : Hp := some ⟨1, t.tb p s⟩ :: setsB t s'
theorem canB_len {t : TS} {p : Nat → AV} {s s' : Ptb} : (canB t p s s').length = 14 := by simp [canB, setsB_len]
theorem canB_get0 {t : TS} {p : Nat → AV} {s s' : Ptb} : (canB t p s s')[0]? = some (some ⟨1, t.tb p s⟩) := rfl
theorem canB_get {t : TS} {p : Nat → AV} {s s' : Ptb} {n : Nat} (h : n < 13) : (canB t p s s')[n + 1]? = some (some ⟨1, blkO t.enc (s'.sg n)⟩) := by
  unfold canB
  rw [List.getElem?_cons_succ, setsB_get h]
def cutS (s : Ptb) (k : Nat) : Ptb := ⟨s.at_, fun j => if j < k then s.sg j else none⟩
def cpT (s : Ptb) (k : Nat) : Nat → AV := fun j => if j < k then ptrs 15 s j else ptrs 1 s j
theorem setsB_cut {t : TS} {s : Ptb} : setsB t (cutS s 13) = setsB t s := by
  unfold setsB
  refine List.map_congr_left fun n hn => ?_
  show some (⟨1, blkO t.enc (if n < 13 then s.sg n else none)⟩ : Blk) = _
  rw [if_pos (List.mem_range.1 hn)]
theorem cut_succ {s : Ptb} {k n : Nat} : (cutS s (k + 1)).sg n = if n = k then s.sg n else (cutS s k).sg n := by
  show (if n < k + 1 then s.sg n else none) = if n = k then s.sg n else (if n < k then s.sg n else none)
  by_cases e : n = k
  · rw [if_pos e, if_pos (by omega)]
  · by_cases f : n < k
    · rw [if_neg e, if_pos (by omega), if_pos f]
    · rw [if_neg e, if_neg (by omega), if_neg f]
theorem bnd_ptrs' {s : Ptb} {b m n : Nat} (h : b + n < m) : bnd m (ptrs b s n) = true := by
  unfold ptrs ptrO
  split
  · rfl
  · simpa [bnd] using h
theorem bnd_cpT {s : Ptb} {k n m : Nat} (hn : n < 13) (hm : 28 ≤ m) : bnd m (cpT s k n) = true := by
  unfold cpT
  split
  · exact bnd_ptrs' (by omega)
  · exact bnd_ptrs' (by omega)
def hpC (t : TS) (s : Ptb) (k : Nat) : Hp := can t s ++ canB t (cpT s k) s (cutS s k)
theorem hpC_len {t : TS} {s : Ptb} {k : Nat} : (hpC t s k).length = 28 := by simp [hpC, can_len, canB_len]
theorem blkO_bnd {t : TS} (ht : TSOk t) (x : Option Sg) (m : Nat) : bnds m (blkO t.enc x) = true := by
  cases x with
  | none => rfl
  | some p => exact ht.flatE p m
theorem rens_flat' {t : TS} (ht : TSOk t) (x : Option Sg) (θ : List Nat) : rens θ (blkO t.enc x) = blkO t.enc x := rens_flat θ _ (blkO_bnd ht x 0)
end Go.Am
