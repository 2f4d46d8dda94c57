/-
  ProcsOnce: the plain law of a wait.
-/
import Derived.Test.YtkabjomhnddnoaaPrOa
import Derived.Test.YtkabjomhnddnoaaPrI
namespace Go.Am
open Crc
structure WtOk (s : Ptb) (P A : Int) : Prop where
  is : isP s (waitC s P A) = true
  gone : isP (waitX s P A) (waitC s P A) = false
  en : tellEn s (waitC s P A) = true
  st : tellSt s (waitC s P A) = waitS s P A
  par : tellPar s (waitC s P A) = P
  which : A = -1 ∨ A = waitC s P A
  le : 0 ≤ waitC s P A ∧ waitC s P A ≤ 12
  first : ∀ k : Nat, (k : Int) < waitC s P A → isP s k = true → tellEn s k = true → tellPar s k = P → A ≠ -1
theorem wait_no {s : Ptb} {P A : Int} (h : waitE s P A ≠ 0 ∨ waitW s P A = true) : waitC s P A = 0 ∧ waitS s P A = 0 ∧ waitX s P A = s := by
  unfold waitE waitW at h
  unfold waitC waitS waitX
  unfold waitR at h ⊢
  split
  · rename_i hl
    rw [if_pos hl] at h
    split
    · exact ⟨rfl, rfl, rfl⟩
    · rename_i hr
      rw [if_neg hr] at h
      split
      · rename_i c hc
        rw [hc] at h
        rcases h with h | h
        · exact absurd rfl h
        · cases h
      · split <;> exact ⟨rfl, rfl, rfl⟩
  · exact ⟨rfl, rfl, rfl⟩
theorem isP_nat {s : Ptb} (hw : Wf s) {c : Nat} (h : 0 < (s.at_ c).num) : isP s (c : Int) = true ∧ c ≤ 12 ∧ 1 ≤ c := by
  obtain ⟨a, b, d, _⟩ := hw.there (n := c) (by omega)
  exact ⟨isP_iff.2 ⟨by omega, by omega, a⟩, d, b⟩
theorem tell_is {s : Ptb} {n : Int} (h : isP s n = true) : tellX s n = s.at_ n.toNat := by unfold tellX; rw [if_pos h]
theorem wait_ok {s : Ptb} (hw : Wf s) {P A : Int} (he : waitE s P A = 0) (hwt : waitW s P A = false) : WtOk s P A := by
  have key : ∃ c, (kidT s P 13).find? (wHit s A) = some c ∧ waitR s P A = (((c : Int), (s.at_ c).st, false, 0), freeX s c) := by
    unfold waitE at he
    unfold waitW at hwt
    unfold waitR at he hwt ⊢
    by_cases hl : live s P = true
    · rw [if_pos hl] at he hwt ⊢
      by_cases hr : A ≠ -1 ∧ (A < 1 ∨ 12 < A)
      · rw [if_pos hr] at he; cases he
      · rw [if_neg hr] at he hwt ⊢
        cases hf : (kidT s P 13).find? (wHit s A) with
        | some c => exact ⟨c, rfl, rfl⟩
        | none =>
          rw [hf] at he hwt
          simp only at he hwt
          split at he
          · rename_i ha
            rw [if_pos ha] at hwt; cases hwt
          · cases he
    · rw [if_neg hl] at he; cases he
  obtain ⟨c, hf, hR⟩ := key
  have hm : c ∈ kidT s P 13 := List.mem_of_find?_eq_some hf
  have hh := List.find?_some hf
  obtain ⟨m1, m2, m3, m4⟩ := kidT_mem hm
  obtain ⟨i1, i2, i3⟩ := isP_nat hw m2
  have eC : waitC s P A = (c : Int) := by unfold waitC; rw [hR]
  have eS : waitS s P A = (s.at_ c).st := by unfold waitS; rw [hR]
  have eX : waitX s P A = freeX s c := by unfold waitX; rw [hR]
  unfold wHit wMat at hh
  simp only [Bool.and_eq_true, Bool.or_eq_true, beq_iff_eq] at hh
  have tc : tellX s (c : Int) = s.at_ c := tell_is i1
  refine ⟨by rw [eC]; exact i1, ?_, by rw [eC]; unfold tellEn; rw [tc]; exact hh.2, by rw [eC, eS]; unfold tellSt; rw [tc], by rw [eC]; unfold tellPar; rw [tc]; exact m4, by rw [eC]; exact hh.1, by rw [eC]; omega, fun k hk h1 h2 h3 h4 => ?_⟩
  · rw [eC, eX]
    cases e : isP (freeX s c) (c : Int) with
    | false => rfl
    | true =>
      have := (isP_iff.1 e).2.2
      have hz : ((freeX s c).at_ (c : Int).toNat) = zc := by unfold freeX; exact if_pos rfl
      rw [hz] at this
      have : (0 : Int) = c := this
      omega
  · rw [eC] at hk
    have hk : k < c := by omega
    have tk : tellX s (k : Int) = s.at_ k := tell_is h1
    unfold tellEn at h2
    unfold tellPar at h3
    rw [tk] at h2 h3
    have hnum := (isP_iff.1 h1).2.2
    have hk1 := (isP_iff.1 h1).1
    have hnum : (s.at_ k).num = (k : Int) := hnum
    have hkm : kidB s P k = true := by
      unfold kidB kidC
      simp only [Bool.and_eq_true, decide_eq_true_eq, beq_iff_eq]
      exact ⟨by omega, m3, h3⟩
    have hit : wHit s A k = true := by
      unfold wHit wMat
      simp only [Bool.and_eq_true, Bool.or_eq_true, beq_iff_eq]
      exact ⟨.inl h4, h2⟩
    rw [List.find?_eq_some_iff_append] at hf
    obtain ⟨_, la, lb, e, hno⟩ := hf
    have hsort : (kidT s P 13).Pairwise (· < ·) := by
      unfold kidT
      exact List.Pairwise.filter _ List.pairwise_lt_range
    rw [e, List.pairwise_append] at hsort
    have hkin : k ∈ kidT s P 13 := by
      unfold kidT
      rw [List.mem_filter]
      exact ⟨List.mem_range.2 (by omega), hkm⟩
    rw [e] at hkin
    rcases List.mem_append.1 hkin with hin | hin
    · have := hno k hin
      rw [hit] at this; cases this
    · rcases List.mem_cons.1 hin with rfl | hin
      · omega
      · have := List.rel_of_pairwise_cons hsort.2.1 hin
        omega
theorem sameT_refl (s : Ptb) : sameT s s = true := by
  unfold sameT
  rw [List.all_eq_true]
  intro n _
  have a : pcB (s.at_ n) (s.at_ n) = true := by simp [pcB]
  have b : sgoB (s.sg n) (s.sg n) = true := by
    cases s.sg n with
    | none => rfl
    | some p => exact sameB_refl' p
  rw [a, b]; rfl
end Go.Am
