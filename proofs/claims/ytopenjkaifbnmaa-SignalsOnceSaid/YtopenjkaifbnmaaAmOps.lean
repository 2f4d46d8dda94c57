/-
  Slices, literals: the other pure operations; all pure operations together.
-/
import Derived.Test.YtopenjkaifbnmaaAmPure
namespace Go.Am
open Go.RowKit

theorem boundAV_sound {P : Program} {w : World} {ρ : Env} {x : Option AV} {cx : Option Value} {d i : Int} (hx : ∀ v, x = some v → ∃ c, cx = some c ∧ VR ρ v c) (hn : x = none → cx = none)
    (h : boundAV x d = some i) (y : Nat) (code : BoundsCode) (h0 : 0 ≤ i) (h1 : i ≤ y) :
    (cx = none ∧ i = d) ∨ ∃ c, cx = some c ∧ (Instr.sliceBound c y code).run P w = .ok i.toNat w := by
  unfold boundAV at h
  split at h
  · simp at h; exact .inl ⟨hn rfl, h.symm⟩
  · rename_i k n
    simp at h; subst h
    obtain ⟨c, rfl, hc⟩ := hx _ rfl
    simp only [VR] at hc; subst hc
    refine .inr ⟨_, rfl, ?_⟩
    unfold Instr.sliceBound
    simp only [asIntOf, Sem.run_bind, Sem.run_pure, Result.andThen_ok, Sem.run_ite]
    rw [if_pos ⟨h0, h1⟩]
  · simp at h

theorem sliceBounds_sound {P : Program} {w : World} {ρ : Env} {lo hi : Option AV} {clo chi : Option Value} {len cap : Nat} {l h : Int} (b : Bool)
    (hlo : ∀ v, lo = some v → ∃ c, clo = some c ∧ VR ρ v c) (hlo' : lo = none → clo = none) (hhi : ∀ v, hi = some v → ∃ c, chi = some c ∧ VR ρ v c) (hhi' : hi = none → chi = none)
    (el : boundAV lo 0 = some l) (eh : boundAV hi len = some h) (h0 : 0 ≤ l) (h1 : l ≤ h) (h2 : h ≤ len) (hc : len ≤ cap) :
    (Instr.sliceBounds b len cap clo chi none).run P w = .ok (l.toNat, h.toNat, cap) w := by
  unfold Instr.sliceBounds
  have hh := boundAV_sound (P := P) (w := w) hhi hhi' eh cap (if b then .sliceAcap else .sliceAlen) (by omega) (by omega)
  have hl := boundAV_sound (P := P) (w := w) hlo hlo' el h.toNat .sliceB h0 (by omega)
  rcases hh with ⟨rfl, rfl⟩ | ⟨c, rfl, hrun⟩
  · rcases hl with ⟨rfl, rfl⟩ | ⟨c', rfl, hrun'⟩
    · simp
    · simp only [Int.toNat_natCast] at hrun'
      simp [hrun']
  · rcases hl with ⟨rfl, rfl⟩ | ⟨c', rfl, hrun'⟩
    · simp [hrun]
    · simp [hrun, hrun']

theorem sliceAV_sound {P : Program} {w : World} {ρ : Env} {t : TypeId} {x v : AV} {cx : Value} {lo hi : Option AV} {clo chi : Option Value} (hx : VR ρ x cx)
    (hlo : ∀ v, lo = some v → ∃ c, clo = some c ∧ VR ρ v c) (hlo' : lo = none → clo = none) (hhi : ∀ v, hi = some v → ∃ c, chi = some c ∧ VR ρ v c) (hhi' : hi = none → chi = none)
    (h : sliceAV P t x lo hi = some (true, v)) :
    ∃ cv, (Instr.sliceAt t cx clo chi none).run P w = .ok cv w ∧ VR ρ v cv := by
  unfold sliceAV at h
  split at h
  · rename_i e mb r off len ht
    split at h
    · rename_i z l hh hz el eh
      simp only [Option.some.injEq, Prod.mk.injEq, Bool.and_eq_true, decide_eq_true_eq] at h
      obtain ⟨⟨h0, h1, h2⟩, rfl⟩ := h
      rw [mulz_eq]
      simp only [VR] at hx
      obtain ⟨ca, cap, rfl, hl, hc⟩ := hx
      refine ⟨.slice (if cap = l.toNat then ca else ca.map (·.add (l.toNat * z))) (hh.toNat - l.toNat) (cap - l.toNat), ?_, ?_⟩
      · unfold Instr.sliceAt
        simp only [Sem.run_bind, run_underlying ht, Result.andThen_ok]
        unfold Instr.slice
        simp only [Sem.run_bind, run_underlying ht, Result.andThen_ok, sliceBounds_sound (P := P) (w := w) true hlo hlo' hhi hhi' el eh h0 h1 h2 hl, run_sizeOf' hz, Sem.run_pure]
      · simp only [VR]
        refine ⟨_, _, rfl, by omega, ?_⟩
        rcases hc with ⟨rfl, rfl, hm⟩ | ⟨⟨y, rfl⟩, rfl⟩ | hc
        · exact .inl ⟨by simp, by omega, hm⟩
        · refine .inr (.inl ⟨?_, by omega⟩)
          split <;> simp
        · by_cases hcl : cap = l.toNat
          · refine .inr (.inl ⟨?_, by omega⟩)
            rw [if_pos hcl]
            cases r with
            | rw i => obtain ⟨_, _, rfl, _⟩ := hc; exact ⟨_, rfl⟩
            | ro i => obtain ⟨_, _, _, rfl⟩ := hc; exact ⟨_, rfl⟩
          · refine .inr (.inr ?_)
            rw [if_neg hcl]
            cases r with
            | rw i =>
              obtain ⟨e, he, rfl, hb⟩ := hc
              refine ⟨e, he, by simp [add_mk, Nat.add_comm], fun h0 => ?_⟩
              have : cap * e.esz ≤ e.size := hb (by omega)
              exact Nat.le_trans (Nat.mul_le_mul_right _ (by omega)) this
            | ro i =>
              obtain ⟨b, d, he, rfl⟩ := hc
              exact ⟨b, d, he, by simp only [Option.map_some, add_mk]; congr 2; omega⟩
    · simp at h
  · rename_i e ht
    split at h
    · rename_i z l hh hz el eh
      simp only [Option.some.injEq, Prod.mk.injEq, Bool.and_eq_true, decide_eq_true_eq] at h
      obtain ⟨⟨h0, h1, h2⟩, rfl⟩ := h
      simp only [VR] at hx
      subst hx
      obtain rfl : l = 0 := by omega
      obtain rfl : hh = 0 := by omega
      refine ⟨.slice none 0 0, ?_, by simp only [VR]⟩
      unfold Instr.sliceAt
      simp only [Sem.run_bind, run_underlying ht, Result.andThen_ok]
      unfold Instr.slice
      have hb := sliceBounds_sound (P := P) (w := w) (len := 0) (cap := 0) true hlo hlo' hhi hhi' el eh (by omega) (by omega) (by omega) (by omega)
      simp only [Sem.run_bind, run_underlying ht, Result.andThen_ok, hb, run_sizeOf' hz, Sem.run_pure]
      rfl
    · simp at h
  · rename_i s ht
    split at h
    · rename_i l hh el eh
      simp only [Option.some.injEq, Prod.mk.injEq, Bool.and_eq_true, decide_eq_true_eq] at h
      obtain ⟨⟨h0, h1, h2⟩, rfl⟩ := h
      simp only [VR] at hx
      subst hx
      have es : (ByteArray.mk s.toArray).size = s.length := by show s.toArray.size = _; simp
      refine ⟨.string ((ByteArray.mk s.toArray).extract l.toNat hh.toNat), ?_, ?_⟩
      · unfold Instr.sliceAt
        simp only [Sem.run_bind, run_underlying ht, Result.andThen_ok]
        unfold Instr.slice
        have hb := sliceBounds_sound (P := P) (w := w) (len := s.length) (cap := s.length) false hlo hlo' hhi hhi' el eh h0 h1 h2 (Nat.le_refl _)
        simp only [Sem.run_bind, run_underlying ht, Result.andThen_ok, es, Option.isSome_none, Bool.false_eq_true, if_false, hb, Sem.run_pure]
      · simp only [VR]
        congr 1
        apply ByteArray.ext
        rw [ByteArray.data_extract]
        apply Array.ext'
        simp [List.extract_eq_take_drop, List.drop_take]
    · simp at h
  · simp at h

end Go.Am
