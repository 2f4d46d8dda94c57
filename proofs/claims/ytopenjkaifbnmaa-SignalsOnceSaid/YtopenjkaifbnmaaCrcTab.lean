/-
  The table of half bytes.
-/
import Derived.Test.YtopenjkaifbnmaaCrcU
namespace Go.Am
open Crc

def tab : List AV := [.int .u32 0, .int .u32 274646895, .int .u32 549293790, .int .u32 820201905, .int .u32 1098587580, .int .u32 1361435347, .int .u32 1640403810, .int .u32 1905808397, .int .u32 2197175160, .int .u32 2460548119, .int .u32 2722870694, .int .u32 2987750089, .int .u32 3280807620, .int .u32 3553878443, .int .u32 3811616794, .int .u32 4084100981]

def tabI : List Int := [0, 274646895, 549293790, 820201905, 1098587580, 1361435347, 1640403810, 1905808397, 2197175160, 2460548119, 2722870694, 2987750089, 3280807620, 3553878443, 3811616794, 4084100981]
def tabOk (t : List AV) : Bool := okI .u32 t 0 16 && decide (ints t 0 16 = tabI)
theorem tab_ok : tabOk tab = true := by decide

theorem tabI_all : ∀ j : Fin 16, tabI[j.val]? = some (u (stn 4 (BitVec.ofNat 32 j.val))) := by decide

theorem and15 (x : W) : (x &&& 15#32).toNat < 16 := by
  rw [BitVec.toNat_and]
  exact Nat.lt_of_le_of_lt Nat.and_le_right (by decide)

theorem tab_is {t : List AV} (h : tabOk t = true) (x : W) : isI .u32 t (x &&& 15#32).toNat = true := by
  simp only [tabOk, Bool.and_eq_true] at h
  have := okI_get h.1 (and15 x)
  simpa using this
theorem tab_get {t : List AV} (h : tabOk t = true) (x : W) : getI t (x &&& 15#32).toNat = u (stn 4 (x &&& 15#32)) := by
  simp only [tabOk, Bool.and_eq_true, decide_eq_true_eq] at h
  have h2 := congrArg (fun l : List Int => l[(x &&& 15#32).toNat]?) h.2
  simp only [tabI_all ⟨_, and15 x⟩] at h2
  simp only [ints, List.getElem?_map, List.getElem?_range (and15 x), Option.map_some, Option.some.injEq, Nat.zero_add] at h2
  rw [h2]
  simp

theorem st_shift {x : W} {i : Nat} (h : x.getLsbD i = false) : st (x >>> i) = x >>> (i + 1) := by
  have : (x >>> i).getLsbD 0 = false := by rw [BitVec.getLsbD_ushiftRight]; simpa using h
  rw [st_neg this, ← BitVec.shiftRight_add]

theorem stn4 (x : W) : stn 4 x = (x >>> 4) ^^^ stn 4 (x &&& 15#32) := by
  have hx : x = (x &&& ~~~ 15#32) ^^^ (x &&& 15#32) := by
    apply BitVec.eq_of_getLsbD_eq
    intro i hi
    simp only [BitVec.getLsbD_xor, BitVec.getLsbD_and, BitVec.getLsbD_not, hi]
    cases x.getLsbD i <;> cases (15#32).getLsbD i <;> simp
  have hz : ∀ i, i < 4 → (x &&& ~~~ 15#32).getLsbD i = false := by
    intro i hi
    simp only [BitVec.getLsbD_and, BitVec.getLsbD_not]
    have : (15#32).getLsbD i = true := by
      rcases i with _ | _ | _ | _ | i
      · decide
      · decide
      · decide
      · decide
      · omega
    simp [this]
  have h4 : stn 4 (x &&& ~~~ 15#32) = (x &&& ~~~ 15#32) >>> 4 := by
    simp only [stn]
    have e0 := st_shift (hz 0 (by omega))
    rw [BitVec.ushiftRight_zero] at e0
    rw [e0, st_shift (hz 1 (by omega)), st_shift (hz 2 (by omega)), st_shift (hz 3 (by omega))]
  have hs : (x &&& ~~~ 15#32) >>> 4 = x >>> 4 := by
    apply BitVec.eq_of_getLsbD_eq
    intro i hi
    simp only [BitVec.getLsbD_ushiftRight, BitVec.getLsbD_and, BitVec.getLsbD_not]
    by_cases h : 4 + i < 32
    · have : (15#32).getLsbD (4 + i) = false := by
        have : (15#32) = BitVec.ofNat 32 (2 ^ 4 - 1) := by decide
        rw [this]
        simp only [BitVec.getLsbD_ofNat, Nat.testBit_two_pow_sub_one]
        simp
      rw [this]; simp [h]
    · have : x.getLsbD (4 + i) = false := BitVec.getLsbD_of_ge x _ (by omega)
      simp [this]
  have := stn_xor 4 (x &&& ~~~ 15#32) (x &&& 15#32)
  rw [← hx, h4, hs] at this
  exact this
end Go.Am
