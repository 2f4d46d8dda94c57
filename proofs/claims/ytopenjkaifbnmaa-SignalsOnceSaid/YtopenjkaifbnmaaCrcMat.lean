/-
  Linear maps of registers, by their 32 images.
-/
import Derived.Test.YtopenjkaifbnmaaCrcTab
namespace Go.Am
open Crc

def mk32 (f : Nat → W) : List AV := (List.range 32).map fun i => .int .u32 (u (f i))
theorem mk32_length (f : Nat → W) : (mk32 f).length = 32 := by simp [mk32]
theorem mk32_get (f : Nat → W) {i : Nat} (h : i < 32) : (mk32 f)[i]? = some (.int .u32 (u (f i))) := by simp [mk32, h]
theorem mk32_isI (f : Nat → W) {i : Nat} (h : i < 32) : isI .u32 (mk32 f) i = true := by simp [isI, mk32_get f h]
theorem mk32_getI (f : Nat → W) {i : Nat} (h : i < 32) : getI (mk32 f) i = u (f i) := by simp [getI, mk32_get f h]

def matOk (cs : List AV) : Bool := okI .u32 cs 0 32 && ((List.range 32).all (fun i => decide (0 ≤ getI cs i) && decide (getI cs i < 4294967296)) && Nat.beq cs.length 32)
def M (cs : List AV) (i : Nat) : W := w32 (getI cs i)
theorem matOk_eq {cs : List AV} (h : matOk cs = true) : cs = mk32 (M cs) := by
  simp only [matOk, Bool.and_eq_true, List.all_eq_true, List.mem_range, decide_eq_true_eq] at h
  obtain ⟨h1, h2, h3⟩ := h
  have h3 := Nat.eq_of_beq_eq_true h3
  apply List.ext_getElem?
  intro i
  by_cases hi : i < 32
  · rw [mk32_get _ hi]
    have := okI_get h1 hi
    rw [Nat.zero_add] at this
    rw [isI_some this]
    simp only [M]
    rw [u_w32 (h2 i hi)]
  · rw [List.getElem?_eq_none (by omega), List.getElem?_eq_none (by rw [mk32_length]; omega)]
theorem matOk_mk (f : Nat → W) : matOk (mk32 f) = true := by
  simp only [matOk, Bool.and_eq_true, List.all_eq_true, List.mem_range, decide_eq_true_eq]
  refine ⟨okI_of fun j hj => by rw [Nat.zero_add]; exact mk32_isI f hj, fun i hi => by rw [mk32_getI f hi]; exact u_range _, by rw [mk32_length]; rfl⟩
theorem M_mk (f : Nat → W) {i : Nat} (h : i < 32) : M (mk32 f) i = f i := by simp only [M, mk32_getI f h, w32_u]

/-- the images of x's bits below n, together -/
def app (f : Nat → W) : Nat → W → W
  | 0, _ => 0#32
  | n + 1, x => app f n x ^^^ (if x.getLsbD n then f n else 0#32)

theorem app_congr {f g : Nat → W} (n : Nat) (h : ∀ i, i < n → f i = g i) (x : W) : app f n x = app g n x := by
  induction n with
  | zero => rfl
  | succ n ih => simp only [app, ih fun i hi => h i (by omega), h n (by omega)]

def bitN (i : Nat) : W := BitVec.ofNat 32 (2 ^ i)
theorem bitN_get (i j : Nat) (hi : i < 32) : (bitN i).getLsbD j = decide (j = i) := by
  unfold bitN
  simp only [BitVec.getLsbD_ofNat, Nat.testBit_two_pow]
  by_cases h : j = i
  · subst h; simp [hi]
  · have : ¬ i = j := fun e => h e.symm
    simp [h, this]

/-- x's bits below n -/
def low (n : Nat) (x : W) : W := app bitN n x
theorem low_get (x : W) : ∀ n, n ≤ 32 → ∀ j, (low n x).getLsbD j = (decide (j < n) && x.getLsbD j)
  | 0, _, j => by simp [low, app]
  | n + 1, h, j => by
    have ih := low_get x n (by omega) j
    unfold low at ih ⊢
    simp only [app, BitVec.getLsbD_xor, ih]
    by_cases hj : j = n
    · subst hj
      cases hx : x.getLsbD j <;> simp [bitN_get j j (by omega)]
    · have e : decide (j < n + 1) = decide (j < n) := by
        by_cases h1 : j < n <;> simp [h1] <;> omega
      rw [e]
      cases hx : x.getLsbD n
      · simp
      · simp [bitN_get n j (by omega), hj]
theorem low_all (x : W) : low 32 x = x := by
  apply BitVec.eq_of_getLsbD_eq
  intro i hi
  rw [low_get x 32 (Nat.le_refl _)]
  simp [hi]

/-- a linear map, by its images of single bits -/
theorem app_lin {L : W → W} (h0 : L 0#32 = 0#32) (hx : ∀ x y, L (x ^^^ y) = L x ^^^ L y) (x : W) : app (fun i => L (bitN i)) 32 x = L x := by
  have : ∀ n, app (fun i => L (bitN i)) n x = L (low n x) := by
    intro n
    induction n with
    | zero => exact h0.symm
    | succ n ih =>
      unfold low at ih ⊢
      simp only [app, ih, hx]
      cases x.getLsbD n
      · simp [h0]
      · simp
  rw [this, low_all]

/-- so many bytes 0 behind -/
def zs (q : Nat) (x : W) : W := stn (8 * q) x
theorem app_zs (q : Nat) (x : W) : app (fun i => zs q (bitN i)) 32 x = zs q x := app_lin (stn_zero _) (stn_xor _) x
theorem zs_add (a b : Nat) (x : W) : zs a (zs b x) = zs (b + a) x := by
  unfold zs
  rw [← stn_add]; congr 1; omega

theorem bit_sel (x : W) (i : Nat) (hi : i < 32) : kAnd .u32 (kShr .u32 (u x) (i : Int)) 1 = if x.getLsbD i then 1 else 0 := by
  rw [kShr_u x i (by omega), kAnd_w, w32_u]
  have : (x >>> i &&& w32 1) = if x.getLsbD i then 1#32 else 0#32 := by
    apply BitVec.eq_of_getLsbD_eq
    intro j hj
    have e1 : w32 1 = 1#32 := by decide
    rw [e1]
    simp only [BitVec.getLsbD_and, BitVec.getLsbD_ushiftRight]
    by_cases h0 : j = 0
    · subst h0
      cases h : x.getLsbD i <;> simp [h]
    · have : (1#32).getLsbD j = false := by simp [h0]
      rw [this]
      split <;> simp [h0]
  rw [this]
  split <;> decide
theorem bit_odd (x : W) (i : Nat) (hi : i < 32) : ((kShr .u32 (u x) (i : Int)).tmod 2 == 1) = x.getLsbD i := by
  rw [kShr_u x i (by omega), u_tmod]
  simp
end Go.Am
