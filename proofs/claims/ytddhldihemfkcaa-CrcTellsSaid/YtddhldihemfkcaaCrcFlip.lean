/-
  Bits that are flipped, and what becomes of the register.
-/
import Derived.Test.YtddhldihemfkcaaCrcMat
namespace Crc
open Go.Am

def BytesR (l : List Int) : Prop := ∀ c ∈ l, 0 ≤ c ∧ c < 256
def flip (l : List Int) (p : Nat) : List Int := l.set (p / 8) (x8 (l.getD (p / 8) 0) (2 ^ (p % 8)))
theorem flip_length (l : List Int) (p : Nat) : (flip l p).length = l.length := by simp [flip]
theorem flip_range {l : List Int} {p : Nat} (h : BytesR l) : BytesR (flip l p) := by
  intro c hc
  rcases List.mem_or_eq_of_mem_set hc with hc | rfl
  · exact h c hc
  · exact x8_range _ _

theorem b8_bit {i : Nat} (h : i < 32) : b8 (2 ^ i : Int) = bitN i := by
  unfold b8 bitN
  have : (2 ^ i : Int) = ((2 ^ i : Nat) : Int) := by simp
  rw [this]
  exact ofNat_eq _
theorem st_bit (i : Nat) (h : i + 1 < 32) : st (bitN (i + 1)) = bitN i := by
  rw [st_neg (by rw [bitN_get (i + 1) 0 h]; simp)]
  apply BitVec.eq_of_getLsbD_eq
  intro j hj
  rw [BitVec.getLsbD_ushiftRight, bitN_get (i + 1) _ h, bitN_get i j (by omega)]
  by_cases hji : j = i
  · subst hji; simp [Nat.add_comm]
  · have : ¬ 1 + j = i + 1 := by omega
    simp [hji, this]
theorem stn_bit : ∀ (i : Nat), i < 32 → stn i (bitN i) = 1#32
  | 0, _ => by decide
  | i + 1, h => by
    simp only [stn]
    rw [st_bit i h]
    exact stn_bit i (by omega)
theorem stn_bit' {i m : Nat} (h : i < 32) (hm : i ≤ m) : stn m (bitN i) = stn (m - i) 1#32 := by
  have : m = i + (m - i) := by omega
  rw [this, stn_add, stn_bit i h]
  congr 1
  omega

theorem flip_reg : ∀ (l : List Int) (s : W) (p : Nat), BytesR l → p < 8 * l.length → reg s (flip l p) = reg s l ^^^ stn (8 * l.length - p) 1#32
  | [], s, p, _, h => by simp at h
  | c :: l, s, p, hr, h => by
    have hc := hr c (by simp)
    by_cases hp : p < 8
    · have e0 : p / 8 = 0 := by omega
      have e1 : p % 8 = p := by omega
      have : flip (c :: l) p = x8 c (2 ^ p) :: l := by simp [flip, e0, e1]
      rw [this]
      simp only [reg, List.length_cons]
      have hb : (0 : Int) ≤ 2 ^ p ∧ (2 : Int) ^ p < 256 := by
        rcases p with _ | _ | _ | _ | _ | _ | _ | _ | p
        all_goals first | (constructor <;> decide) | omega
      rw [b8_x8 hc hb, b8_bit (by omega), ← BitVec.xor_assoc, stn_xor, reg_lin, ← stn_add, stn_bit' (by omega) (by omega)]
      congr 2
      omega
    · have e0 : p / 8 = (p - 8) / 8 + 1 := by omega
      have e1 : p % 8 = (p - 8) % 8 := by omega
      have : flip (c :: l) p = c :: flip l (p - 8) := by simp [flip, e0, e1]
      rw [this]
      simp only [reg, List.length_cons]
      rw [flip_reg l _ (p - 8) (fun x hx => hr x (by simp [hx])) (by simp only [List.length_cons] at h; omega)]
      congr 2
      omega

theorem par_not (x : W) : par (~~~ x) = par x := by
  rw [← not_w, par_xor]
  have : par (w32 4294967295) = false := by decide
  rw [this]; simp
theorem par_flip {l : List Int} {p : Nat} (hr : BytesR l) (hp : p < 8 * l.length) : par (sum (flip l p)) = !(par (sum l)) := by
  unfold sum
  rw [par_not, par_not, flip_reg l _ p hr hp, par_xor, par_stn]
  have : par 1#32 = true := by decide
  rw [this]; simp

/-- three lists, byte by byte -/
def x3 (a b c : List Int) : List Int := (List.range a.length).map fun i => x8 (x8 (a.getD i 0) (b.getD i 0)) (c.getD i 0)
theorem reg_x3 : ∀ (a b c : List Int) (s t v : W), b.length = a.length → c.length = a.length → BytesR a → BytesR b → BytesR c → reg (s ^^^ t ^^^ v) (x3 a b c) = reg s a ^^^ reg t b ^^^ reg v c
  | [], [], [], s, t, v, _, _, _, _, _ => rfl
  | x :: a, y :: b, z :: c, s, t, v, h1, h2, ha, hb, hc => by
    have e : x3 (x :: a) (y :: b) (z :: c) = x8 (x8 x y) z :: x3 a b c := by
      simp [x3, List.range_succ_eq_map]
    rw [e]
    simp only [reg]
    have hx := ha x (by simp)
    have hy := hb y (by simp)
    have hz := hc z (by simp)
    rw [b8_x8 (x8_range x y) hz, b8_x8 hx hy]
    have : s ^^^ t ^^^ v ^^^ (b8 x ^^^ b8 y ^^^ b8 z) = (s ^^^ b8 x) ^^^ (t ^^^ b8 y) ^^^ (v ^^^ b8 z) := by ac_rfl
    rw [this, stn_xor, stn_xor]
    exact reg_x3 a b c _ _ _ (by simpa using h1) (by simpa using h2) (fun q hq => ha q (by simp [hq])) (fun q hq => hb q (by simp [hq])) (fun q hq => hc q (by simp [hq]))
  | [], _ :: _, _, _, _, _, h, _, _, _, _ => by simp at h
  | [], [], _ :: _, _, _, _, _, h, _, _, _ => by simp at h
  | _ :: _, [], _, _, _, _, h, _, _, _, _ => by simp at h
  | _ :: _, _ :: _, [], _, _, _, _, h, _, _, _ => by simp at h
theorem not3 (a b c : W) : ~~~ a ^^^ ~~~ b ^^^ ~~~ c = ~~~ (a ^^^ b ^^^ c) := by
  rw [← not_w a, ← not_w b, ← not_w c, ← not_w (a ^^^ b ^^^ c)]
  generalize w32 4294967295 = o
  have : o ^^^ a ^^^ (o ^^^ b) ^^^ (o ^^^ c) = (o ^^^ o) ^^^ (o ^^^ (a ^^^ b ^^^ c)) := by ac_rfl
  rw [this, BitVec.xor_self, BitVec.zero_xor]
theorem sum_x3 {a b c : List Int} (h1 : b.length = a.length) (h2 : c.length = a.length) (ha : BytesR a) (hb : BytesR b) (hc : BytesR c) : sum a ^^^ sum b ^^^ sum c = sum (x3 a b c) := by
  unfold sum
  rw [not3, ← reg_x3 a b c _ _ _ h1 h2 ha hb hc]
  congr 2

/-- so many bits of a burst -/
def burstN (l : List Int) (k : Nat) (w : W) : Nat → List Int
  | 0 => l
  | i + 1 => if w.getLsbD i then flip (burstN l k w i) (k + i) else burstN l k w i
theorem burst_len (l : List Int) (k : Nat) (w : W) : ∀ i, (burstN l k w i).length = l.length
  | 0 => rfl
  | i + 1 => by
    simp only [burstN]
    split
    · rw [flip_length, burst_len l k w i]
    · exact burst_len l k w i
theorem burst_range {l : List Int} (hr : BytesR l) (k : Nat) (w : W) : ∀ i, BytesR (burstN l k w i)
  | 0 => hr
  | i + 1 => by
    simp only [burstN]
    split
    · exact flip_range (burst_range hr k w i)
    · exact burst_range hr k w i
theorem burst_reg {l : List Int} (hr : BytesR l) (k : Nat) (w s : W) : ∀ i, i ≤ 32 → k + i ≤ 8 * l.length → reg s (burstN l k w i) = reg s l ^^^ stn (8 * l.length - k) (low i w)
  | 0, _, _ => by
    show reg s l = reg s l ^^^ stn _ 0#32
    rw [stn_zero]; simp
  | i + 1, h, hk => by
    have ih := burst_reg hr k w s i (by omega) (by omega)
    have e : low (i + 1) w = low i w ^^^ (if w.getLsbD i then bitN i else 0#32) := rfl
    simp only [burstN]
    rw [e]
    cases hw : w.getLsbD i
    · simp only [Bool.false_eq_true, if_false, BitVec.xor_zero]
      exact ih
    · simp only [if_true]
      rw [flip_reg _ _ _ (burst_range hr k w i) (by rw [burst_len]; omega), ih, burst_len, stn_xor, stn_bit' (by omega) (by omega), BitVec.xor_assoc]
      congr 3
      omega
/-- a burst that the sum does not tell is none -/
theorem burst_tells {l : List Int} (hr : BytesR l) {k i : Nat} {w : W} (h : i ≤ 32) (hk : k + i ≤ 8 * l.length) (hs : sum (burstN l k w i) = sum l) : burstN l k w i = l := by
  unfold sum at hs
  have hs : reg (~~~ 0#32) (burstN l k w i) = reg (~~~ 0#32) l := by
    have := congrArg (fun x => ~~~ x) hs
    simpa using this
  rw [burst_reg hr k w _ i h hk] at hs
  have h0 : stn (8 * l.length - k) (low i w) = 0#32 := by
    have := congrArg (fun x => reg (~~~ 0#32) l ^^^ x) hs
    simp only [← BitVec.xor_assoc, BitVec.xor_self, BitVec.zero_xor] at this
    exact this
  have hl := stn_eq_zero h0
  have hbits : ∀ j, j < i → w.getLsbD j = false := fun j hj => by
    have := low_get w i h j
    rw [hl] at this
    simp [hj] at this
    exact this
  have : ∀ m, m ≤ i → burstN l k w m = l := by
    intro m
    induction m with
    | zero => intro _; rfl
    | succ m ih =>
      intro hm
      simp only [burstN, hbits m (by omega)]
      exact ih (by omega)
  exact this i (Nat.le_refl _)
end Crc
