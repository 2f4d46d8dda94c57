/-
  CRC-32C, plainly: the register's step, its parity, flips, linear maps.
-/
namespace Crc

abbrev W := BitVec 32
def poly : W := 2197175160#32

/-- one bit of a register -/
def st (x : W) : W := (x >>> 1) ^^^ (if x.getLsbD 0 then poly else 0#32)

def stn : Nat → W → W
  | 0, x => x
  | n + 1, x => stn n (st x)

theorem stn_add (a b : Nat) (x : W) : stn (a + b) x = stn b (stn a x) := by
  induction a generalizing x with
  | zero => simp [stn]
  | succ a ih => rw [Nat.succ_add]; simp only [stn]; exact ih _

theorem stn_succ (n : Nat) (x : W) : stn (n + 1) x = st (stn n x) := by
  have := stn_add n 1 x
  simpa [stn] using this

theorem st_xor (x y : W) : st (x ^^^ y) = st x ^^^ st y := by
  unfold st
  have h : (x ^^^ y).getLsbD 0 = ((x.getLsbD 0) ^^ (y.getLsbD 0)) := by simp
  rw [h, BitVec.ushiftRight_xor_distrib]
  have c3 : ∀ a b c : W, a ^^^ (b ^^^ c) = b ^^^ (a ^^^ c) := fun a b c => by rw [← BitVec.xor_assoc, BitVec.xor_comm a, BitVec.xor_assoc]
  cases x.getLsbD 0 <;> cases y.getLsbD 0 <;> simp [BitVec.xor_assoc]
  · rw [BitVec.xor_comm]
  · rw [c3 poly, BitVec.xor_self, BitVec.xor_zero]

theorem st_zero : st 0#32 = 0#32 := by decide

theorem stn_xor (n : Nat) (x y : W) : stn n (x ^^^ y) = stn n x ^^^ stn n y := by
  induction n generalizing x y with
  | zero => rfl
  | succ n ih => simp only [stn]; rw [st_xor, ih]

theorem stn_zero (n : Nat) : stn n 0#32 = 0#32 := by
  induction n with
  | zero => rfl
  | succ n ih => simp only [stn, st_zero]; exact ih

/-- no register but 0 becomes 0 -/
theorem st_eq_zero {x : W} (h : st x = 0#32) : x = 0#32 := by
  unfold st at h
  by_cases hb : x.getLsbD 0 = true
  · rw [if_pos hb] at h
    have := congrArg (fun y : W => y.getLsbD 31) h
    simp [poly] at this
  · rw [if_neg hb] at h
    have h2 : x >>> 1 = 0#32 := by simpa using h
    apply BitVec.eq_of_getLsbD_eq
    intro i hi
    cases i with
    | zero => simp at hb; simp [hb]
    | succ i =>
      have := congrArg (fun y : W => y.getLsbD i) h2
      simp at this
      rw [Nat.add_comm] at this
      simp [this]

theorem stn_eq_zero {n : Nat} {x : W} (h : stn n x = 0#32) : x = 0#32 := by
  induction n generalizing x with
  | zero => exact h
  | succ n ih => exact st_eq_zero (ih h)

/-! ### parity -/

def parN : Nat → W → Bool
  | 0, _ => false
  | n + 1, x => parN n x ^^ x.getLsbD n

def par (x : W) : Bool := parN 32 x

theorem parN_xor (n : Nat) (x y : W) : parN n (x ^^^ y) = (parN n x ^^ parN n y) := by
  induction n with
  | zero => rfl
  | succ n ih =>
    simp only [parN, ih, BitVec.getLsbD_xor]
    cases parN n x <;> cases parN n y <;> cases x.getLsbD n <;> cases y.getLsbD n <;> rfl

theorem par_xor (x y : W) : par (x ^^^ y) = (par x ^^ par y) := parN_xor 32 x y

theorem parN_shift (n : Nat) (x : W) : parN n (x >>> 1) = (parN (n + 1) x ^^ x.getLsbD 0) := by
  induction n with
  | zero => simp [parN]
  | succ n ih =>
    have h : (x >>> 1).getLsbD n = x.getLsbD (n + 1) := by rw [BitVec.getLsbD_ushiftRight, Nat.add_comm]
    rw [parN, ih, h]
    rw [show parN (n + 1 + 1) x = (parN (n + 1) x ^^ x.getLsbD (n + 1)) from rfl]
    cases parN (n + 1) x <;> cases x.getLsbD 0 <;> cases x.getLsbD (n + 1) <;> rfl

theorem par_st (x : W) : par (st x) = par x := by
  unfold st
  rw [par_xor]
  have h : par (x >>> 1) = (par x ^^ x.getLsbD 0) := by
    have := parN_shift 32 x
    have h32 : x.getLsbD 32 = false := BitVec.getLsbD_of_ge x 32 (by omega)
    have e : parN 33 x = (parN 32 x ^^ x.getLsbD 32) := rfl
    rw [e, h32, Bool.xor_false] at this
    exact this
  rw [h]
  have hp : par poly = true := by decide
  have h0 : par 0#32 = false := by decide
  cases hx : x.getLsbD 0 <;> simp [hp, h0]

theorem par_stn (n : Nat) (x : W) : par (stn n x) = par x := by
  induction n generalizing x with
  | zero => rfl
  | succ n ih => simp only [stn]; rw [ih, par_st]

/-! ### bytes -/

def b8 (c : Int) : W := BitVec.ofInt 32 c

/-- a register behind bytes -/
def reg : W → List Int → W
  | s, [] => s
  | s, c :: l => reg (stn 8 (s ^^^ b8 c)) l

theorem reg_append (s : W) (a b : List Int) : reg s (a ++ b) = reg (reg s a) b := by
  induction a generalizing s with
  | nil => rfl
  | cons c a ih => simp only [List.cons_append, reg]; exact ih _

theorem reg_lin (s t : W) (l : List Int) : reg (s ^^^ t) l = reg s l ^^^ stn (8 * l.length) t := by
  induction l generalizing s t with
  | nil => rfl
  | cons c l ih =>
    simp only [reg, List.length_cons]
    rw [show s ^^^ t ^^^ b8 c = (s ^^^ b8 c) ^^^ t by rw [BitVec.xor_assoc, BitVec.xor_comm t, ← BitVec.xor_assoc], stn_xor, ih]
    rw [show 8 * (l.length + 1) = 8 + 8 * l.length by omega, stn_add]

/-- the sum -/
def sum (l : List Int) : W := ~~~ (reg (~~~ 0#32) l)
def more (s : W) (l : List Int) : W := ~~~ (reg (~~~ s) l)

/-- xor of two bytes, as the program has it -/
def x8 (a b : Int) : Int := IntKind8.x a b
where IntKind8.x (a b : Int) : Int := ((BitVec.ofInt 8 a ^^^ BitVec.ofInt 8 b).toNat : Int)

theorem b8_x8 {a b : Int} (ha : 0 ≤ a ∧ a < 256) (hb : 0 ≤ b ∧ b < 256) : b8 (x8 a b) = b8 a ^^^ b8 b := by
  obtain ⟨m, rfl⟩ := Int.eq_ofNat_of_zero_le ha.1
  obtain ⟨n, rfl⟩ := Int.eq_ofNat_of_zero_le hb.1
  have hm : m < 256 := by omega
  have hn : n < 256 := by omega
  unfold b8 x8 x8.IntKind8.x
  apply BitVec.eq_of_toNat_eq
  have e1 : m % 256 = m := Nat.mod_eq_of_lt hm
  have e2 : n % 256 = n := Nat.mod_eq_of_lt hn
  have e3 : m % 4294967296 = m := Nat.mod_eq_of_lt (by omega)
  have e4 : n % 4294967296 = n := Nat.mod_eq_of_lt (by omega)
  have hx : m ^^^ n < 256 := Nat.xor_lt_two_pow (n := 8) hm hn
  have o : ∀ (w k : Nat), (BitVec.ofInt w (k : Int)).toNat = k % 2 ^ w := by intro w k; simp
  rw [o, BitVec.toNat_xor, BitVec.toNat_xor, o, o, o, o]
  show (m % 256 ^^^ n % 256) % 4294967296 = m % 4294967296 ^^^ n % 4294967296
  rw [e1, e2, e3, e4]
  omega

theorem x8_range (a b : Int) : 0 ≤ x8 a b ∧ x8 a b < 256 := by
  unfold x8 x8.IntKind8.x
  have := (BitVec.ofInt 8 a ^^^ BitVec.ofInt 8 b).isLt
  omega

end Crc
