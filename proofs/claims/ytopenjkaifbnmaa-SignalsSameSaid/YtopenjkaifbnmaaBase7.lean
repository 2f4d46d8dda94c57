/-
  CRC-32C, plainly: the register's step, its parity, flips, linear maps.
  Words of 32 bits as the program holds them.
  The table of half bytes.
  Linear maps of registers, by their 32 images.
  Sets of signals: what they are, and their cells, the program's and the document's.
  What the calls on sets of signals come to, in written terms: the same words for the program's sets and the document's.
  What is owed of each call on sets of signals: once for the program's sets, once for the document's.
  The document's cells of a set: read, written, bit by bit.
  Signals: what takes leave behind.
-/
import Derived.Test.YtopenjkaifbnmaaBase3
import Derived.IntWalk
import Derived.Test.YtopenjkaifbnmaaBase5
import Derived.Test.YtopenjkaifbnmaaBase6
namespace Crc

abbrev W := BitVec 32
def poly : W := 2197175160#32

/-- one bit of a register -/
def st (x : W) : W := (x >>> 1) ^^^ (if x.getLsbD 0 then poly else 0#32)

def stn : Nat → W → W
  | 0, x => x
  | n + 1, x => stn n (st x)

theorem stn_add (a b : Nat) (x : W) : stn (a + b) x = stn b (stn a x) := by
  induction a generalizing x with
  | zero => simp [stn]
  | succ a ih => rw [Nat.succ_add]; simp only [stn]; exact ih _

theorem stn_succ (n : Nat) (x : W) : stn (n + 1) x = st (stn n x) := by
  have := stn_add n 1 x
  simpa [stn] using this

theorem st_xor (x y : W) : st (x ^^^ y) = st x ^^^ st y := by
  unfold st
  have h : (x ^^^ y).getLsbD 0 = ((x.getLsbD 0) ^^ (y.getLsbD 0)) := by simp
  rw [h, BitVec.ushiftRight_xor_distrib]
  have c3 : ∀ a b c : W, a ^^^ (b ^^^ c) = b ^^^ (a ^^^ c) := fun a b c => by rw [← BitVec.xor_assoc, BitVec.xor_comm a, BitVec.xor_assoc]
  cases x.getLsbD 0 <;> cases y.getLsbD 0 <;> simp [BitVec.xor_assoc]
  · rw [BitVec.xor_comm]
  · rw [c3 poly, BitVec.xor_self, BitVec.xor_zero]

theorem st_zero : st 0#32 = 0#32 := by decide

theorem stn_xor (n : Nat) (x y : W) : stn n (x ^^^ y) = stn n x ^^^ stn n y := by
  induction n generalizing x y with
  | zero => rfl
  | succ n ih => simp only [stn]; rw [st_xor, ih]

theorem stn_zero (n : Nat) : stn n 0#32 = 0#32 := by
  induction n with
  | zero => rfl
  | succ n ih => simp only [stn, st_zero]; exact ih

/-- no register but 0 becomes 0 -/
theorem st_eq_zero {x : W} (h : st x = 0#32) : x = 0#32 := by
  unfold st at h
  by_cases hb : x.getLsbD 0 = true
  · rw [if_pos hb] at h
    have := congrArg (fun y : W => y.getLsbD 31) h
    simp [poly] at this
  · rw [if_neg hb] at h
    have h2 : x >>> 1 = 0#32 := by simpa using h
    apply BitVec.eq_of_getLsbD_eq
    intro i hi
    cases i with
    | zero => simp at hb; simp [hb]
    | succ i =>
      have := congrArg (fun y : W => y.getLsbD i) h2
      simp at this
      rw [Nat.add_comm] at this
      simp [this]

theorem stn_eq_zero {n : Nat} {x : W} (h : stn n x = 0#32) : x = 0#32 := by
  induction n generalizing x with
  | zero => exact h
  | succ n ih => exact st_eq_zero (ih h)

/-! ### parity -/

def parN : Nat → W → Bool
  | 0, _ => false
  | n + 1, x => parN n x ^^ x.getLsbD n

def par (x : W) : Bool := parN 32 x

theorem parN_xor (n : Nat) (x y : W) : parN n (x ^^^ y) = (parN n x ^^ parN n y) := by
  induction n with
  | zero => rfl
  | succ n ih =>
    simp only [parN, ih, BitVec.getLsbD_xor]
    cases parN n x <;> cases parN n y <;> cases x.getLsbD n <;> cases y.getLsbD n <;> rfl

theorem par_xor (x y : W) : par (x ^^^ y) = (par x ^^ par y) := parN_xor 32 x y

theorem parN_shift (n : Nat) (x : W) : parN n (x >>> 1) = (parN (n + 1) x ^^ x.getLsbD 0) := by
  induction n with
  | zero => simp [parN]
  | succ n ih =>
    have h : (x >>> 1).getLsbD n = x.getLsbD (n + 1) := by rw [BitVec.getLsbD_ushiftRight, Nat.add_comm]
    rw [parN, ih, h]
    rw [show parN (n + 1 + 1) x = (parN (n + 1) x ^^ x.getLsbD (n + 1)) from rfl]
    cases parN (n + 1) x <;> cases x.getLsbD 0 <;> cases x.getLsbD (n + 1) <;> rfl

theorem par_st (x : W) : par (st x) = par x := by
  unfold st
  rw [par_xor]
  have h : par (x >>> 1) = (par x ^^ x.getLsbD 0) := by
    have := parN_shift 32 x
    have h32 : x.getLsbD 32 = false := BitVec.getLsbD_of_ge x 32 (by omega)
    have e : parN 33 x = (parN 32 x ^^ x.getLsbD 32) := rfl
    rw [e, h32, Bool.xor_false] at this
    exact this
  rw [h]
  have hp : par poly = true := by decide
  have h0 : par 0#32 = false := by decide
  cases hx : x.getLsbD 0 <;> simp [hp, h0]

theorem par_stn (n : Nat) (x : W) : par (stn n x) = par x := by
  induction n generalizing x with
  | zero => rfl
  | succ n ih => simp only [stn]; rw [ih, par_st]

/-! ### bytes -/

def b8 (c : Int) : W := BitVec.ofInt 32 c

/-- a register behind bytes -/
def reg : W → List Int → W
  | s, [] => s
  | s, c :: l => reg (stn 8 (s ^^^ b8 c)) l

theorem reg_append (s : W) (a b : List Int) : reg s (a ++ b) = reg (reg s a) b := by
  induction a generalizing s with
  | nil => rfl
  | cons c a ih => simp only [List.cons_append, reg]; exact ih _

theorem reg_lin (s t : W) (l : List Int) : reg (s ^^^ t) l = reg s l ^^^ stn (8 * l.length) t := by
  induction l generalizing s t with
  | nil => rfl
  | cons c l ih =>
    simp only [reg, List.length_cons]
    rw [show s ^^^ t ^^^ b8 c = (s ^^^ b8 c) ^^^ t by rw [BitVec.xor_assoc, BitVec.xor_comm t, ← BitVec.xor_assoc], stn_xor, ih]
    rw [show 8 * (l.length + 1) = 8 + 8 * l.length by omega, stn_add]

/-- the sum -/
def sum (l : List Int) : W := ~~~ (reg (~~~ 0#32) l)
def more (s : W) (l : List Int) : W := ~~~ (reg (~~~ s) l)

/-- xor of two bytes, as the program has it -/
def x8 (a b : Int) : Int := IntKind8.x a b
where IntKind8.x (a b : Int) : Int := ((BitVec.ofInt 8 a ^^^ BitVec.ofInt 8 b).toNat : Int)

theorem b8_x8 {a b : Int} (ha : 0 ≤ a ∧ a < 256) (hb : 0 ≤ b ∧ b < 256) : b8 (x8 a b) = b8 a ^^^ b8 b := by
  obtain ⟨m, rfl⟩ := Int.eq_ofNat_of_zero_le ha.1
  obtain ⟨n, rfl⟩ := Int.eq_ofNat_of_zero_le hb.1
  have hm : m < 256 := by omega
  have hn : n < 256 := by omega
  unfold b8 x8 x8.IntKind8.x
  apply BitVec.eq_of_toNat_eq
  have e1 : m % 256 = m := Nat.mod_eq_of_lt hm
  have e2 : n % 256 = n := Nat.mod_eq_of_lt hn
  have e3 : m % 4294967296 = m := Nat.mod_eq_of_lt (by omega)
  have e4 : n % 4294967296 = n := Nat.mod_eq_of_lt (by omega)
  have hx : m ^^^ n < 256 := Nat.xor_lt_two_pow (n := 8) hm hn
  have o : ∀ (w k : Nat), (BitVec.ofInt w (k : Int)).toNat = k % 2 ^ w := by intro w k; simp
  rw [o, BitVec.toNat_xor, BitVec.toNat_xor, o, o, o, o]
  show (m % 256 ^^^ n % 256) % 4294967296 = m % 4294967296 ^^^ n % 4294967296
  rw [e1, e2, e3, e4]
  omega

theorem x8_range (a b : Int) : 0 ≤ x8 a b ∧ x8 a b < 256 := by
  unfold x8 x8.IntKind8.x
  have := (BitVec.ofInt 8 a ^^^ BitVec.ofInt 8 b).isLt
  omega

end Crc
namespace Go.Am
open Crc

def u (x : W) : Int := (x.toNat : Int)
def w32 (n : Int) : W := BitVec.ofInt 32 n

theorem u_range (x : W) : 0 ≤ u x ∧ u x < 4294967296 := by
  have := x.isLt
  unfold u; omega
theorem u_ge (x : W) : 0 ≤ u x := (u_range x).1
theorem u_lt (x : W) : u x < 4294967296 := (u_range x).2
theorem u_def (x : W) : ((x.toNat : Nat) : Int) = u x := rfl
theorem u_wrap (x : W) : IntKind.u32.wrap (u x) = u x := by
  have := u_range x
  rw [IntKind.wrap_u32]; omega
theorem ofInt_u (x : W) : BitVec.ofInt 32 (u x) = x := by
  apply BitVec.eq_of_toNat_eq
  simp [u]
theorem w32_u (x : W) : w32 (u x) = x := ofInt_u x
theorem u_w32 {n : Int} (h : 0 ≤ n ∧ n < 4294967296) : u (w32 n) = n := by
  obtain ⟨m, rfl⟩ := Int.eq_ofNat_of_zero_le h.1
  simp [u, w32]
  omega
theorem u_inj {x y : W} : u x = u y ↔ x = y := by
  constructor
  · intro h
    have := congrArg w32 h
    rwa [w32_u, w32_u] at this
  · rintro rfl; rfl
theorem u_beq (x y : W) : (u x == u y) = (x == y) := by
  rw [Bool.eq_iff_iff]; simp [u_inj]
theorem u_bne (x y : W) : (u x != u y) = (x != y) := by simp only [bne, u_beq]
theorem u_tdiv (x : W) : (u x).tdiv 2 = u (x >>> 1) := by
  unfold u
  rw [BitVec.toNat_ushiftRight, Nat.shiftRight_eq_div_pow, Int.tdiv_eq_ediv_of_nonneg (by omega)]
  omega
theorem u_tmod (x : W) : ((u x).tmod 2 == 1) = x.getLsbD 0 := by
  unfold u
  rw [Int.tmod_eq_emod_of_nonneg (by omega)]
  simp only [BitVec.getLsbD, Nat.testBit_zero]
  rw [Bool.eq_iff_iff]
  simp
  omega
theorem fdiv_u (x : W) (k : Nat) : (u x).fdiv (2 ^ k) = u (x >>> k) := by
  unfold u
  rw [BitVec.toNat_ushiftRight, Nat.shiftRight_eq_div_pow, Int.fdiv_eq_ediv_of_nonneg _ (Int.le_of_lt (Int.pow_pos (by omega)))]
  simp
theorem ofNat_eq (n : Nat) : BitVec.ofInt 32 (n : Int) = BitVec.ofNat 32 n := by
  apply BitVec.eq_of_toNat_eq; simp

theorem st_pos {x : W} (h : x.getLsbD 0 = true) : st x = (x >>> 1) ^^^ poly := by unfold st; rw [if_pos h]
theorem st_neg {x : W} (h : x.getLsbD 0 = false) : st x = x >>> 1 := by unfold st; rw [if_neg (by rw [h]; simp)]; simp

theorem kXor_w (x y : Int) : kXor .u32 x y = u (w32 x ^^^ w32 y) := u_wrap _
theorem kAnd_w (x y : Int) : kAnd .u32 x y = u (w32 x &&& w32 y) := u_wrap _
theorem kShr_u (x : W) (k : Nat) (hk : k ≤ 32) : kShr .u32 (u x) (k : Int) = u (x >>> k) := by
  unfold kShr
  rw [show min (Int.toNat (k : Int)) (IntKind.bits .u32) = k by simp [IntKind.bits]; omega]
  exact fdiv_u x k
theorem w32_wrap (x : Int) : w32 (IntKind.u32.wrap x) = w32 x := by
  rw [IntKind.wrap_u32]
  unfold w32
  apply BitVec.eq_of_toNat_eq
  simp only [BitVec.toNat_ofInt]
  congr 1
  omega
theorem not_w (x : W) : (w32 4294967295 ^^^ x) = ~~~ x := by
  have : w32 4294967295 = BitVec.allOnes 32 := by decide
  rw [this, BitVec.allOnes_xor]
theorem kNot_u (x : W) : kNot .u32 (u x) = u (~~~ x) := by
  rw [← not_w]
  show IntKind.u32.wrap (u (w32 4294967295 ^^^ w32 (u x))) = _
  rw [u_wrap, w32_u]
theorem kXor_not (x : W) : kXor .u32 (u x) 4294967295 = u (~~~ x) := by rw [kXor_w, w32_u, BitVec.xor_comm, not_w]
end Go.Am
namespace Go.Am
open Crc

def tab : List AV := [.int .u32 0, .int .u32 274646895, .int .u32 549293790, .int .u32 820201905, .int .u32 1098587580, .int .u32 1361435347, .int .u32 1640403810, .int .u32 1905808397, .int .u32 2197175160, .int .u32 2460548119, .int .u32 2722870694, .int .u32 2987750089, .int .u32 3280807620, .int .u32 3553878443, .int .u32 3811616794, .int .u32 4084100981]

def tabI : List Int := [0, 274646895, 549293790, 820201905, 1098587580, 1361435347, 1640403810, 1905808397, 2197175160, 2460548119, 2722870694, 2987750089, 3280807620, 3553878443, 3811616794, 4084100981]
def tabOk (t : List AV) : Bool := okI .u32 t 0 16 && decide (ints t 0 16 = tabI)
theorem tab_ok : tabOk tab = true := by decide

theorem tabI_all : ∀ j : Fin 16, tabI[j.val]? = some (u (stn 4 (BitVec.ofNat 32 j.val))) := by decide

theorem and15 (x : W) : (x &&& 15#32).toNat < 16 := by
  rw [BitVec.toNat_and]
  exact Nat.lt_of_le_of_lt Nat.and_le_right (by decide)

theorem tab_is {t : List AV} (h : tabOk t = true) (x : W) : isI .u32 t (x &&& 15#32).toNat = true := by
  simp only [tabOk, Bool.and_eq_true] at h
  have := okI_get h.1 (and15 x)
  simpa using this
theorem tab_get {t : List AV} (h : tabOk t = true) (x : W) : getI t (x &&& 15#32).toNat = u (stn 4 (x &&& 15#32)) := by
  simp only [tabOk, Bool.and_eq_true, decide_eq_true_eq] at h
  have h2 := congrArg (fun l : List Int => l[(x &&& 15#32).toNat]?) h.2
  simp only [tabI_all ⟨_, and15 x⟩] at h2
  simp only [ints, List.getElem?_map, List.getElem?_range (and15 x), Option.map_some, Option.some.injEq, Nat.zero_add] at h2
  rw [h2]
  simp

theorem st_shift {x : W} {i : Nat} (h : x.getLsbD i = false) : st (x >>> i) = x >>> (i + 1) := by
  have : (x >>> i).getLsbD 0 = false := by rw [BitVec.getLsbD_ushiftRight]; simpa using h
  rw [st_neg this, ← BitVec.shiftRight_add]

theorem stn4 (x : W) : stn 4 x = (x >>> 4) ^^^ stn 4 (x &&& 15#32) := by
  have hx : x = (x &&& ~~~ 15#32) ^^^ (x &&& 15#32) := by
    apply BitVec.eq_of_getLsbD_eq
    intro i hi
    simp only [BitVec.getLsbD_xor, BitVec.getLsbD_and, BitVec.getLsbD_not, hi]
    cases x.getLsbD i <;> cases (15#32).getLsbD i <;> simp
  have hz : ∀ i, i < 4 → (x &&& ~~~ 15#32).getLsbD i = false := by
    intro i hi
    simp only [BitVec.getLsbD_and, BitVec.getLsbD_not]
    have : (15#32).getLsbD i = true := by
      rcases i with _ | _ | _ | _ | i
      · decide
      · decide
      · decide
      · decide
      · omega
    simp [this]
  have h4 : stn 4 (x &&& ~~~ 15#32) = (x &&& ~~~ 15#32) >>> 4 := by
    simp only [stn]
    have e0 := st_shift (hz 0 (by omega))
    rw [BitVec.ushiftRight_zero] at e0
    rw [e0, st_shift (hz 1 (by omega)), st_shift (hz 2 (by omega)), st_shift (hz 3 (by omega))]
  have hs : (x &&& ~~~ 15#32) >>> 4 = x >>> 4 := by
    apply BitVec.eq_of_getLsbD_eq
    intro i hi
    simp only [BitVec.getLsbD_ushiftRight, BitVec.getLsbD_and, BitVec.getLsbD_not]
    by_cases h : 4 + i < 32
    · have : (15#32).getLsbD (4 + i) = false := by
        have : (15#32) = BitVec.ofNat 32 (2 ^ 4 - 1) := by decide
        rw [this]
        simp only [BitVec.getLsbD_ofNat, Nat.testBit_two_pow_sub_one]
        simp
      rw [this]; simp [h]
    · have : x.getLsbD (4 + i) = false := BitVec.getLsbD_of_ge x _ (by omega)
      simp [this]
  have := stn_xor 4 (x &&& ~~~ 15#32) (x &&& 15#32)
  rw [← hx, h4, hs] at this
  exact this
end Go.Am
namespace Go.Am
open Crc

def mk32 (f : Nat → W) : List AV := (List.range 32).map fun i => .int .u32 (u (f i))
theorem mk32_length (f : Nat → W) : (mk32 f).length = 32 := by simp [mk32]
theorem mk32_get (f : Nat → W) {i : Nat} (h : i < 32) : (mk32 f)[i]? = some (.int .u32 (u (f i))) := by simp [mk32, h]
theorem mk32_isI (f : Nat → W) {i : Nat} (h : i < 32) : isI .u32 (mk32 f) i = true := by simp [isI, mk32_get f h]
theorem mk32_getI (f : Nat → W) {i : Nat} (h : i < 32) : getI (mk32 f) i = u (f i) := by simp [getI, mk32_get f h]

def matOk (cs : List AV) : Bool := okI .u32 cs 0 32 && ((List.range 32).all (fun i => decide (0 ≤ getI cs i) && decide (getI cs i < 4294967296)) && Nat.beq cs.length 32)
def M (cs : List AV) (i : Nat) : W := w32 (getI cs i)
theorem matOk_eq {cs : List AV} (h : matOk cs = true) : cs = mk32 (M cs) := by
  simp only [matOk, Bool.and_eq_true, List.all_eq_true, List.mem_range, decide_eq_true_eq] at h
  obtain ⟨h1, h2, h3⟩ := h
  have h3 := Nat.eq_of_beq_eq_true h3
  apply List.ext_getElem?
  intro i
  by_cases hi : i < 32
  · rw [mk32_get _ hi]
    have := okI_get h1 hi
    rw [Nat.zero_add] at this
    rw [isI_some this]
    simp only [M]
    rw [u_w32 (h2 i hi)]
  · rw [List.getElem?_eq_none (by omega), List.getElem?_eq_none (by rw [mk32_length]; omega)]
theorem matOk_mk (f : Nat → W) : matOk (mk32 f) = true := by
  simp only [matOk, Bool.and_eq_true, List.all_eq_true, List.mem_range, decide_eq_true_eq]
  refine ⟨okI_of fun j hj => by rw [Nat.zero_add]; exact mk32_isI f hj, fun i hi => by rw [mk32_getI f hi]; exact u_range _, by rw [mk32_length]; rfl⟩
theorem M_mk (f : Nat → W) {i : Nat} (h : i < 32) : M (mk32 f) i = f i := by simp only [M, mk32_getI f h, w32_u]

/-- the images of x's bits below n, together -/
def app (f : Nat → W) : Nat → W → W
  | 0, _ => 0#32
  | n + 1, x => app f n x ^^^ (if x.getLsbD n then f n else 0#32)

theorem app_congr {f g : Nat → W} (n : Nat) (h : ∀ i, i < n → f i = g i) (x : W) : app f n x = app g n x := by
  induction n with
  | zero => rfl
  | succ n ih => simp only [app, ih fun i hi => h i (by omega), h n (by omega)]

def bitN (i : Nat) : W := BitVec.ofNat 32 (2 ^ i)
theorem bitN_get (i j : Nat) (hi : i < 32) : (bitN i).getLsbD j = decide (j = i) := by
  unfold bitN
  simp only [BitVec.getLsbD_ofNat, Nat.testBit_two_pow]
  by_cases h : j = i
  · subst h; simp [hi]
  · have : ¬ i = j := fun e => h e.symm
    simp [h, this]

/-- x's bits below n -/
def low (n : Nat) (x : W) : W := app bitN n x
theorem low_get (x : W) : ∀ n, n ≤ 32 → ∀ j, (low n x).getLsbD j = (decide (j < n) && x.getLsbD j)
  | 0, _, j => by simp [low, app]
  | n + 1, h, j => by
    have ih := low_get x n (by omega) j
    unfold low at ih ⊢
    simp only [app, BitVec.getLsbD_xor, ih]
    by_cases hj : j = n
    · subst hj
      cases hx : x.getLsbD j <;> simp [bitN_get j j (by omega)]
    · have e : decide (j < n + 1) = decide (j < n) := by
        by_cases h1 : j < n <;> simp [h1] <;> omega
      rw [e]
      cases hx : x.getLsbD n
      · simp
      · simp [bitN_get n j (by omega), hj]
theorem low_all (x : W) : low 32 x = x := by
  apply BitVec.eq_of_getLsbD_eq
  intro i hi
  rw [low_get x 32 (Nat.le_refl _)]
  simp [hi]

/-- a linear map, by its images of single bits -/
theorem app_lin {L : W → W} (h0 : L 0#32 = 0#32) (hx : ∀ x y, L (x ^^^ y) = L x ^^^ L y) (x : W) : app (fun i => L (bitN i)) 32 x = L x := by
  have : ∀ n, app (fun i => L (bitN i)) n x = L (low n x) := by
    intro n
    induction n with
    | zero => exact h0.symm
    | succ n ih =>
      unfold low at ih ⊢
      simp only [app, ih, hx]
      cases x.getLsbD n
      · simp [h0]
      · simp
  rw [this, low_all]

/-- so many bytes 0 behind -/
def zs (q : Nat) (x : W) : W := stn (8 * q) x
theorem app_zs (q : Nat) (x : W) : app (fun i => zs q (bitN i)) 32 x = zs q x := app_lin (stn_zero _) (stn_xor _) x
theorem zs_add (a b : Nat) (x : W) : zs a (zs b x) = zs (b + a) x := by
  unfold zs
  rw [← stn_add]; congr 1; omega

theorem bit_sel (x : W) (i : Nat) (hi : i < 32) : kAnd .u32 (kShr .u32 (u x) (i : Int)) 1 = if x.getLsbD i then 1 else 0 := by
  rw [kShr_u x i (by omega), kAnd_w, w32_u]
  have : (x >>> i &&& w32 1) = if x.getLsbD i then 1#32 else 0#32 := by
    apply BitVec.eq_of_getLsbD_eq
    intro j hj
    have e1 : w32 1 = 1#32 := by decide
    rw [e1]
    simp only [BitVec.getLsbD_and, BitVec.getLsbD_ushiftRight]
    by_cases h0 : j = 0
    · subst h0
      cases h : x.getLsbD i <;> simp [h]
    · have : (1#32).getLsbD j = false := by simp [h0]
      rw [this]
      split <;> simp [h0]
  rw [this]
  split <;> decide
theorem bit_odd (x : W) (i : Nat) (hi : i < 32) : ((kShr .u32 (u x) (i : Int)).tmod 2 == 1) = x.getLsbD i := by
  rw [kShr_u x i (by omega), u_tmod]
  simp
end Go.Am
namespace Go.Am
open Crc

/-- a set: what is pending, held back, handled -/
structure Sg where
  wt : W
  hd : W
  at_ : Nat → W
  hw : wt &&& 65534#32 = wt
  hh : hd &&& 65532#32 = hd
  ha : ∀ i, i < 2 ∨ 16 ≤ i → at_ i = 0#32
theorem Sg.ext {p q : Sg} (h1 : p.wt = q.wt) (h2 : p.hd = q.hd) (h3 : ∀ i, p.at_ i = q.at_ i) : p = q := by
  cases p; cases q
  have : ∀ f g : Nat → W, (∀ i, f i = g i) → f = g := fun f g h => funext h
  simp only at h1 h2 h3
  subst h1 h2
  have := this _ _ h3
  subst this
  rfl
theorem and_idem (x m : W) : x &&& m &&& m = x &&& m := by rw [BitVec.and_assoc, BitVec.and_self]
/-- cells as a set -/
def decP (cs : List AV) : Sg where
  wt := w32 (getI cs 1) &&& 65534#32
  hd := w32 (getI cs 2) &&& 65532#32
  at_ i := if i < 2 ∨ 16 ≤ i then 0#32 else w32 (getI cs (i + 3))
  hw := and_idem _ _
  hh := and_idem _ _
  ha i h := if_pos h
def at16 (f : Nat → W) : List AV := (List.range 16).map fun i => .int .u32 (u (f i))
def bits16 (x : W) : List AV := (List.range 16).map fun i => .bool (x.getLsbD i)
/-- the program's cells -/
def encP (p : Sg) : List AV := .bool true :: .int .u32 (u p.wt) :: .int .u32 (u p.hd) :: at16 p.at_
/-- the document's cells -/
def encR (p : Sg) : List AV := bits16 p.wt ++ (bits16 p.hd ++ at16 p.at_)

theorem at16_length (f : Nat → W) : (at16 f).length = 16 := by simp [at16]
theorem bits16_length (x : W) : (bits16 x).length = 16 := by simp [bits16]
theorem at16_get (f : Nat → W) {i : Nat} (h : i < 16) : (at16 f)[i]? = some (.int .u32 (u (f i))) := by simp [at16, h]
theorem bits16_get (x : W) {i : Nat} (h : i < 16) : (bits16 x)[i]? = some (.bool (x.getLsbD i)) := by simp [bits16, h]
theorem encP_length (p : Sg) : (encP p).length = 19 := by simp [encP, at16_length]
theorem encR_length (p : Sg) : (encR p).length = 48 := by simp [encR, at16_length, bits16_length]
theorem encP_at (p : Sg) {i : Nat} (h : i < 16) : (encP p)[i + 3]? = some (.int .u32 (u (p.at_ i))) := by
  simp only [encP, List.getElem?_cons_succ]
  exact at16_get p.at_ h
theorem encP_isI (p : Sg) {i : Nat} (h : i < 16) : isI .u32 (encP p) (i + 3) = true := by simp [isI, encP_at p h]
theorem encP_getI (p : Sg) {i : Nat} (h : i < 16) : getI (encP p) (i + 3) = u (p.at_ i) := by simp [getI, encP_at p h]
theorem decP_enc (p : Sg) : decP (encP p) = p := by
  refine Sg.ext ?_ ?_ fun i => ?_
  · show w32 (u p.wt) &&& 65534#32 = _
    rw [w32_u, p.hw]
  · show w32 (u p.hd) &&& 65532#32 = _
    rw [w32_u, p.hh]
  · simp only [decP]
    by_cases h : i < 2 ∨ 16 ≤ i
    · rw [if_pos h, p.ha i h]
    · rw [if_neg h, encP_getI p (by omega), w32_u]
/-- are these cells a set's? -/
def okP (cs : List AV) : Bool := Nat.beq cs.length 19 && (isB cs 0 && (getB cs 0 && (okI .u32 cs 1 18 && (List.range 19).all fun j => getI cs j == getI (encP (decP cs)) j)))
theorem okP_eq {cs : List AV} (h : okP cs = true) : cs = encP (decP cs) := by
  simp only [okP, Bool.and_eq_true, List.all_eq_true, List.mem_range, beq_iff_eq] at h
  obtain ⟨h1, h2, h3, h4, h5⟩ := h
  have h1 := Nat.eq_of_beq_eq_true h1
  have ee : ∀ j, j < 18 → ∃ n, (encP (decP cs))[j + 1]? = some (.int .u32 n) := fun j hj => by
    rcases j with _ | _ | j
    · exact ⟨_, rfl⟩
    · exact ⟨_, rfl⟩
    · exact ⟨_, encP_at _ (by omega)⟩
  have key : ∀ j, j < 18 → cs[j + 1]? = (encP (decP cs))[j + 1]? := fun j hj => by
    have e1 := isI_some (okI_get h4 hj)
    rw [Nat.add_comm 1 j] at e1
    obtain ⟨n, e2⟩ := ee j hj
    rw [e1, e2]
    have := h5 (j + 1) (by omega)
    rw [this]
    simp [getI, e2]
  apply List.ext_getElem?
  intro i
  rcases i with _ | i
  · rw [isB_some h2, h3]; rfl
  · by_cases hi : i < 18
    · exact key i hi
    · rw [List.getElem?_eq_none (by omega), List.getElem?_eq_none (by rw [encP_length]; omega)]
theorem okP_enc (p : Sg) : okP (encP p) = true := by
  simp only [okP, Bool.and_eq_true, List.all_eq_true, List.mem_range, beq_iff_eq]
  refine ⟨by rw [encP_length]; rfl, rfl, rfl, okI_of fun j hj => ?_, fun j _ => by rw [decP_enc]⟩
  have : ∃ x : W, (encP p)[j + 1]? = some (.int .u32 (u x)) := by
    rcases j with _ | _ | j
    · exact ⟨p.wt, rfl⟩
    · exact ⟨p.hd, rfl⟩
    · exact ⟨p.at_ j, encP_at p (by omega)⟩
  obtain ⟨x, hx⟩ := this
  rw [Nat.add_comm]
  simp [isI, hx]
theorem encP_flat (n : Nat) (p : Sg) : bnds n (encP p) = true := by rw [bnds_eq]; simp [encP, at16, bnd]
theorem encR_flat (n : Nat) (p : Sg) : bnds n (encR p) = true := by rw [bnds_eq]; simp [encR, at16, bits16, bnd]
theorem encP_cells (p : Sg) : cellsB (encP p) = true := by simp [cellsB, encP, at16, isCell]
theorem encR_cells (p : Sg) : cellsB (encR p) = true := by simp [cellsB, encR, at16, bits16, isCell]

/-! reading and writing the cells -/
theorem encP_0 (p : Sg) : getB (encP p) 0 = true := rfl
theorem encP_1 (p : Sg) : getI (encP p) 1 = u p.wt := rfl
theorem encP_2 (p : Sg) : getI (encP p) 2 = u p.hd := rfl
theorem encP_b0 (p : Sg) : isB (encP p) 0 = true := rfl
theorem encP_i1 (p : Sg) : isI .u32 (encP p) 1 = true := rfl
theorem encP_i2 (p : Sg) : isI .u32 (encP p) 2 = true := rfl
theorem encR_w (p : Sg) {i : Nat} (h : i < 16) : (encR p)[i]? = some (.bool (p.wt.getLsbD i)) := by
  rw [encR, List.getElem?_append_left (by rw [bits16_length]; exact h), bits16_get _ h]
theorem encR_h (p : Sg) {i : Nat} (h : i < 16) : (encR p)[i + 16]? = some (.bool (p.hd.getLsbD i)) := by
  rw [encR, List.getElem?_append_right (by rw [bits16_length]; omega), bits16_length, Nat.add_sub_cancel, List.getElem?_append_left (by rw [bits16_length]; exact h), bits16_get _ h]
theorem encR_a (p : Sg) {i : Nat} (h : i < 16) : (encR p)[i + 32]? = some (.int .u32 (u (p.at_ i))) := by
  rw [encR, List.getElem?_append_right (by rw [bits16_length]; omega), bits16_length, show i + 32 - 16 = i + 16 by omega, List.getElem?_append_right (by rw [bits16_length]; omega), bits16_length, Nat.add_sub_cancel, at16_get _ h]

/-! ### what the calls do -/
def updA (f : Nat → W) (i : Nat) (x : W) : Nat → W := fun j => if j = i then (if i < 2 ∨ 16 ≤ i then 0#32 else x) else f j
def setW (p : Sg) (x : W) : Sg := { p with wt := x &&& 65534#32, hw := and_idem _ _ }
def setH (p : Sg) (x : W) : Sg := { p with hd := x &&& 65532#32, hh := and_idem _ _ }
theorem updA_ha (p : Sg) (i : Nat) (x : W) : ∀ j, j < 2 ∨ 16 ≤ j → updA p.at_ i x j = 0#32 := fun j hj => by
  unfold updA
  split
  · rename_i h; subst h; exact if_pos hj
  · exact p.ha j hj
def setA (p : Sg) (i : Nat) (x : W) : Sg := { p with at_ := updA p.at_ i x, ha := updA_ha p i x }
def send (p : Sg) (n : Int) : Sg := setW p (p.wt ||| bitN n.toNat)
def mask (p : Sg) (b : Int) : Sg := setH p (w32 b)
def handle (p : Sg) (n a : Int) : Sg := setA p n.toNat (w32 a)

/-- the lowest bit among 1 to 15; 0: none -/
def lowFrom (x : W) : Nat → Nat → Nat
  | 0, _ => 0
  | f + 1, i => if x.getLsbD i then i else lowFrom x f (i + 1)
def lowest (x : W) : Nat := lowFrom x 15 1
theorem lowFrom_le (x : W) : ∀ f i, lowFrom x f i = 0 ∨ (i ≤ lowFrom x f i ∧ lowFrom x f i < i + f ∧ x.getLsbD (lowFrom x f i) = true ∧ ∀ j, i ≤ j → j < lowFrom x f i → x.getLsbD j = false)
  | 0, i => .inl rfl
  | f + 1, i => by
    unfold lowFrom
    split
    · rename_i h
      exact .inr ⟨Nat.le_refl _, by omega, h, fun j h1 h2 => by omega⟩
    · rename_i h
      rcases lowFrom_le x f (i + 1) with h0 | ⟨h1, h2, h3, h4⟩
      · exact .inl h0
      · refine .inr ⟨by omega, by omega, h3, fun j h5 h6 => ?_⟩
        by_cases hj : j = i
        · subst hj; simpa using h
        · exact h4 j (by omega) h6
theorem lowFrom_none (x : W) : ∀ f i, 1 ≤ i → lowFrom x f i = 0 → ∀ j, i ≤ j → j < i + f → x.getLsbD j = false
  | 0, i, _, _, j, h1, h2 => by omega
  | f + 1, i, hi, h, j, h1, h2 => by
    unfold lowFrom at h
    split at h
    · omega
    · rename_i hb
      by_cases hj : j = i
      · subst hj; simpa using hb
      · exact lowFrom_none x f (i + 1) (by omega) h j (by omega) (by omega)
theorem lowest_lt (x : W) : lowest x < 16 := by
  rcases lowFrom_le x 15 1 with h | ⟨_, h, _⟩
  · unfold lowest; omega
  · unfold lowest; omega
theorem lowFrom_succ (x : W) (f i : Nat) : lowFrom x (f + 1) i = if x.getLsbD i then i else lowFrom x f (i + 1) := rfl

/-! Take -/
def tkN (p : Sg) : Nat := lowest (p.wt &&& ~~~ p.hd)
def tkOk (p : Sg) : Bool := !(Nat.beq (tkN p) 0) && !(p.at_ (tkN p) == 1#32)
def tkSig (p : Sg) : Int := if tkOk p then tkN p else 0
def tkEnds (p : Sg) : Bool := tkOk p && (p.at_ (tkN p) == 0#32)
def tkAt (p : Sg) : Int := if tkOk p then u (p.at_ (tkN p)) else 0
def tkP (p : Sg) : Sg := if tkN p = 0 then p else setW p (p.wt &&& ~~~ bitN (tkN p))

/-! Pending -/
def pend (x : W) : List Nat := ((List.range 15).map (· + 1)).filter fun i => x.getLsbD i
def pendTo (x : W) (i : Nat) : List Nat := ((List.range i).map (· + 1)).filter fun i => x.getLsbD i
theorem pendTo_succ (x : W) (i : Nat) : pendTo x (i + 1) = pendTo x i ++ (if x.getLsbD (i + 1) then [i + 1] else []) := by
  unfold pendTo
  rw [List.range_succ, List.map_append, List.filter_append]
  congr 1
  simp only [List.map_cons, List.map_nil, List.filter_cons, List.filter_nil]
theorem pendTo_length (x : W) (i : Nat) : (pendTo x i).length ≤ i := by
  have := List.length_filter_le (fun i => x.getLsbD i) ((List.range i).map (· + 1))
  simpa [pendTo] using this
def nl (l : List Nat) : List AV := l.map fun (i : Nat) => AV.int .i64 (Int.ofNat i)
theorem nl_append (a b : List Nat) : nl (a ++ b) = nl a ++ nl b := by simp [nl]
theorem nl_length (a : List Nat) : (nl a).length = a.length := by simp [nl]
theorem nl_flat (n : Nat) (a : List Nat) : bnds n (nl a) = true := by rw [bnds_eq]; simp [nl, bnd]
theorem nl_rens (θ : List Nat) (a : List Nat) : rens θ (nl a) = nl a := rens_flat θ _ (nl_flat 0 a)

theorem u_of (x : W) : Int.ofNat (BitVec.toNat x) = u x := rfl
theorem kAndNot_w (x y : Int) : kAndNot .u32 x y = u (w32 x &&& ~~~ w32 y) := u_wrap _
theorem kOr_w (x y : Int) : kOr .u32 x y = u (w32 x ||| w32 y) := u_wrap _
theorem kShl1 {i : Nat} (h : i < 32) : kShl .u32 1 (i : Int) = u (bitN i) := by
  unfold kShl
  rw [show min (Int.toNat (i : Int)) (IntKind.bits .u32) = i by simp [IntKind.bits]; omega, Int.one_mul]
  have hlt : 2 ^ i < 4294967296 := by
    have : 2 ^ i < 2 ^ 32 := Nat.pow_lt_pow_right (by omega) h
    simpa using this
  have e : u (bitN i) = ((2 ^ i : Nat) : Int) := by
    unfold u bitN
    rw [BitVec.toNat_ofNat, Nat.mod_eq_of_lt (by simpa using hlt)]
  rw [e, show (2 : Int) ^ i = ((2 ^ i : Nat) : Int) by simp, IntKind.wrap_u32]
  generalize 2 ^ i = m at *
  omega
theorem wrap_w32 (a : Int) : IntKind.u32.wrap a = u (w32 a) := by
  rw [IntKind.wrap_u32]
  have := u_w32 (n := a % 4294967296) (by omega)
  rw [← this]
  congr 1
  unfold w32
  apply BitVec.eq_of_toInt_eq
  simp only [BitVec.toInt_ofInt]
  show Int.bmod (a % 4294967296) 4294967296 = Int.bmod a 4294967296
  unfold Int.bmod
  simp
end Go.Am
namespace Go.Am
open Crc

def eqC : AV → AV → Bool
  | .bool a, .bool b => a == b
  | .int k a, .int k' b => k == k' && a == b
  | _, _ => false
def eqCs : List AV → List AV → Bool
  | [], [] => true
  | x :: l, y :: m => eqC x y && eqCs l m
  | _, _ => false
theorem eqC_eq {x y : AV} (h : eqC x y = true) : x = y := by
  unfold eqC at h
  split at h
  · rw [eq_of_beq h]
  · simp only [Bool.and_eq_true, beq_iff_eq] at h; rw [h.1, h.2]
  · simp at h
theorem eqCs_eq : ∀ {l m : List AV}, eqCs l m = true → l = m
  | [], [], _ => rfl
  | x :: l, y :: m, h => by
    simp only [eqCs, Bool.and_eq_true] at h
    rw [eqC_eq h.1, eqCs_eq h.2]
  | [], _ :: _, h => by simp [eqCs] at h
  | _ :: _, [], h => by simp [eqCs] at h

def onP {α : Type} (d : α) (f : Sg → α) : List AV → α := fun as => match as with
  | .agg cs :: _ => f (decP cs)
  | _ => d
def onPI {α : Type} (d : α) (f : Sg → Int → α) : List AV → α := fun as => match as with
  | [.agg cs, .int _ n] => f (decP cs) n
  | _ => d
def okU : List AV → Bool := fun as => match as with
  | [.agg cs] => okP cs
  | _ => false
/-- are the one's cells the document's for the other's? -/
def okRU : List AV → Bool := fun as => match as with
  | [.agg ds, .agg cs] => okP cs && eqCs ds (encR (decP cs))
  | _ => false
def encRU : List AV → List AV := onP [] encR
def sendU : List AV → List AV := onPI [] fun p n => encP (send p n)
def maskU : List AV → List AV := onPI [] fun p n => encP (mask p n)
def heldU : List AV → Int := onP 0 fun p => u p.hd
def handleU : List AV → List AV := fun as => match as with
  | [.agg cs, .int _ n, .int _ a] => encP (handle (decP cs) n a)
  | _ => []
def atU : List AV → Int := onPI 0 fun p n => u (p.at_ n.toNat)
def tkU : List AV → List AV := onP [] fun p => encP (tkP p)
def tkSigU : List AV → Int := onP 0 tkSig
def tkEndsU : List AV → Bool := onP false tkEnds
def tkAtU : List AV → Int := onP 0 tkAt
def tkOkU : List AV → Bool := onP false tkOk
def pendU : List AV → List AV := onP [] fun p => nl (pend p.wt)
def pendNU : List AV → Nat := onP 0 fun p => (pend p.wt).length
def waitsB (p : Sg) (n : Int) : Bool := (p.wt &&& p.hd).getLsbD n.toNat
def waitsU : List AV → Bool := onPI false waitsB
def childU : List AV → List AV := onP [] fun p => encP (setW p 0#32)
def sameB (p q : Sg) : Bool := p.wt == q.wt && (p.hd == q.hd && (List.range 16).all fun i => p.at_ i == q.at_ i)
def sameU : List AV → Bool := fun as => match as with
  | [.agg cs, .agg ds] => sameB (decP cs) (decP ds)
  | _ => false

/-- the two ways to lay a set -/
structure Side where
  get : EL → Option (EB × EL)
  put : EL → EL
def sideP : Side := ⟨fun l => some (.uf 1001 okU [.agg l], l), fun l => l⟩
def sideR : Side := ⟨fun l => match l with
  | .uf 1002 f [.agg d] => some (.uf 1003 okRU [.agg (.uf 1002 f [.agg d]), .agg d], d)
  | _ => none, fun l => .uf 1002 encRU [.agg l]⟩
/-- a call on a set -/
def onSet (s : Side) (k : Nat → EL → List EV → Option Outs) : DSum := fun args H => match args with
  | .ptr (.rw i) (.lit 0) :: rest => match H[i]? with
    | some (some ⟨1, cs⟩) => match s.get cs with
      | some (b, l) => match k i l rest with
        | some o => some (.chk b o)
        | none => none
      | none => none
    | _ => none
  | _ => none
def eno (n : Int) : EV := .int .i64 (.lit n)
def outOf (n : EI) (lo hi : Int) (bad good : Outs) : Outs := .tst (.cmp .lss n (.lit lo)) bad (.tst (.cmp .gtr n (.lit hi)) bad good)
def sendS (s : Side) : DSum := onSet s fun i l rest => match rest with
  | [.int .i64 n] => some (outOf n 0 15 (.one (eno 2) []) (.one (eno 0) [.set i ⟨1, s.put (.uf 1010 sendU [.agg l, .int .i64 n])⟩]))
  | _ => none
def maskS (s : Side) : DSum := onSet s fun i l rest => match rest with
  | [.int .i64 n] => some (.one (.tup [.int .i64 (.uf 1012 heldU [.agg l]), eno 0]) [.set i ⟨1, s.put (.uf 1011 maskU [.agg l, .int .i64 n])⟩])
  | _ => none
def handleS (s : Side) : DSum := onSet s fun i l rest => match rest with
  | [.int .i64 n, .int .i64 a] => some (outOf n 2 15 (.one (.tup [eno 0, eno 2]) []) (outOf a 0 4294967295 (.one (.tup [eno 0, eno 2]) [])
      (.one (.tup [.int .i64 (.uf 1014 atU [.agg l, .int .i64 n]), eno 0]) [.set i ⟨1, s.put (.uf 1013 handleU [.agg l, .int .i64 n, .int .i64 a])⟩])))
  | _ => none
def takeS (s : Side) : DSum := onSet s fun i l rest => match rest with
  | [] => some (.one (.tup [.agg (.of [.int .i64 (.uf 1016 tkSigU [.agg l]), .bool (.uf 1017 tkEndsU [.agg l]), .int .u32 (.uf 1018 tkAtU [.agg l])]), .bool (.uf 1019 tkOkU [.agg l])]) [.set i ⟨1, s.put (.uf 1015 tkU [.agg l])⟩])
  | _ => none
def pendS (s : Side) : DSum := fun args H => onSet s (fun _ l rest => match rest with
  | [] => some (.one (.slice true (.rw H.length) (.lit 0) (.uf 1021 pendNU [.agg l])) [.new ⟨1, .uf 1020 pendU [.agg l]⟩])
  | _ => none) args H
def heldS (s : Side) : DSum := onSet s fun _ l rest => match rest with
  | [] => some (.one (.int .i64 (.uf 1012 heldU [.agg l])) [])
  | _ => none
def handlerS (s : Side) : DSum := onSet s fun _ l rest => match rest with
  | [.int .i64 n] => some (outOf n 1 15 (.one (.tup [.int .u32 (.lit 0), .bool (.lit false)]) []) (.one (.tup [.int .u32 (.uf 1014 atU [.agg l, .int .i64 n]), .bool (.lit true)]) []))
  | _ => none
def waitsS (s : Side) : DSum := onSet s fun _ l rest => match rest with
  | [.int .i64 n] => some (outOf n 1 15 (.one (.bool (.lit false)) []) (.one (.bool (.uf 1022 waitsU [.agg l, .int .i64 n])) []))
  | _ => none
def copyS (s : Side) : DSum := fun args H => onSet s (fun _ l rest => match rest with
  | [] => some (.one (.ptr (.rw H.length) (.lit 0)) [.new ⟨1, s.put l⟩])
  | _ => none) args H
def childS (s : Side) : DSum := fun args H => onSet s (fun _ l rest => match rest with
  | [] => some (.one (.ptr (.rw H.length) (.lit 0)) [.new ⟨1, s.put (.uf 1023 childU [.agg l])⟩])
  | _ => none) args H

/-! what the words are worth -/
section
variable (p : Sg)
theorem okU_enc : okU [.agg (encP p)] = true := okP_enc p
theorem encRU_enc : encRU [.agg (encP p)] = encR p := by simp only [encRU, onP, decP_enc]
theorem okRU_enc : okRU [.agg (encR p), .agg (encP p)] = true := by
  have : ∀ l : List AV, l.all (fun x => eqC x x) = true → eqCs l l = true := by
    intro l
    induction l with
    | nil => intro _; rfl
    | cons x l ih => intro h; simp only [List.all_cons, Bool.and_eq_true] at h; simp only [eqCs, h.1, ih h.2, Bool.and_self]
  simp only [okRU, okP_enc, decP_enc, Bool.true_and]
  apply this
  simp [encR, at16, bits16, eqC]
theorem sendU_enc {k : IntKind} (n : Int) : sendU [.agg (encP p), .int k n] = encP (send p n) := by simp only [sendU, onPI, decP_enc]
theorem maskU_enc {k : IntKind} (n : Int) : maskU [.agg (encP p), .int k n] = encP (mask p n) := by simp only [maskU, onPI, decP_enc]
theorem heldU_enc : heldU [.agg (encP p)] = u p.hd := by simp only [heldU, onP, decP_enc]
theorem handleU_enc {k k' : IntKind} (n a : Int) : handleU [.agg (encP p), .int k n, .int k' a] = encP (handle p n a) := by simp only [handleU, decP_enc]
theorem atU_enc {k : IntKind} (n : Int) : atU [.agg (encP p), .int k n] = u (p.at_ n.toNat) := by simp only [atU, onPI, decP_enc]
theorem tkU_enc : tkU [.agg (encP p)] = encP (tkP p) := by simp only [tkU, onP, decP_enc]
theorem tkSigU_enc : tkSigU [.agg (encP p)] = tkSig p := by simp only [tkSigU, onP, decP_enc]
theorem tkEndsU_enc : tkEndsU [.agg (encP p)] = tkEnds p := by simp only [tkEndsU, onP, decP_enc]
theorem tkAtU_enc : tkAtU [.agg (encP p)] = tkAt p := by simp only [tkAtU, onP, decP_enc]
theorem tkOkU_enc : tkOkU [.agg (encP p)] = tkOk p := by simp only [tkOkU, onP, decP_enc]
theorem pendU_enc : pendU [.agg (encP p)] = nl (pend p.wt) := by simp only [pendU, onP, decP_enc]
theorem pendNU_enc : pendNU [.agg (encP p)] = (pend p.wt).length := by simp only [pendNU, onP, decP_enc]
theorem waitsU_enc {k : IntKind} (n : Int) : waitsU [.agg (encP p), .int k n] = waitsB p n := by simp only [waitsU, onPI, decP_enc]
theorem childU_enc : childU [.agg (encP p)] = encP (setW p 0#32) := by simp only [childU, onP, decP_enc]
end
/-- the empty set, as it is laid -/
def zeroP : Sg := ⟨0#32, 0#32, fun _ => 0#32, rfl, rfl, fun _ _ => rfl⟩

/-- a side's cells -/
structure SideOk (G : Nat → List AV) (s : Side) (enc : Sg → List AV) : Prop where
  get : ∀ l b d, s.get l = some (b, d) → vB G b = true → ∃ p, vL G d = encP p ∧ vL G l = enc p
  put : ∀ l p, vL G l = encP p → vL G (s.put l) = enc p
  flat : ∀ p n, bnds n (enc p) = true
theorem sideP_ok (G : Nat → List AV) : SideOk G sideP encP := by
  refine ⟨fun l b d h hb => ?_, fun l p h => h, fun p n => encP_flat n p⟩
  simp only [sideP, Option.some.injEq, Prod.mk.injEq] at h
  obtain ⟨rfl, rfl⟩ := h
  simp only [vB, vVs, vV, okU] at hb
  exact ⟨_, okP_eq hb, okP_eq hb⟩
theorem sideR_ok (G : Nat → List AV) : SideOk G sideR encR := by
  refine ⟨fun l b d h hb => ?_, fun l p h => ?_, fun p n => encR_flat n p⟩
  · simp only [sideR] at h
    split at h
    · simp only [Option.some.injEq, Prod.mk.injEq] at h
      obtain ⟨rfl, rfl⟩ := h
      simp only [vB, vVs, vV, okRU, Bool.and_eq_true] at hb
      exact ⟨_, okP_eq hb.1, eqCs_eq hb.2⟩
    · simp at h
  · simp only [sideR, vL, vVs, vV, h, encRU_enc]
/-- a summary on a side: what is owed of it -/
theorem onSet_ok {C : Ctx} {s : Side} {enc : Sg → List AV} (hs : SideOk C.G s enc) {f : FuncId} {k : DHp → Nat → EL → List EV → Option Outs}
    (h : ∀ (H : DHp) (i : Nat) (l l0 : EL) (rest : List EV) (o : Outs) (p : Sg), k H i l rest = some o → vL C.G l = encP p → vL C.G l0 = enc p → H[i]? = some (some ⟨1, l0⟩) → oAll C.G (DOut C f (.ptr (.rw i) (.lit 0) :: rest) H) o) :
    DSumOk C f (fun args H => onSet s (k H) args H) := by
  intro args H o ho
  simp only [onSet] at ho
  split at ho
  · rename_i i rest
    split at ho
    · rename_i cs hi
      split at ho
      · rename_i b l hg
        split at ho
        · rename_i o' hk
          simp at ho; subst ho
          exact fun hb => by
            obtain ⟨p, h1, h2⟩ := hs.get _ _ _ hg hb
            exact h H i l cs rest o' p hk h1 h2 hi
        · simp at ho
      · simp at ho
    · simp at ho
  · simp at ho
theorem oAll_outOf {G : Nat → List AV} {P : EV → List DHop → Prop} {n : EI} {lo hi : Int} {bad good : Outs} (h1 : (vI G n < lo ∨ hi < vI G n) → oAll G P bad) (h2 : lo ≤ vI G n → vI G n ≤ hi → oAll G P good) : oAll G P (outOf n lo hi bad good) := by
  have lt : ∀ (x y : Int), cmpI .lss x y = true ↔ x < y := fun x y => by unfold cmpI; exact decide_eq_true_iff
  have gt : ∀ (x y : Int), cmpI .gtr x y = true ↔ y < x := fun x y => by unfold cmpI; exact decide_eq_true_iff
  have no : ∀ {b : Bool}, b = false → ¬ b = true := fun h h' => by rw [h] at h'; simp at h'
  refine ⟨fun h => ?_, fun h => ⟨fun h' => ?_, fun h' => ?_⟩⟩
  · exact h1 (.inl ((lt _ _).1 h))
  · exact h1 (.inr ((gt _ _).1 h'))
  · have e1 : ¬ vI G n < lo := fun h3 => no h ((lt _ _).2 h3)
    have e2 : ¬ hi < vI G n := fun h3 => no h' ((gt _ _).2 h3)
    exact h2 (by omega) (by omega)
end Go.Am
namespace Go.Am
open Crc
variable {C : Ctx} {s : Side} {enc : Sg → List AV}

theorem fin_set (hs : SideOk C.G s enc) {f : FuncId} {i : Nat} {l0 d : EL} {rest : List EV} {H : DHp} {v : EV} {p p' : Sg} (h0 : vL C.G l0 = enc p) (hi : H[i]? = some (some ⟨1, l0⟩)) (hd : vL C.G d = encP p')
    (h : ACalls C f (.ptr (.rw 0) 0 :: vVs C.G rest) [some ⟨1, enc p⟩] fun v' H' => v' = vV C.G v ∧ H'.take 1 = [some ⟨1, enc p'⟩]) (hr : bnds 0 (vVs C.G rest) = true) (hv : bnd 0 (vV C.G v) = true) (hu : vV C.G v ≠ .undef) :
    oAll C.G (DOut C f (.ptr (.rw i) (.lit 0) :: rest) H) (.one v [.set i ⟨1, s.put d⟩]) :=
  DOut.set1 hi (by rw [h0, hs.put d p' hd]; exact h) (by rw [h0]; exact hs.flat _ _) (by rw [hs.put d p' hd]; exact hs.flat _ _) hr hv hu
theorem fin_get (hs : SideOk C.G s enc) {f : FuncId} {i : Nat} {l0 : EL} {rest : List EV} {H : DHp} {v : EV} {p : Sg} (h0 : vL C.G l0 = enc p) (hi : H[i]? = some (some ⟨1, l0⟩))
    (h : ACalls C f (.ptr (.rw 0) 0 :: vVs C.G rest) [some ⟨1, enc p⟩] fun v' H' => v' = vV C.G v ∧ H'.take 1 = [some ⟨1, enc p⟩]) (hr : bnds 0 (vVs C.G rest) = true) (hv : bnd 0 (vV C.G v) = true) (hu : vV C.G v ≠ .undef) :
    oAll C.G (DOut C f (.ptr (.rw i) (.lit 0) :: rest) H) (.one v []) :=
  DOut.get1 hi (by rw [h0]; exact h) (by rw [h0]; exact hs.flat _ _) hr hv hu

/-- one block, and what is told of it -/
def Meth (C : Ctx) (f : FuncId) (enc : Sg → List AV) (p : Sg) (rest : List AV) (v : AV) (p' : Sg) : Prop :=
  ACalls C f (.ptr (.rw 0) 0 :: rest) [some ⟨1, enc p⟩] fun v' H' => v' = v ∧ H'.take 1 = [some ⟨1, enc p'⟩]
def outB (n lo hi : Int) : Bool := decide (n < lo) || decide (hi < n)
theorem outB_true {n lo hi : Int} (h : n < lo ∨ hi < n) : outB n lo hi = true := by simp [outB, h]
theorem outB_false {n lo hi : Int} (h1 : lo ≤ n) (h2 : n ≤ hi) : outB n lo hi = false := by simp [outB]; omega

def SendOk (C : Ctx) (f : FuncId) (enc : Sg → List AV) : Prop := ∀ p n, Meth C f enc p [.int .i64 n] (.int .i64 (if outB n 0 15 then 2 else 0)) (if outB n 0 15 then p else send p n)
theorem sendS_ok (hs : SideOk C.G s enc) {f : FuncId} (h : SendOk C f enc) : DSumOk C f (sendS s) := by
  refine onSet_ok hs (k := fun _ i l rest => match rest with
    | [.int .i64 n] => some (outOf n 0 15 (.one (eno 2) []) (.one (eno 0) [.set i ⟨1, s.put (.uf 1010 sendU [.agg l, .int .i64 n])⟩]))
    | _ => none) fun H i l l0 rest o p hk hl h0 hi => ?_
  split at hk
  · rename_i n
    simp at hk; subst hk
    have := h p (vI C.G n)
    refine oAll_outOf (fun hb => ?_) (fun h1 h2 => ?_)
    · rw [outB_true hb] at this
      exact fin_get hs h0 hi this (by simp [vVs, vV, bnds, bnd]) (by simp [eno, vV, bnd]) (by simp [eno, vV])
    · rw [outB_false h1 h2] at this
      exact fin_set hs h0 hi (p' := send p (vI C.G n)) (by simp only [vL, vVs, vV, hl, sendU_enc]) this (by simp [vVs, vV, bnds, bnd]) (by simp [eno, vV, bnd]) (by simp [eno, vV])
  · simp at hk

def MaskOk (C : Ctx) (f : FuncId) (enc : Sg → List AV) : Prop := ∀ p n, Meth C f enc p [.int .i64 n] (.tup [.int .i64 (u p.hd), .int .i64 0]) (mask p n)
theorem maskS_ok (hs : SideOk C.G s enc) {f : FuncId} (h : MaskOk C f enc) : DSumOk C f (maskS s) := by
  refine onSet_ok hs (k := fun _ i l rest => match rest with
    | [.int .i64 n] => some (.one (.tup [.int .i64 (.uf 1012 heldU [.agg l]), eno 0]) [.set i ⟨1, s.put (.uf 1011 maskU [.agg l, .int .i64 n])⟩])
    | _ => none) fun H i l l0 rest o p hk hl h0 hi => ?_
  split at hk
  · rename_i n
    simp at hk; subst hk
    refine fin_set hs h0 hi (p' := mask p (vI C.G n)) (by simp only [vL, vVs, vV, hl, maskU_enc]) ?_ (by simp [vVs, vV, bnds, bnd]) (by simp [eno, vV, vVs, bnd, bnds]) (by simp [vV])
    simp only [eno, vVs, vV, vI, hl, heldU_enc]
    exact h p (vI C.G n)
  · simp at hk

def HandleOk (C : Ctx) (f : FuncId) (enc : Sg → List AV) : Prop := ∀ p n a, Meth C f enc p [.int .i64 n, .int .i64 a]
  (if outB n 2 15 || outB a 0 4294967295 then .tup [.int .i64 0, .int .i64 2] else .tup [.int .i64 (u (p.at_ n.toNat)), .int .i64 0]) (if outB n 2 15 || outB a 0 4294967295 then p else handle p n a)
theorem handleS_ok (hs : SideOk C.G s enc) {f : FuncId} (h : HandleOk C f enc) : DSumOk C f (handleS s) := by
  refine onSet_ok hs (k := fun _ i l rest => match rest with
    | [.int .i64 n, .int .i64 a] => some (outOf n 2 15 (.one (.tup [eno 0, eno 2]) []) (outOf a 0 4294967295 (.one (.tup [eno 0, eno 2]) [])
      (.one (.tup [.int .i64 (.uf 1014 atU [.agg l, .int .i64 n]), eno 0]) [.set i ⟨1, s.put (.uf 1013 handleU [.agg l, .int .i64 n, .int .i64 a])⟩])))
    | _ => none) fun H i l l0 rest o p hk hl h0 hi => ?_
  split at hk
  · rename_i n a
    simp at hk; subst hk
    have := h p (vI C.G n) (vI C.G a)
    refine oAll_outOf (fun hb => ?_) (fun h1 h2 => oAll_outOf (fun hb => ?_) (fun h3 h4 => ?_))
    · rw [outB_true hb] at this
      exact fin_get hs h0 hi this (by simp [vVs, vV, bnds, bnd]) (by simp [eno, vV, vVs, bnd, bnds]) (by simp [vV])
    · rw [outB_true hb, Bool.or_true] at this
      exact fin_get hs h0 hi this (by simp [vVs, vV, bnds, bnd]) (by simp [eno, vV, vVs, bnd, bnds]) (by simp [vV])
    · rw [outB_false h1 h2, outB_false h3 h4] at this
      refine fin_set hs h0 hi (p' := handle p (vI C.G n) (vI C.G a)) (by simp only [vL, vVs, vV, hl, handleU_enc]) ?_ (by simp [vVs, vV, bnds, bnd]) (by simp [eno, vV, vVs, bnd, bnds]) (by simp [vV])
      simp only [eno, vVs, vV, vI, hl, atU_enc]
      exact this
  · simp at hk

def takenV (p : Sg) : AV := .tup [.agg [.int .i64 (tkSig p), .bool (tkEnds p), .int .u32 (tkAt p)], .bool (tkOk p)]
def TakeOk (C : Ctx) (f : FuncId) (enc : Sg → List AV) : Prop := ∀ p, Meth C f enc p [] (takenV p) (tkP p)
theorem takeS_ok (hs : SideOk C.G s enc) {f : FuncId} (h : TakeOk C f enc) : DSumOk C f (takeS s) := by
  refine onSet_ok hs (k := fun _ i l rest => match rest with
    | [] => some (.one (.tup [.agg (.of [.int .i64 (.uf 1016 tkSigU [.agg l]), .bool (.uf 1017 tkEndsU [.agg l]), .int .u32 (.uf 1018 tkAtU [.agg l])]), .bool (.uf 1019 tkOkU [.agg l])]) [.set i ⟨1, s.put (.uf 1015 tkU [.agg l])⟩])
    | _ => none) fun H i l l0 rest o p hk hl h0 hi => ?_
  split at hk
  · simp at hk; subst hk
    refine fin_set hs h0 hi (p' := tkP p) (by simp only [vL, vVs, vV, hl, tkU_enc]) ?_ (by simp [vVs, bnds]) (by simp [vV, vVs, vL, bnd, bnds]) (by simp [vV])
    simp only [vVs, vV, vL, vI, vB, hl, tkSigU_enc, tkEndsU_enc, tkAtU_enc, tkOkU_enc]
    exact h p
  · simp at hk

def HeldOk (C : Ctx) (f : FuncId) (enc : Sg → List AV) : Prop := ∀ p, Meth C f enc p [] (.int .i64 (u p.hd)) p
theorem heldS_ok (hs : SideOk C.G s enc) {f : FuncId} (h : HeldOk C f enc) : DSumOk C f (heldS s) := by
  refine onSet_ok hs (k := fun _ _ l rest => match rest with
    | [] => some (.one (.int .i64 (.uf 1012 heldU [.agg l])) [])
    | _ => none) fun H i l l0 rest o p hk hl h0 hi => ?_
  split at hk
  · simp at hk; subst hk
    refine fin_get hs h0 hi ?_ (by simp [vVs, bnds]) (by simp [vV, bnd]) (by simp [vV])
    simp only [vVs, vV, vI, hl, heldU_enc]
    exact h p
  · simp at hk

def HandlerOk (C : Ctx) (f : FuncId) (enc : Sg → List AV) : Prop := ∀ p n, Meth C f enc p [.int .i64 n] (if outB n 1 15 then .tup [.int .u32 0, .bool false] else .tup [.int .u32 (u (p.at_ n.toNat)), .bool true]) p
theorem handlerS_ok (hs : SideOk C.G s enc) {f : FuncId} (h : HandlerOk C f enc) : DSumOk C f (handlerS s) := by
  refine onSet_ok hs (k := fun _ _ l rest => match rest with
    | [.int .i64 n] => some (outOf n 1 15 (.one (.tup [.int .u32 (.lit 0), .bool (.lit false)]) []) (.one (.tup [.int .u32 (.uf 1014 atU [.agg l, .int .i64 n]), .bool (.lit true)]) []))
    | _ => none) fun H i l l0 rest o p hk hl h0 hi => ?_
  split at hk
  · rename_i n
    simp at hk; subst hk
    have := h p (vI C.G n)
    refine oAll_outOf (fun hb => ?_) (fun h1 h2 => ?_)
    · rw [outB_true hb] at this
      exact fin_get hs h0 hi this (by simp [vVs, vV, bnds, bnd]) (by simp [vV, vVs, bnd, bnds]) (by simp [vV])
    · rw [outB_false h1 h2] at this
      refine fin_get hs h0 hi ?_ (by simp [vVs, vV, bnds, bnd]) (by simp [vV, vVs, bnd, bnds]) (by simp [vV])
      simp only [vVs, vV, vI, vB, hl, atU_enc]
      exact this
  · simp at hk

def WaitsOk (C : Ctx) (f : FuncId) (enc : Sg → List AV) : Prop := ∀ p n, Meth C f enc p [.int .i64 n] (.bool (!(outB n 1 15) && waitsB p n)) p
theorem waitsS_ok (hs : SideOk C.G s enc) {f : FuncId} (h : WaitsOk C f enc) : DSumOk C f (waitsS s) := by
  refine onSet_ok hs (k := fun _ _ l rest => match rest with
    | [.int .i64 n] => some (outOf n 1 15 (.one (.bool (.lit false)) []) (.one (.bool (.uf 1022 waitsU [.agg l, .int .i64 n])) []))
    | _ => none) fun H i l l0 rest o p hk hl h0 hi => ?_
  split at hk
  · rename_i n
    simp at hk; subst hk
    have := h p (vI C.G n)
    refine oAll_outOf (fun hb => ?_) (fun h1 h2 => ?_)
    · rw [outB_true hb] at this
      exact fin_get hs h0 hi this (by simp [vVs, vV, bnds, bnd]) (by simp [vV, bnd]) (by simp [vV])
    · rw [outB_false h1 h2] at this
      refine fin_get hs h0 hi ?_ (by simp [vVs, vV, bnds, bnd]) (by simp [vV, bnd]) (by simp [vV])
      simp only [vVs, vV, vB, hl, waitsU_enc]
      exact this
  · simp at hk

/-- it answers a new block -/
def NewOk (C : Ctx) (f : FuncId) (enc : Sg → List AV) (v : Sg → AV) (cs : Sg → List AV) : Prop := ∀ p, ACalls C f [.ptr (.rw 0) 0] [some ⟨1, enc p⟩] fun v' H' => v' = v p ∧ H' = [some ⟨1, enc p⟩, some ⟨1, cs p⟩]
theorem pendS_ok (hs : SideOk C.G s enc) {f : FuncId} (h : NewOk C f enc (fun p => .slice true (.rw 1) 0 (pend p.wt).length) fun p => nl (pend p.wt)) : DSumOk C f (pendS s) := by
  refine onSet_ok hs (k := fun H _ l rest => match rest with
    | [] => some (.one (.slice true (.rw H.length) (.lit 0) (.uf 1021 pendNU [.agg l])) [.new ⟨1, .uf 1020 pendU [.agg l]⟩])
    | _ => none) fun H i l l0 rest o p hk hl h0 hi => ?_
  split at hk
  · simp at hk; subst hk
    have e1 : vL C.G (.uf 1020 pendU [.agg l]) = nl (pend p.wt) := by simp only [vL, vVs, vV, hl, pendU_enc]
    refine DOut.new1 hi (v0 := .slice true (.rw 1) 0 (pend p.wt).length) ?_ (by rw [h0]; exact hs.flat _ _) (by rw [e1]; exact nl_flat _ _) (by simp [vVs, bnds]) (by simp [bnd]) (by simp only [vV, vR, vN, vVs, hl, pendNU_enc]; simp [ren])
    simp only [vVs, h0, e1]
    exact h p
  · simp at hk
theorem copyS_ok (hs : SideOk C.G s enc) {f : FuncId} (h : NewOk C f enc (fun _ => .ptr (.rw 1) 0) enc) : DSumOk C f (copyS s) := by
  refine onSet_ok hs (k := fun H _ l rest => match rest with
    | [] => some (.one (.ptr (.rw H.length) (.lit 0)) [.new ⟨1, s.put l⟩])
    | _ => none) fun H i l l0 rest o p hk hl h0 hi => ?_
  split at hk
  · simp at hk; subst hk
    have e1 := hs.put l p hl
    refine DOut.new1 hi (v0 := .ptr (.rw 1) 0) ?_ (by rw [h0]; exact hs.flat _ _) (by rw [e1]; exact hs.flat _ _) (by simp [vVs, bnds]) (by simp [bnd]) (by simp only [vV, vR, vN]; simp [ren])
    simp only [vVs, h0, e1]
    exact h p
  · simp at hk
theorem childS_ok (hs : SideOk C.G s enc) {f : FuncId} (h : NewOk C f enc (fun _ => .ptr (.rw 1) 0) fun p => enc (setW p 0#32)) : DSumOk C f (childS s) := by
  refine onSet_ok hs (k := fun H _ l rest => match rest with
    | [] => some (.one (.ptr (.rw H.length) (.lit 0)) [.new ⟨1, s.put (.uf 1023 childU [.agg l])⟩])
    | _ => none) fun H i l l0 rest o p hk hl h0 hi => ?_
  split at hk
  · simp at hk; subst hk
    have e1 := hs.put (.uf 1023 childU [.agg l]) (setW p 0#32) (by simp only [vL, vVs, vV, hl, childU_enc])
    refine DOut.new1 hi (v0 := .ptr (.rw 1) 0) ?_ (by rw [h0]; exact hs.flat _ _) (by rw [e1]; exact hs.flat _ _) (by simp [vVs, bnds]) (by simp [bnd]) (by simp only [vV, vR, vN]; simp [ren])
    simp only [vVs, h0, e1]
    exact h p
  · simp at hk

theorem Meth.of {K : DCfg} {fuel n0 : Nat} {f : FuncId} {fn : Func} {p p' : Sg} {rest : List EV} {v : AV} (hK : DGood C K (loopsOf (bodyOf fn))) (hf : C.P.funcs[f]? = some fn) (hb : fn.body = some (bodyOf fn)) (hn : (fn.name == "runtime.NumGoroutine") = false)
    (h : vT C.G (fun _ _ _ => False) (fun v' H' => v' = v ∧ H' = [some ⟨1, enc p'⟩]) (dcall K fuel n0 fn (.ptr (.rw 0) (.lit 0) :: rest) [some ⟨1, .var 1 (enc p)⟩] 1)) : Meth C f enc p (vVs C.G rest) v p' := by
  have := dcall_ok hK hf hb hn h
  simp only [vVs, vV, vR, vN, vHp, List.map_cons, List.map_nil, Option.map_some, vBlk, vL] at this
  exact this
theorem New.of {K : DCfg} {fuel n0 : Nat} {f : FuncId} {fn : Func} {p : Sg} {v : AV} {cs : List AV} (hK : DGood C K (loopsOf (bodyOf fn))) (hf : C.P.funcs[f]? = some fn) (hb : fn.body = some (bodyOf fn)) (hn : (fn.name == "runtime.NumGoroutine") = false)
    (he : bnds 2 (enc p) = true) (hc : bnds 2 cs = true) (hv : bnd 2 v = true) (hu : v ≠ .undef)
    (h : vT C.G (fun _ _ _ => False) (fun v' H' => v' = v ∧ H' = [some ⟨1, enc p⟩, some ⟨1, cs⟩]) (dcall K fuel n0 fn [.ptr (.rw 0) (.lit 0)] [some ⟨1, .var 1 (enc p)⟩] 2)) : ACalls C f [.ptr (.rw 0) 0] [some ⟨1, enc p⟩] fun v' H' => v' = v ∧ H' = [some ⟨1, enc p⟩, some ⟨1, cs⟩] := by
  have := dcall_ok hK hf hb hn h
  simp only [vVs, vV, vR, vN, vHp, List.map_cons, List.map_nil, Option.map_some, vBlk, vL] at this
  exact this.keep (by simp) (by simp [hpB, he, hc]) (by simpa using hv) hu
theorem Meth.ofR {K : DCfg} {fuel n0 : Nat} {f : FuncId} {fn : Func} {p p' : Sg} {rest : List EV} {v : AV} (hK : DGood C K (loopsOf (bodyOf fn))) (hf : C.P.funcs[f]? = some fn) (hb : fn.body = some (bodyOf fn)) (hn : (fn.name == "runtime.NumGoroutine") = false)
    (h : vT C.G (fun _ _ _ => False) (fun v' H' => v' = v ∧ H' = [some ⟨1, encR p'⟩]) (dcall K fuel n0 fn (.ptr (.rw 0) (.lit 0) :: rest) [some ⟨1, .uf 1002 encRU [.agg (.var 1 (encP p))]⟩] 1)) : Meth C f encR p (vVs C.G rest) v p' := by
  have := dcall_ok hK hf hb hn h
  simp only [vVs, vV, vR, vN, vHp, List.map_cons, List.map_nil, Option.map_some, vBlk, vL, encRU_enc] at this
  exact this
theorem New.ofR {K : DCfg} {fuel n0 : Nat} {f : FuncId} {fn : Func} {p : Sg} {v : AV} {cs : List AV} (hK : DGood C K (loopsOf (bodyOf fn))) (hf : C.P.funcs[f]? = some fn) (hb : fn.body = some (bodyOf fn)) (hn : (fn.name == "runtime.NumGoroutine") = false)
    (hc : bnds 2 cs = true) (hv : bnd 2 v = true) (hu : v ≠ .undef)
    (h : vT C.G (fun _ _ _ => False) (fun v' H' => v' = v ∧ H' = [some ⟨1, encR p⟩, some ⟨1, cs⟩]) (dcall K fuel n0 fn [.ptr (.rw 0) (.lit 0)] [some ⟨1, .uf 1002 encRU [.agg (.var 1 (encP p))]⟩] 2)) : ACalls C f [.ptr (.rw 0) 0] [some ⟨1, encR p⟩] fun v' H' => v' = v ∧ H' = [some ⟨1, encR p⟩, some ⟨1, cs⟩] := by
  have := dcall_ok hK hf hb hn h
  simp only [vVs, vV, vR, vN, vHp, List.map_cons, List.map_nil, Option.map_some, vBlk, vL, encRU_enc] at this
  exact this.keep (by simp) (by simp [hpB, encR_flat, hc]) (by simpa using hv) hu
end Go.Am
namespace Go.Am
open Crc

def encF (f g : Nat → Bool) (h : Nat → W) : List AV := ((List.range 16).map fun i => .bool (f i)) ++ (((List.range 16).map fun i => .bool (g i)) ++ ((List.range 16).map fun i => .int .u32 (u (h i))))
theorem encR_F (p : Sg) : encR p = encF (fun i => p.wt.getLsbD i) (fun i => p.hd.getLsbD i) p.at_ := rfl
theorem mapR_get {α : Type} (f : Nat → α) {i : Nat} (h : i < 16) : ((List.range 16).map f)[i]? = some (f i) := by simp [h]
theorem mapR_len {α : Type} (f : Nat → α) : ((List.range 16).map f).length = 16 := by simp
theorem encF_length (f g : Nat → Bool) (h : Nat → W) : (encF f g h).length = 48 := by simp [encF]
theorem encF_congr {f f' g g' : Nat → Bool} {h h' : Nat → W} (h1 : ∀ i, i < 16 → f i = f' i) (h2 : ∀ i, i < 16 → g i = g' i) (h3 : ∀ i, i < 16 → h i = h' i) : encF f g h = encF f' g' h' := by
  unfold encF
  rw [List.map_congr_left fun i hi => by rw [h1 i (List.mem_range.1 hi)], List.map_congr_left (f := fun i => AV.bool (g i)) fun i hi => by rw [h2 i (List.mem_range.1 hi)], List.map_congr_left (f := fun i => AV.int .u32 (u (h i))) fun i hi => by rw [h3 i (List.mem_range.1 hi)]]
def updB (f : Nat → Bool) (i : Nat) (b : Bool) : Nat → Bool := fun j => if j = i then b else f j
theorem mapR_set {α : Type} (f g : Nat → α) {i : Nat} (hi : i < 16) (x : α) (h : ∀ j, j < 16 → g j = if j = i then x else f j) : ((List.range 16).map f).set i x = (List.range 16).map g := by
  apply List.ext_getElem?
  intro j
  rw [List.getElem?_set, mapR_len]
  by_cases hj : j < 16
  · rw [mapR_get _ hj, mapR_get _ hj, h j hj]
    by_cases he : i = j
    · subst he; simp [hi]
    · rw [if_neg he, if_neg (fun h => he h.symm)]
  · rw [List.getElem?_eq_none (by rw [mapR_len]; omega), List.getElem?_eq_none (by rw [mapR_len]; omega), if_neg (by omega)]
theorem encF_setW (f g : Nat → Bool) (h : Nat → W) {i : Nat} (hi : i < 16) (b : Bool) : (encF f g h).set i (.bool b) = encF (updB f i b) g h := by
  unfold encF
  rw [List.set_append_left _ _ (by rw [mapR_len]; exact hi), mapR_set _ (fun j => AV.bool (updB f i b j)) hi]
  intro j _; unfold updB; split <;> rfl
theorem encF_setH (f g : Nat → Bool) (h : Nat → W) {i : Nat} (hi : i < 16) (b : Bool) : (encF f g h).set (i + 16) (.bool b) = encF f (updB g i b) h := by
  unfold encF
  rw [List.set_append_right _ _ (by rw [mapR_len]; omega), mapR_len, Nat.add_sub_cancel, List.set_append_left _ _ (by rw [mapR_len]; exact hi), mapR_set _ (fun j => AV.bool (updB g i b j)) hi]
  intro j _; unfold updB; split <;> rfl
theorem encF_setA (f g : Nat → Bool) (h : Nat → W) {i : Nat} (hi : i < 16) (x : W) : (encF f g h).set (i + 32) (.int .u32 (u x)) = encF f g (fun j => if j = i then x else h j) := by
  unfold encF
  rw [List.set_append_right _ _ (by rw [mapR_len]; omega), mapR_len, show i + 32 - 16 = i + 16 by omega, List.set_append_right _ _ (by rw [mapR_len]; omega), mapR_len, Nat.add_sub_cancel,
    mapR_set _ (fun j => AV.int .u32 (u (if j = i then x else h j))) hi]
  intro j _; split <;> rfl
section
variable (p : Sg) {i : Nat} (h : i < 16)
include h
theorem r_isW : isB (encR p) i = true := by simp [isB, encR_w p h]
theorem r_getW : getB (encR p) i = p.wt.getLsbD i := by simp [getB, encR_w p h]
theorem r_isH : isB (encR p) (i + 16) = true := by simp [isB, encR_h p h]
theorem r_getH : getB (encR p) (i + 16) = p.hd.getLsbD i := by simp [getB, encR_h p h]
theorem r_isA : isI .u32 (encR p) (i + 32) = true := by simp [isI, encR_a p h]
theorem r_getA : getI (encR p) (i + 32) = u (p.at_ i) := by simp [getI, encR_a p h]
end
theorem leB_encR (p : Sg) (k : Nat) (h : k ≤ 48) : leB k (encR p).length = true := leB_iff.2 (by rw [encR_length]; exact h)
theorem m34 : ∀ j, j < 16 → (65534#32).getLsbD j = decide (1 ≤ j) := by decide
theorem m32 : ∀ j, j < 16 → (65532#32).getLsbD j = decide (2 ≤ j) := by decide
theorem wt0 (p : Sg) : p.wt.getLsbD 0 = false := by rw [← p.hw, BitVec.getLsbD_and, m34 0 (by omega)]; simp
theorem hd01 (p : Sg) {j : Nat} (h : j < 2) : p.hd.getLsbD j = false := by rw [← p.hh, BitVec.getLsbD_and, m32 j (by omega)]; simp; omega

theorem r_send (p : Sg) (n : Int) (h1 : 0 < n) (h2 : n ≤ 15) : (encR p).set n.toNat (.bool true) = encR (send p n) := by
  rw [encR_F, encF_setW _ _ _ (by omega), encR_F]
  refine encF_congr (fun j hj => ?_) (fun _ _ => rfl) (fun _ _ => rfl)
  show _ = ((p.wt ||| bitN n.toNat) &&& 65534#32).getLsbD j
  rw [BitVec.getLsbD_and, BitVec.getLsbD_or, bitN_get _ _ (by omega), m34 j hj]
  unfold updB
  by_cases he : j = n.toNat
  · subst he; simp; omega
  · rw [if_neg he]
    by_cases h0 : j = 0
    · subst h0; have e := wt0 p; simp at e; simp [e]
    · have : decide (1 ≤ j) = true := decide_eq_true (by omega)
      simp [he, this]
theorem r_send0 (p : Sg) : encR (send p 0) = encR p := by
  rw [encR_F, encR_F]
  refine encF_congr (fun j hj => ?_) (fun _ _ => rfl) (fun _ _ => rfl)
  show ((p.wt ||| bitN 0) &&& 65534#32).getLsbD j = _
  rw [BitVec.getLsbD_and, BitVec.getLsbD_or, bitN_get _ _ (by omega), m34 j hj]
  by_cases h0 : j = 0
  · subst h0; rw [wt0]; simp
  · have : decide (1 ≤ j) = true := decide_eq_true (by omega)
    simp [h0, this]
theorem r_take (p : Sg) (i : Nat) (h0 : tkN p = i) (h1 : 1 ≤ i) (h2 : i < 16) : (encR p).set i (.bool false) = encR (tkP p) := by
  rw [encR_F, encF_setW _ _ _ h2]
  unfold tkP
  rw [if_neg (by omega), encR_F, h0]
  refine encF_congr (fun j hj => ?_) (fun _ _ => rfl) (fun _ _ => rfl)
  show _ = ((p.wt &&& ~~~ bitN i) &&& 65534#32).getLsbD j
  rw [BitVec.getLsbD_and, BitVec.getLsbD_and, BitVec.getLsbD_not, bitN_get _ _ (by omega), m34 j hj]
  unfold updB
  by_cases he : j = i
  · subst he; simp
  · rw [if_neg he]
    by_cases h0 : j = 0
    · subst h0; have e := wt0 p; simp at e; simp [e]
    · have h3 : decide (1 ≤ j) = true := decide_eq_true (by omega)
      have h4 : decide (j < 32) = true := decide_eq_true (by omega)
      simp [he, h3, h4]
theorem r_handle (p : Sg) (n a : Int) (h1 : 2 ≤ n) (h2 : n ≤ 15) : (encR p).set (n.toNat + 32) (.int .u32 (IntKind.wrap .u32 a)) = encR (handle p n a) := by
  rw [wrap_w32, encR_F, encF_setA _ _ _ (by omega), encR_F]
  refine encF_congr (fun _ _ => rfl) (fun _ _ => rfl) (fun j hj => ?_)
  show _ = updA p.at_ n.toNat (w32 a) j
  unfold updA
  by_cases he : j = n.toNat
  · rw [if_pos he, if_pos he, if_neg (by omega)]
  · rw [if_neg he, if_neg he]
/-- a bit of a whole number -/
theorem bit64 (a : Int) (i : Nat) (h : i < 16) : ((kAnd .i64 (kShr .i64 a (IntKind.wrap .u64 (i : Int))) 1 : Int) == 1) = (w32 a).getLsbD i := by
  have e0 : IntKind.wrap .u64 (i : Int) = i := by rw [IntKind.wrap_u64]; omega
  have e1 : kShr .i64 a (i : Int) = a / 2 ^ i := by
    unfold kShr
    rw [show min (Int.toNat (i : Int)) (IntKind.bits .i64) = i by simp [IntKind.bits]; omega]
    exact Int.fdiv_eq_ediv_of_nonneg _ (by exact Int.le_of_lt (Int.pow_pos (by omega)))
  have e2 : ∀ x : Int, ((kAnd .i64 x 1 : Int) == 1) = decide (x % 2 = 1) := fun x => by
    unfold kAnd
    have : (BitVec.ofInt (IntKind.bits .i64) x &&& BitVec.ofInt (IntKind.bits .i64) 1).toNat = (x % 2).toNat := by
      show (BitVec.ofInt 64 x &&& 1#64).toNat = _
      rw [BitVec.toNat_and, BitVec.toNat_ofInt]
      show ((x % 18446744073709551616).toNat &&& 1) = _
      rw [Nat.and_one_is_mod]
      omega
    rw [this, i64_in (by omega)]
    rw [Bool.eq_iff_iff]
    simp
    omega
  rw [e0, e1, e2]
  have e3 : (w32 a).getLsbD i = decide (((a % 4294967296).toNat / 2 ^ i) % 2 = 1) := by
    show (BitVec.ofInt 32 a).toNat.testBit i = _
    rw [BitVec.toNat_ofInt, Nat.testBit_eq_decide_div_mod_eq]
    rfl
  rw [e3, Bool.eq_iff_iff]
  simp only [decide_eq_true_eq]
  rcases (by omega : i = 0 ∨ i = 1 ∨ i = 2 ∨ i = 3 ∨ i = 4 ∨ i = 5 ∨ i = 6 ∨ i = 7 ∨ i = 8 ∨ i = 9 ∨ i = 10 ∨ i = 11 ∨ i = 12 ∨ i = 13 ∨ i = 14 ∨ i = 15) with rfl | rfl | rfl | rfl | rfl | rfl | rfl | rfl | rfl | rfl | rfl | rfl | rfl | rfl | rfl | rfl <;> simp <;> omega
theorem hd_lt (p : Sg) : p.hd.toNat < 65536 := by
  have : p.hd.toNat = (p.hd &&& 65532#32).toNat := by rw [p.hh]
  rw [this, BitVec.toNat_and]
  have := Nat.and_le_right (n := p.hd.toNat) (m := (65532#32).toNat)
  have e : (65532#32).toNat = 65532 := rfl
  omega
theorem sum_step (x : W) (i : Nat) : x.toNat % 2 ^ (i + 1) = x.toNat % 2 ^ i + (if x.getLsbD i then 2 ^ i else 0) := by
  rw [Nat.mod_pow_succ]
  show _ = _ + (if x.toNat.testBit i = true then 2 ^ i else 0)
  rw [Nat.testBit_eq_decide_div_mod_eq]
  by_cases h : x.toNat / 2 ^ i % 2 = 1
  · simp [h]
  · have : x.toNat / 2 ^ i % 2 = 0 := by omega
    simp [this]
end Go.Am
namespace Go.Am
open Crc

/-- what may be taken -/
def free (p : Sg) : W := p.wt &&& ~~~ p.hd
theorem free_bit (p : Sg) {j : Nat} (h : j < 32) : (free p).getLsbD j = (p.wt.getLsbD j && !p.hd.getLsbD j) := by
  unfold free
  rw [BitVec.getLsbD_and, BitVec.getLsbD_not, decide_eq_true h, Bool.true_and]
theorem tkN_spec (p : Sg) : (tkN p = 0 ∧ ∀ j, 1 ≤ j → j < 16 → (free p).getLsbD j = false) ∨ (1 ≤ tkN p ∧ tkN p < 16 ∧ (free p).getLsbD (tkN p) = true ∧ ∀ j, 1 ≤ j → j < tkN p → (free p).getLsbD j = false) := by
  rcases lowFrom_le (free p) 15 1 with h | ⟨h1, h2, h3, h4⟩
  · exact .inl ⟨h, fun j h1 h2 => lowFrom_none (free p) 15 1 (by omega) h j h1 (by omega)⟩
  · exact .inr ⟨h1, by unfold tkN lowest; unfold free at h2; omega, h3, h4⟩
theorem tkP_bit (p : Sg) (h : tkN p ≠ 0) {j : Nat} (hj : j < 16) : (tkP p).wt.getLsbD j = (p.wt.getLsbD j && !decide (j = tkN p)) := by
  have hlt : tkN p < 16 := lowest_lt _
  unfold tkP
  rw [if_neg h]
  show ((p.wt &&& ~~~ bitN (tkN p)) &&& 65534#32).getLsbD j = _
  rw [BitVec.getLsbD_and, BitVec.getLsbD_and, BitVec.getLsbD_not, bitN_get _ _ (by omega), m34 j hj, decide_eq_true (show j < 32 by omega), Bool.true_and]
  by_cases h0 : j = 0
  · subst h0; rw [wt0]; simp
  · rw [decide_eq_true (show 1 ≤ j by omega), Bool.and_true]
theorem tkP_hd' (p : Sg) : (tkP p).hd = p.hd := by unfold tkP; split <;> rfl
theorem tkP_free (p : Sg) (h : tkN p ≠ 0) {j : Nat} (hj : j < 16) : (free (tkP p)).getLsbD j = ((free p).getLsbD j && !decide (j = tkN p)) := by
  rw [free_bit _ (by omega), free_bit _ (by omega), tkP_hd', tkP_bit p h hj]
  cases p.wt.getLsbD j <;> cases p.hd.getLsbD j <;> simp
/-- nothing may be taken up to there -/
def upTo' (p : Sg) (k : Nat) : Prop := ∀ j, 1 ≤ j → j ≤ k → j < 16 → (free p).getLsbD j = false
theorem upTo_step {p : Sg} {k : Nat} (h : upTo' p k) : upTo' (tkP p) (k + 1) := by
  intro j h1 h2 h3
  rcases tkN_spec p with ⟨h0, hn⟩ | ⟨hn1, hn2, hn3, hn4⟩
  · rw [show tkP p = p by unfold tkP; rw [if_pos h0]]
    exact hn j h1 h3
  · rw [tkP_free p (by omega) h3]
    have hk : k < tkN p := by
      rcases Nat.lt_or_ge k (tkN p) with h' | h'
      · exact h'
      · have := h (tkN p) hn1 h' hn2
        rw [this] at hn3; simp at hn3
    by_cases he : j = tkN p
    · simp [he]
    · rw [hn4 j h1 (by omega)]; rfl
theorem upTo_keep {p : Sg} {k : Nat} (h : upTo' p k) : upTo' (tkP p) k := by
  intro j h1 h2 h3
  by_cases h0 : tkN p = 0
  · rw [show tkP p = p by unfold tkP; rw [if_pos h0]]
    exact h j h1 h2 h3
  · rw [tkP_free p h0 h3, h j h1 h2 h3]; rfl
theorem upTo_taken {p : Sg} (h : tkN p ≠ 0) : upTo' (tkP p) (tkN p) := by
  intro j h1 h2 h3
  rcases tkN_spec p with ⟨h0, _⟩ | ⟨_, _, _, hn4⟩
  · exact absurd h0 h
  · rw [tkP_free p h h3]
    by_cases he : j = tkN p
    · simp [he]
    · rw [hn4 j h1 (by omega)]; rfl
theorem upTo_lt {p : Sg} {k : Nat} (h : upTo' p k) (h0 : tkN p ≠ 0) : k < tkN p := by
  rcases tkN_spec p with ⟨h1, _⟩ | ⟨hn1, hn2, hn3, _⟩
  · exact absurd h1 h0
  · rcases Nat.lt_or_ge k (tkN p) with h' | h'
    · exact h'
    · rw [h (tkN p) hn1 h' hn2] at hn3; simp at hn3
theorem tkOk_ne {p : Sg} (h : tkOk p = true) : tkN p ≠ 0 := by
  intro h0
  unfold tkOk at h
  rw [h0] at h
  simp at h
theorem pendTo_take {w w' : W} {m : Nat} (hm : 1 ≤ m) (hb : w.getLsbD m = true) : ∀ i, i < 16 → (∀ j, 1 ≤ j → j ≤ i → w'.getLsbD j = (w.getLsbD j && !decide (j = m))) → (pendTo w i).length = (pendTo w' i).length + (if m ≤ i then 1 else 0)
  | 0, _, _ => by rw [if_neg (by omega)]; rfl
  | i + 1, hi, h => by
    have e := h (i + 1) (by omega) (by omega)
    rw [pendTo_succ, pendTo_succ, List.length_append, List.length_append, pendTo_take hm hb i (by omega) (fun j h1 h2 => h j h1 (by omega))]
    by_cases he : i + 1 = m
    · subst he
      have e2 : w'.getLsbD (i + 1) = false := by rw [e]; simp
      rw [hb, e2]
      have : ¬ i + 1 ≤ i := by omega
      simp [this]
    · have e2 : w'.getLsbD (i + 1) = w.getLsbD (i + 1) := by rw [e]; simp [he]
      rw [e2]
      have : (m ≤ i + 1) = (m ≤ i) := propext ⟨fun _ => by omega, fun _ => by omega⟩
      simp only [this]
      omega
theorem pend_take (p : Sg) (h : tkN p ≠ 0) : (pend p.wt).length = (pend (tkP p).wt).length + 1 := by
  rcases tkN_spec p with ⟨h0, _⟩ | ⟨hn1, hn2, hn3, _⟩
  · exact absurd h0 h
  · rw [free_bit _ (by omega)] at hn3
    simp only [Bool.and_eq_true] at hn3
    have := pendTo_take hn1 hn3.1 15 (by omega) (fun j h1 h2 => tkP_bit p h (by omega))
    rw [if_pos (by omega)] at this
    exact this
theorem pend_mem {w : W} {n : Nat} (h : n ∈ pend w) : 1 ≤ n ∧ n ≤ 15 ∧ w.getLsbD n = true := by
  simp only [pend, List.mem_filter, List.mem_map, List.mem_range] at h
  obtain ⟨⟨a, h1, rfl⟩, h2⟩ := h
  exact ⟨by omega, by omega, h2⟩
theorem pend_le (w : W) : (pend w).length ≤ 15 := by
  have := List.length_filter_le (fun i => w.getLsbD i) ((List.range 15).map (· + 1))
  simpa [pend] using this
theorem nl_getI {l : List Nat} {i : Nat} (h : i < l.length) : getI (nl l) i = (l[i] : Int) ∧ isI .i64 (nl l) i = true := by
  have : (nl l)[i]? = some (.int .i64 (Int.ofNat l[i])) := by simp [nl, h]
  simp [getI, isI, this]
/-- nothing may be taken -/
def calmU : List AV → Bool := fun xs => match xs with
  | [.agg cs] => okP cs && (List.range 16).all fun j => Nat.beq j 0 || !(free (decP cs)).getLsbD j
  | _ => false
theorem calm_eq {cs : List AV} : calmU [.agg cs] = true ↔ ∃ p, cs = encP p ∧ upTo' p 16 := by
  simp only [calmU, Bool.and_eq_true, List.all_eq_true, List.mem_range, Bool.or_eq_true, Bool.not_eq_true']
  constructor
  · rintro ⟨h1, h2⟩
    refine ⟨_, okP_eq h1, fun j g1 _ g3 => ?_⟩
    rcases h2 j g3 with h | h
    · have := Nat.eq_of_beq_eq_true h; omega
    · exact h
  · rintro ⟨p, rfl, h⟩
    rw [decP_enc]
    refine ⟨okP_enc p, fun j hj => ?_⟩
    by_cases h0 : j = 0
    · left; rw [h0]; rfl
    · right; exact h j (by omega) (by omega) hj
theorem waits_calm {p : Sg} (h : upTo' p 16) {n : Nat} (hn : n ∈ pend p.wt) : waitsB p (n : Int) = true := by
  obtain ⟨h1, h2, h3⟩ := pend_mem hn
  have := h n h1 (by omega) (by omega)
  rw [free_bit _ (by omega), h3] at this
  unfold waitsB
  rw [BitVec.getLsbD_and, Int.toNat_natCast, h3]
  simpa using this
/-- the list of what is pending -/
def pendIsU : List AV → Bool := fun xs => match xs with
  | [.agg ds, .ptr _ n, .agg cs] => okP cs && (eqCs ds (nl (pend (decP cs).wt)) && Nat.beq n (pend (decP cs).wt).length)
  | _ => false
theorem eqCs_nl (l : List Nat) : eqCs (nl l) (nl l) = true := by
  induction l with
  | nil => rfl
  | cons x l ih =>
    have e : nl (x :: l) = .int .i64 (Int.ofNat x) :: nl l := rfl
    rw [e]
    simp only [eqCs, ih, Bool.and_true]
    simp [eqC]
theorem pendIs_enc (p : Sg) {r : Ref} : pendIsU [.agg (nl (pend p.wt)), .ptr r (pend p.wt).length, .agg (encP p)] = true := by
  simp only [pendIsU, okP_enc, decP_enc, eqCs_nl, Bool.true_and]; exact Nat.beq_refl _
theorem tkN_one (p : Sg) (hp : p.wt.getLsbD 1 = true) : tkN p = 1 := by
  have hf : (free p).getLsbD 1 = true := by rw [free_bit _ (by omega), hp, hd01 p (by omega)]; rfl
  rcases tkN_spec p with ⟨_, h⟩ | ⟨h1, h2, h3, h4⟩
  · rw [h 1 (by omega) (by omega)] at hf; simp at hf
  · rcases Nat.lt_or_ge 1 (tkN p) with h5 | h5
    · rw [h4 1 (by omega) h5] at hf; simp at hf
    · omega
theorem send_one (p : Sg) : (send p 1).wt.getLsbD 1 = true := by
  show ((p.wt ||| bitN 1) &&& 65534#32).getLsbD 1 = true
  rw [BitVec.getLsbD_and, BitVec.getLsbD_or, bitN_get _ _ (by omega), m34 1 (by omega)]
  simp
end Go.Am
