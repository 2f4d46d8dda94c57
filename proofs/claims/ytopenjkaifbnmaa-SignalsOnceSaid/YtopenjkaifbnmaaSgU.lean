/-
  Sets of signals: what they are, and their cells, the program's and the document's.
-/
import Derived.Test.YtopenjkaifbnmaaAmDeepUse
import Derived.Test.YtopenjkaifbnmaaCrcMat
namespace Go.Am
open Crc

/-- a set: what is pending, held back, handled -/
structure Sg where
  wt : W
  hd : W
  at_ : Nat → W
  hw : wt &&& 65534#32 = wt
  hh : hd &&& 65532#32 = hd
  ha : ∀ i, i < 2 ∨ 16 ≤ i → at_ i = 0#32
theorem Sg.ext {p q : Sg} (h1 : p.wt = q.wt) (h2 : p.hd = q.hd) (h3 : ∀ i, p.at_ i = q.at_ i) : p = q := by
  cases p; cases q
  have : ∀ f g : Nat → W, (∀ i, f i = g i) → f = g := fun f g h => funext h
  simp only at h1 h2 h3
  subst h1 h2
  have := this _ _ h3
  subst this
  rfl
theorem and_idem (x m : W) : x &&& m &&& m = x &&& m := by rw [BitVec.and_assoc, BitVec.and_self]
/-- cells as a set -/
def decP (cs : List AV) : Sg where
  wt := w32 (getI cs 1) &&& 65534#32
  hd := w32 (getI cs 2) &&& 65532#32
  at_ i := if i < 2 ∨ 16 ≤ i then 0#32 else w32 (getI cs (i + 3))
  hw := and_idem _ _
  hh := and_idem _ _
  ha i h := if_pos h
def at16 (f : Nat → W) : List AV := (List.range 16).map fun i => .int .u32 (u (f i))
def bits16 (x : W) : List AV := (List.range 16).map fun i => .bool (x.getLsbD i)
/-- the program's cells -/
def encP (p : Sg) : List AV := .bool true :: .int .u32 (u p.wt) :: .int .u32 (u p.hd) :: at16 p.at_
/-- the document's cells -/
def encR (p : Sg) : List AV := bits16 p.wt ++ (bits16 p.hd ++ at16 p.at_)

theorem at16_length (f : Nat → W) : (at16 f).length = 16 := by simp [at16]
theorem bits16_length (x : W) : (bits16 x).length = 16 := by simp [bits16]
theorem at16_get (f : Nat → W) {i : Nat} (h : i < 16) : (at16 f)[i]? = some (.int .u32 (u (f i))) := by simp [at16, h]
theorem bits16_get (x : W) {i : Nat} (h : i < 16) : (bits16 x)[i]? = some (.bool (x.getLsbD i)) := by simp [bits16, h]
theorem encP_length (p : Sg) : (encP p).length = 19 := by simp [encP, at16_length]
theorem encR_length (p : Sg) : (encR p).length = 48 := by simp [encR, at16_length, bits16_length]
theorem encP_at (p : Sg) {i : Nat} (h : i < 16) : (encP p)[i + 3]? = some (.int .u32 (u (p.at_ i))) := by
  simp only [encP, List.getElem?_cons_succ]
  exact at16_get p.at_ h
theorem encP_isI (p : Sg) {i : Nat} (h : i < 16) : isI .u32 (encP p) (i + 3) = true := by simp [isI, encP_at p h]
theorem encP_getI (p : Sg) {i : Nat} (h : i < 16) : getI (encP p) (i + 3) = u (p.at_ i) := by simp [getI, encP_at p h]
theorem decP_enc (p : Sg) : decP (encP p) = p := by
  refine Sg.ext ?_ ?_ fun i => ?_
  · show w32 (u p.wt) &&& 65534#32 = _
    rw [w32_u, p.hw]
  · show w32 (u p.hd) &&& 65532#32 = _
    rw [w32_u, p.hh]
  · simp only [decP]
    by_cases h : i < 2 ∨ 16 ≤ i
    · rw [if_pos h, p.ha i h]
    · rw [if_neg h, encP_getI p (by omega), w32_u]
/-- are these cells a set's? -/
def okP (cs : List AV) : Bool := Nat.beq cs.length 19 && (isB cs 0 && (getB cs 0 && (okI .u32 cs 1 18 && (List.range 19).all fun j => getI cs j == getI (encP (decP cs)) j)))
theorem okP_eq {cs : List AV} (h : okP cs = true) : cs = encP (decP cs) := by
  simp only [okP, Bool.and_eq_true, List.all_eq_true, List.mem_range, beq_iff_eq] at h
  obtain ⟨h1, h2, h3, h4, h5⟩ := h
  have h1 := Nat.eq_of_beq_eq_true h1
  have ee : ∀ j, j < 18 → ∃ n, (encP (decP cs))[j + 1]? = some (.int .u32 n) := fun j hj => by
    rcases j with _ | _ | j
    · exact ⟨_, rfl⟩
    · exact ⟨_, rfl⟩
    · exact ⟨_, encP_at _ (by omega)⟩
  have key : ∀ j, j < 18 → cs[j + 1]? = (encP (decP cs))[j + 1]? := fun j hj => by
    have e1 := isI_some (okI_get h4 hj)
    rw [Nat.add_comm 1 j] at e1
    obtain ⟨n, e2⟩ := ee j hj
    rw [e1, e2]
    have := h5 (j + 1) (by omega)
    rw [this]
    simp [getI, e2]
  apply List.ext_getElem?
  intro i
  rcases i with _ | i
  · rw [isB_some h2, h3]; rfl
  · by_cases hi : i < 18
    · exact key i hi
    · rw [List.getElem?_eq_none (by omega), List.getElem?_eq_none (by rw [encP_length]; omega)]
theorem okP_enc (p : Sg) : okP (encP p) = true := by
  simp only [okP, Bool.and_eq_true, List.all_eq_true, List.mem_range, beq_iff_eq]
  refine ⟨by rw [encP_length]; rfl, rfl, rfl, okI_of fun j hj => ?_, fun j _ => by rw [decP_enc]⟩
  have : ∃ x : W, (encP p)[j + 1]? = some (.int .u32 (u x)) := by
    rcases j with _ | _ | j
    · exact ⟨p.wt, rfl⟩
    · exact ⟨p.hd, rfl⟩
    · exact ⟨p.at_ j, encP_at p (by omega)⟩
  obtain ⟨x, hx⟩ := this
  rw [Nat.add_comm]
  simp [isI, hx]
theorem encP_flat (n : Nat) (p : Sg) : bnds n (encP p) = true := by rw [bnds_eq]; simp [encP, at16, bnd]
theorem encR_flat (n : Nat) (p : Sg) : bnds n (encR p) = true := by rw [bnds_eq]; simp [encR, at16, bits16, bnd]
theorem encP_cells (p : Sg) : cellsB (encP p) = true := by simp [cellsB, encP, at16, isCell]
theorem encR_cells (p : Sg) : cellsB (encR p) = true := by simp [cellsB, encR, at16, bits16, isCell]

/-! reading and writing the cells -/
theorem encP_0 (p : Sg) : getB (encP p) 0 = true := rfl
theorem encP_1 (p : Sg) : getI (encP p) 1 = u p.wt := rfl
theorem encP_2 (p : Sg) : getI (encP p) 2 = u p.hd := rfl
theorem encP_b0 (p : Sg) : isB (encP p) 0 = true := rfl
theorem encP_i1 (p : Sg) : isI .u32 (encP p) 1 = true := rfl
theorem encP_i2 (p : Sg) : isI .u32 (encP p) 2 = true := rfl
theorem encR_w (p : Sg) {i : Nat} (h : i < 16) : (encR p)[i]? = some (.bool (p.wt.getLsbD i)) := by
  rw [encR, List.getElem?_append_left (by rw [bits16_length]; exact h), bits16_get _ h]
theorem encR_h (p : Sg) {i : Nat} (h : i < 16) : (encR p)[i + 16]? = some (.bool (p.hd.getLsbD i)) := by
  rw [encR, List.getElem?_append_right (by rw [bits16_length]; omega), bits16_length, Nat.add_sub_cancel, List.getElem?_append_left (by rw [bits16_length]; exact h), bits16_get _ h]
theorem encR_a (p : Sg) {i : Nat} (h : i < 16) : (encR p)[i + 32]? = some (.int .u32 (u (p.at_ i))) := by
  rw [encR, List.getElem?_append_right (by rw [bits16_length]; omega), bits16_length, show i + 32 - 16 = i + 16 by omega, List.getElem?_append_right (by rw [bits16_length]; omega), bits16_length, Nat.add_sub_cancel, at16_get _ h]

/-! ### what the calls do -/
def updA (f : Nat → W) (i : Nat) (x : W) : Nat → W := fun j => if j = i then (if i < 2 ∨ 16 ≤ i then 0#32 else x) else f j
def setW (p : Sg) (x : W) : Sg := { p with wt := x &&& 65534#32, hw := and_idem _ _ }
def setH (p : Sg) (x : W) : Sg := { p with hd := x &&& 65532#32, hh := and_idem _ _ }
theorem updA_ha (p : Sg) (i : Nat) (x : W) : ∀ j, j < 2 ∨ 16 ≤ j → updA p.at_ i x j = 0#32 := fun j hj => by
  unfold updA
  split
  · rename_i h; subst h; exact if_pos hj
  · exact p.ha j hj
def setA (p : Sg) (i : Nat) (x : W) : Sg := { p with at_ := updA p.at_ i x, ha := updA_ha p i x }
def send (p : Sg) (n : Int) : Sg := setW p (p.wt ||| bitN n.toNat)
def mask (p : Sg) (b : Int) : Sg := setH p (w32 b)
def handle (p : Sg) (n a : Int) : Sg := setA p n.toNat (w32 a)

/-- the lowest bit among 1 to 15; 0: none -/
def lowFrom (x : W) : Nat → Nat → Nat
  | 0, _ => 0
  | f + 1, i => if x.getLsbD i then i else lowFrom x f (i + 1)
def lowest (x : W) : Nat := lowFrom x 15 1
theorem lowFrom_le (x : W) : ∀ f i, lowFrom x f i = 0 ∨ (i ≤ lowFrom x f i ∧ lowFrom x f i < i + f ∧ x.getLsbD (lowFrom x f i) = true ∧ ∀ j, i ≤ j → j < lowFrom x f i → x.getLsbD j = false)
  | 0, i => .inl rfl
  | f + 1, i => by
    unfold lowFrom
    split
    · rename_i h
      exact .inr ⟨Nat.le_refl _, by omega, h, fun j h1 h2 => by omega⟩
    · rename_i h
      rcases lowFrom_le x f (i + 1) with h0 | ⟨h1, h2, h3, h4⟩
      · exact .inl h0
      · refine .inr ⟨by omega, by omega, h3, fun j h5 h6 => ?_⟩
        by_cases hj : j = i
        · subst hj; simpa using h
        · exact h4 j (by omega) h6
theorem lowFrom_none (x : W) : ∀ f i, 1 ≤ i → lowFrom x f i = 0 → ∀ j, i ≤ j → j < i + f → x.getLsbD j = false
  | 0, i, _, _, j, h1, h2 => by omega
  | f + 1, i, hi, h, j, h1, h2 => by
    unfold lowFrom at h
    split at h
    · omega
    · rename_i hb
      by_cases hj : j = i
      · subst hj; simpa using hb
      · exact lowFrom_none x f (i + 1) (by omega) h j (by omega) (by omega)
theorem lowest_lt (x : W) : lowest x < 16 := by
  rcases lowFrom_le x 15 1 with h | ⟨_, h, _⟩
  · unfold lowest; omega
  · unfold lowest; omega
theorem lowFrom_succ (x : W) (f i : Nat) : lowFrom x (f + 1) i = if x.getLsbD i then i else lowFrom x f (i + 1) := rfl

/-! Take -/
def tkN (p : Sg) : Nat := lowest (p.wt &&& ~~~ p.hd)
def tkOk (p : Sg) : Bool := !(Nat.beq (tkN p) 0) && !(p.at_ (tkN p) == 1#32)
def tkSig (p : Sg) : Int := if tkOk p then tkN p else 0
def tkEnds (p : Sg) : Bool := tkOk p && (p.at_ (tkN p) == 0#32)
def tkAt (p : Sg) : Int := if tkOk p then u (p.at_ (tkN p)) else 0
def tkP (p : Sg) : Sg := if tkN p = 0 then p else setW p (p.wt &&& ~~~ bitN (tkN p))

/-! Pending -/
def pend (x : W) : List Nat := ((List.range 15).map (· + 1)).filter fun i => x.getLsbD i
def pendTo (x : W) (i : Nat) : List Nat := ((List.range i).map (· + 1)).filter fun i => x.getLsbD i
theorem pendTo_succ (x : W) (i : Nat) : pendTo x (i + 1) = pendTo x i ++ (if x.getLsbD (i + 1) then [i + 1] else []) := by
  unfold pendTo
  rw [List.range_succ, List.map_append, List.filter_append]
  congr 1
  simp only [List.map_cons, List.map_nil, List.filter_cons, List.filter_nil]
theorem pendTo_length (x : W) (i : Nat) : (pendTo x i).length ≤ i := by
  have := List.length_filter_le (fun i => x.getLsbD i) ((List.range i).map (· + 1))
  simpa [pendTo] using this
def nl (l : List Nat) : List AV := l.map fun (i : Nat) => AV.int .i64 (Int.ofNat i)
theorem nl_append (a b : List Nat) : nl (a ++ b) = nl a ++ nl b := by simp [nl]
theorem nl_length (a : List Nat) : (nl a).length = a.length := by simp [nl]
theorem nl_flat (n : Nat) (a : List Nat) : bnds n (nl a) = true := by rw [bnds_eq]; simp [nl, bnd]
theorem nl_rens (θ : List Nat) (a : List Nat) : rens θ (nl a) = nl a := rens_flat θ _ (nl_flat 0 a)

theorem u_of (x : W) : Int.ofNat (BitVec.toNat x) = u x := rfl
theorem kAndNot_w (x y : Int) : kAndNot .u32 x y = u (w32 x &&& ~~~ w32 y) := u_wrap _
theorem kOr_w (x y : Int) : kOr .u32 x y = u (w32 x ||| w32 y) := u_wrap _
theorem kShl1 {i : Nat} (h : i < 32) : kShl .u32 1 (i : Int) = u (bitN i) := by
  unfold kShl
  rw [show min (Int.toNat (i : Int)) (IntKind.bits .u32) = i by simp [IntKind.bits]; omega, Int.one_mul]
  have hlt : 2 ^ i < 4294967296 := by
    have : 2 ^ i < 2 ^ 32 := Nat.pow_lt_pow_right (by omega) h
    simpa using this
  have e : u (bitN i) = ((2 ^ i : Nat) : Int) := by
    unfold u bitN
    rw [BitVec.toNat_ofNat, Nat.mod_eq_of_lt (by simpa using hlt)]
  rw [e, show (2 : Int) ^ i = ((2 ^ i : Nat) : Int) by simp, IntKind.wrap_u32]
  generalize 2 ^ i = m at *
  omega
theorem wrap_w32 (a : Int) : IntKind.u32.wrap a = u (w32 a) := by
  rw [IntKind.wrap_u32]
  have := u_w32 (n := a % 4294967296) (by omega)
  rw [← this]
  congr 1
  unfold w32
  apply BitVec.eq_of_toInt_eq
  simp only [BitVec.toInt_ofInt]
  show Int.bmod (a % 4294967296) 4294967296 = Int.bmod a 4294967296
  unfold Int.bmod
  simp
end Go.Am
