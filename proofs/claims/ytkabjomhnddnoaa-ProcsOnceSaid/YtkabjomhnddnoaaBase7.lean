/-
  CRC-32C, plainly: the register's step, its parity, flips, linear maps.
  Words of 32 bits as the program holds them.
  The table of half bytes.
  Linear maps of registers, by their 32 images.
  Sets of signals: what they are, and their cells, the program's and the document's.
  What the calls on sets of signals come to, in written terms: the same words for the program's sets and the document's.
  What is owed of each call on sets of signals: once for the program's sets, once for the document's.
  The document's cells of a set: read, written, bit by bit.
  Processes: what tables of them are, and their cells, the program's and the document's.
  Sets of signals in a family: what the calls on them come to.
-/
import Derived.Test.YtkabjomhnddnoaaBase4
import Derived.IntWalk
import Derived.Test.YtkabjomhnddnoaaBase5
import Derived.Test.YtkabjomhnddnoaaBase6
namespace Crc
abbrev Wd := BitVec 32
def poly : Wd := 2197175160#32

def st (x : Wd) : Wd := (x >>> 1) ^^^ (if x.getLsbD 0 then poly else 0#32)

def stn : Nat → Wd → Wd
  | 0, x => x
  | n + 1, x => stn n (st x)

def parN : Nat → Wd → Bool
  | 0, _ => false
  | n + 1, x => parN n x ^^ x.getLsbD n

def par (x : Wd) : Bool := parN 32 x

def b8 (c : Int) : Wd := BitVec.ofInt 32 c

def reg : Wd → List Int → Wd
  | s, [] => s
  | s, c :: l => reg (stn 8 (s ^^^ b8 c)) l

def sum (l : List Int) : Wd := ~~~ (reg (~~~ 0#32) l)
def more (s : Wd) (l : List Int) : Wd := ~~~ (reg (~~~ s) l)

end Crc
namespace Go.Am
open Crc
def u (x : Wd) : Int := (x.toNat : Int)
def w32 (n : Int) : Wd := BitVec.ofInt 32 n

theorem u_range (x : Wd) : 0 ≤ u x ∧ u x < 4294967296 := by
  have := x.isLt
  unfold u; omega
theorem u_wrap (x : Wd) : IntKind.u32.wrap (u x) = u x := by
  have := u_range x
  rw [IntKind.wrap_u32]; omega
theorem ofInt_u (x : Wd) : BitVec.ofInt 32 (u x) = x := by
  apply BitVec.eq_of_toNat_eq
  simp [u]
theorem w32_u (x : Wd) : w32 (u x) = x := ofInt_u x
theorem u_inj {x y : Wd} : u x = u y ↔ x = y := by
  constructor
  · intro h
    have := congrArg w32 h
    rwa [w32_u, w32_u] at this
  · rintro rfl; rfl
theorem u_beq (x y : Wd) : (u x == u y) = (x == y) := by
  rw [Bool.eq_iff_iff]; simp [u_inj]
theorem fdiv_u (x : Wd) (k : Nat) : (u x).fdiv (2 ^ k) = u (x >>> k) := by
  unfold u
  rw [BitVec.toNat_ushiftRight, Nat.shiftRight_eq_div_pow, Int.fdiv_eq_ediv_of_nonneg _ (Int.le_of_lt (Int.pow_pos (by omega)))]
  simp
theorem kAnd_w (x y : Int) : kAnd .u32 x y = u (w32 x &&& w32 y) := u_wrap _
theorem kShr_u (x : Wd) (k : Nat) (hk : k ≤ 32) : kShr .u32 (u x) (k : Int) = u (x >>> k) := by
  unfold kShr
  rw [show min (Int.toNat (k : Int)) (IntKind.bits .u32) = k by simp [IntKind.bits]; omega]
  exact fdiv_u x k
end Go.Am
namespace Go.Am
open Crc
def tab : List AV := [.int .u32 0, .int .u32 274646895, .int .u32 549293790, .int .u32 820201905, .int .u32 1098587580, .int .u32 1361435347, .int .u32 1640403810, .int .u32 1905808397, .int .u32 2197175160, .int .u32 2460548119, .int .u32 2722870694, .int .u32 2987750089, .int .u32 3280807620, .int .u32 3553878443, .int .u32 3811616794, .int .u32 4084100981]

end Go.Am
namespace Go.Am
open Crc
def M (cs : List AV) (i : Nat) : Wd := w32 (getI cs i)
def app (f : Nat → Wd) : Nat → Wd → Wd
  | 0, _ => 0#32
  | n + 1, x => app f n x ^^^ (if x.getLsbD n then f n else 0#32)

def bitN (i : Nat) : Wd := BitVec.ofNat 32 (2 ^ i)
def low (n : Nat) (x : Wd) : Wd := app bitN n x
def zs (q : Nat) (x : Wd) : Wd := stn (8 * q) x
theorem bit_sel (x : Wd) (i : Nat) (hi : i < 32) : kAnd .u32 (kShr .u32 (u x) (i : Int)) 1 = if x.getLsbD i then 1 else 0 := by
  rw [kShr_u x i (by omega), kAnd_w, w32_u]
  have : (x >>> i &&& w32 1) = if x.getLsbD i then 1#32 else 0#32 := by
    apply BitVec.eq_of_getLsbD_eq
    intro j hj
    have e1 : w32 1 = 1#32 := by decide
    rw [e1]
    simp only [BitVec.getLsbD_and, BitVec.getLsbD_ushiftRight]
    by_cases h0 : j = 0
    · subst h0
      cases h : x.getLsbD i <;> simp [h]
    · have : (1#32).getLsbD j = false := by simp [h0]
      rw [this]
      split <;> simp [h0]
  rw [this]
  split <;> decide
end Go.Am
namespace Go.Am
open Crc
structure Sg where
  wt : Wd
  hd : Wd
  at_ : Nat → Wd
  hw : wt &&& 65534#32 = wt
  hh : hd &&& 65532#32 = hd
  ha : ∀ i, i < 2 ∨ 16 ≤ i → at_ i = 0#32
theorem Sg.ext {p q : Sg} (h1 : p.wt = q.wt) (h2 : p.hd = q.hd) (h3 : ∀ i, p.at_ i = q.at_ i) : p = q := by
  cases p; cases q
  have : ∀ f g : Nat → Wd, (∀ i, f i = g i) → f = g := fun f g h => funext h
  simp only at h1 h2 h3
  subst h1 h2
  have := this _ _ h3
  subst this
  rfl
theorem and_idem (x m : Wd) : x &&& m &&& m = x &&& m := by rw [BitVec.and_assoc, BitVec.and_self]
def decP (cs : List AV) : Sg where
  wt := w32 (getI cs 1) &&& 65534#32
  hd := w32 (getI cs 2) &&& 65532#32
  at_ i := if i < 2 ∨ 16 ≤ i then 0#32 else w32 (getI cs (i + 3))
  hw := and_idem _ _
  hh := and_idem _ _
  ha i h := if_pos h
def at16 (f : Nat → Wd) : List AV := (List.range 16).map fun i => .int .u32 (u (f i))
def encP (p : Sg) : List AV := .bool true :: .int .u32 (u p.wt) :: .int .u32 (u p.hd) :: at16 p.at_
theorem at16_length (f : Nat → Wd) : (at16 f).length = 16 := by simp [at16]
theorem at16_get (f : Nat → Wd) {i : Nat} (h : i < 16) : (at16 f)[i]? = some (.int .u32 (u (f i))) := by simp [at16, h]
theorem encP_length (p : Sg) : (encP p).length = 19 := by simp [encP, at16_length]
theorem encP_at (p : Sg) {i : Nat} (h : i < 16) : (encP p)[i + 3]? = some (.int .u32 (u (p.at_ i))) := by
  simp only [encP, List.getElem?_cons_succ]
  exact at16_get p.at_ h
theorem encP_isI (p : Sg) {i : Nat} (h : i < 16) : isI .u32 (encP p) (i + 3) = true := by simp [isI, encP_at p h]
theorem encP_getI (p : Sg) {i : Nat} (h : i < 16) : getI (encP p) (i + 3) = u (p.at_ i) := by simp [getI, encP_at p h]
theorem decP_enc (p : Sg) : decP (encP p) = p := by
  refine Sg.ext ?_ ?_ fun i => ?_
  · show w32 (u p.wt) &&& 65534#32 = _
    rw [w32_u, p.hw]
  · show w32 (u p.hd) &&& 65532#32 = _
    rw [w32_u, p.hh]
  · simp only [decP]
    by_cases h : i < 2 ∨ 16 ≤ i
    · rw [if_pos h, p.ha i h]
    · rw [if_neg h, encP_getI p (by omega), w32_u]
def okP (cs : List AV) : Bool := Nat.beq cs.length 19 && (isB cs 0 && (getB cs 0 && (okI .u32 cs 1 18 && (List.range 19).all fun j => getI cs j == getI (encP (decP cs)) j)))
theorem okP_eq {cs : List AV} (h : okP cs = true) : cs = encP (decP cs) := by
  simp only [okP, Bool.and_eq_true, List.all_eq_true, List.mem_range, beq_iff_eq] at h
  obtain ⟨h1, h2, h3, h4, h5⟩ := h
  have h1 := Nat.eq_of_beq_eq_true h1
  have ee : ∀ j, j < 18 → ∃ n, (encP (decP cs))[j + 1]? = some (.int .u32 n) := fun j hj => by
    rcases j with _ | _ | j
    · exact ⟨_, rfl⟩
    · exact ⟨_, rfl⟩
    · exact ⟨_, encP_at _ (by omega)⟩
  have key : ∀ j, j < 18 → cs[j + 1]? = (encP (decP cs))[j + 1]? := fun j hj => by
    have e1 := isI_some (okI_get h4 hj)
    rw [Nat.add_comm 1 j] at e1
    obtain ⟨n, e2⟩ := ee j hj
    rw [e1, e2]
    have := h5 (j + 1) (by omega)
    rw [this]
    simp [getI, e2]
  apply List.ext_getElem?
  intro i
  rcases i with _ | i
  · rw [isB_some h2, h3]; rfl
  · by_cases hi : i < 18
    · exact key i hi
    · rw [List.getElem?_eq_none (by omega), List.getElem?_eq_none (by rw [encP_length]; omega)]
theorem okP_enc (p : Sg) : okP (encP p) = true := by
  simp only [okP, Bool.and_eq_true, List.all_eq_true, List.mem_range, beq_iff_eq]
  refine ⟨by rw [encP_length]; rfl, rfl, rfl, okI_of fun j hj => ?_, fun j _ => by rw [decP_enc]⟩
  have : ∃ x : Wd, (encP p)[j + 1]? = some (.int .u32 (u x)) := by
    rcases j with _ | _ | j
    · exact ⟨p.wt, rfl⟩
    · exact ⟨p.hd, rfl⟩
    · exact ⟨p.at_ j, encP_at p (by omega)⟩
  obtain ⟨x, hx⟩ := this
  rw [Nat.add_comm]
  simp [isI, hx]
theorem encP_flat (n : Nat) (p : Sg) : bnds n (encP p) = true := by rw [bnds_eq]; simp [encP, at16, bnd]
theorem encP_cells (p : Sg) : cellsB (encP p) = true := by simp [cellsB, encP, at16, isCell]
theorem encP_1 (p : Sg) : getI (encP p) 1 = u p.wt := rfl
theorem encP_2 (p : Sg) : getI (encP p) 2 = u p.hd := rfl
def setW (p : Sg) (x : Wd) : Sg := { p with wt := x &&& 65534#32, hw := and_idem _ _ }
def setH (p : Sg) (x : Wd) : Sg := { p with hd := x &&& 65532#32, hh := and_idem _ _ }
def send (p : Sg) (n : Int) : Sg := setW p (p.wt ||| bitN n.toNat)
def mask (p : Sg) (b : Int) : Sg := setH p (w32 b)
def lowFrom (x : Wd) : Nat → Nat → Nat
  | 0, _ => 0
  | f + 1, i => if x.getLsbD i then i else lowFrom x f (i + 1)
def lowest (x : Wd) : Nat := lowFrom x 15 1
theorem lowFrom_le (x : Wd) : ∀ f i, lowFrom x f i = 0 ∨ (i ≤ lowFrom x f i ∧ lowFrom x f i < i + f ∧ x.getLsbD (lowFrom x f i) = true ∧ ∀ j, i ≤ j → j < lowFrom x f i → x.getLsbD j = false)
  | 0, i => .inl rfl
  | f + 1, i => by
    unfold lowFrom
    split
    · rename_i h
      exact .inr ⟨Nat.le_refl _, by omega, h, fun j h1 h2 => by omega⟩
    · rename_i h
      rcases lowFrom_le x f (i + 1) with h0 | ⟨h1, h2, h3, h4⟩
      · exact .inl h0
      · refine .inr ⟨by omega, by omega, h3, fun j h5 h6 => ?_⟩
        by_cases hj : j = i
        · subst hj; simpa using h
        · exact h4 j (by omega) h6
theorem lowest_lt (x : Wd) : lowest x < 16 := by
  rcases lowFrom_le x 15 1 with h | ⟨_, h, _⟩
  · unfold lowest; omega
  · unfold lowest; omega
theorem lowFrom_succ (x : Wd) (f i : Nat) : lowFrom x (f + 1) i = if x.getLsbD i then i else lowFrom x f (i + 1) := rfl

def tkN (p : Sg) : Nat := lowest (p.wt &&& ~~~ p.hd)
def tkOk (p : Sg) : Bool := !(Nat.beq (tkN p) 0) && !(p.at_ (tkN p) == 1#32)
def tkSig (p : Sg) : Int := if tkOk p then tkN p else 0
def tkEnds (p : Sg) : Bool := tkOk p && (p.at_ (tkN p) == 0#32)
def tkAt (p : Sg) : Int := if tkOk p then u (p.at_ (tkN p)) else 0
def tkP (p : Sg) : Sg := if tkN p = 0 then p else setW p (p.wt &&& ~~~ bitN (tkN p))

def nl (l : List Nat) : List AV := l.map fun (i : Nat) => AV.int .i64 (Int.ofNat i)
theorem nl_append (a b : List Nat) : nl (a ++ b) = nl a ++ nl b := by simp [nl]
theorem nl_length (a : List Nat) : (nl a).length = a.length := by simp [nl]
theorem nl_flat (n : Nat) (a : List Nat) : bnds n (nl a) = true := by rw [bnds_eq]; simp [nl, bnd]
theorem nl_rens (θ : List Nat) (a : List Nat) : rens θ (nl a) = nl a := rens_flat θ _ (nl_flat 0 a)

theorem kAndNot_w (x y : Int) : kAndNot .u32 x y = u (w32 x &&& ~~~ w32 y) := u_wrap _
theorem kOr_w (x y : Int) : kOr .u32 x y = u (w32 x ||| w32 y) := u_wrap _
theorem kShl1 {i : Nat} (h : i < 32) : kShl .u32 1 (i : Int) = u (bitN i) := by
  unfold kShl
  rw [show min (Int.toNat (i : Int)) (IntKind.bits .u32) = i by simp [IntKind.bits]; omega, Int.one_mul]
  have hlt : 2 ^ i < 4294967296 := by
    have : 2 ^ i < 2 ^ 32 := Nat.pow_lt_pow_right (by omega) h
    simpa using this
  have e : u (bitN i) = ((2 ^ i : Nat) : Int) := by
    unfold u bitN
    rw [BitVec.toNat_ofNat, Nat.mod_eq_of_lt (by simpa using hlt)]
  rw [e, show (2 : Int) ^ i = ((2 ^ i : Nat) : Int) by simp, IntKind.wrap_u32]
  generalize 2 ^ i = m at *
  omega
end Go.Am
namespace Go.Am
open Crc
def onP {α : Type} (d : α) (f : Sg → α) : List AV → α := fun as => match as with
  | .agg cs :: _ => f (decP cs)
  | _ => d
def onPI {α : Type} (d : α) (f : Sg → Int → α) : List AV → α := fun as => match as with
  | [.agg cs, .int _ n] => f (decP cs) n
  | _ => d
def okU : List AV → Bool := fun as => match as with
  | [.agg cs] => okP cs
  | _ => false
def tkU : List AV → List AV := onP [] fun p => encP (tkP p)
def tkSigU : List AV → Int := onP 0 tkSig
def tkEndsU : List AV → Bool := onP false tkEnds
def tkAtU : List AV → Int := onP 0 tkAt
def tkOkU : List AV → Bool := onP false tkOk
def childU : List AV → List AV := onP [] fun p => encP (setW p 0#32)
def sameB (p q : Sg) : Bool := p.wt == q.wt && (p.hd == q.hd && (List.range 16).all fun i => p.at_ i == q.at_ i)
def sameU : List AV → Bool := fun as => match as with
  | [.agg cs, .agg ds] => sameB (decP cs) (decP ds)
  | _ => false

structure Side where
  get : EL → Option (EB × EL)
  put : EL → EL
def sideP : Side := ⟨fun l => some (.uf 1001 okU [.agg l], l), fun l => l⟩
section
variable (p : Sg)
theorem okU_enc : okU [.agg (encP p)] = true := okP_enc p
theorem tkU_enc : tkU [.agg (encP p)] = encP (tkP p) := by simp only [tkU, onP, decP_enc]
theorem tkSigU_enc : tkSigU [.agg (encP p)] = tkSig p := by simp only [tkSigU, onP, decP_enc]
theorem tkEndsU_enc : tkEndsU [.agg (encP p)] = tkEnds p := by simp only [tkEndsU, onP, decP_enc]
theorem tkAtU_enc : tkAtU [.agg (encP p)] = tkAt p := by simp only [tkAtU, onP, decP_enc]
theorem tkOkU_enc : tkOkU [.agg (encP p)] = tkOk p := by simp only [tkOkU, onP, decP_enc]
theorem childU_enc : childU [.agg (encP p)] = encP (setW p 0#32) := by simp only [childU, onP, decP_enc]
end
def zeroP : Sg := ⟨0#32, 0#32, fun _ => 0#32, rfl, rfl, fun _ _ => rfl⟩

structure SideOk (G : Nat → List AV) (s : Side) (enc : Sg → List AV) : Prop where
  get : ∀ l b d, s.get l = some (b, d) → vB G b = true → ∃ p, vL G d = encP p ∧ vL G l = enc p
  put : ∀ l p, vL G l = encP p → vL G (s.put l) = enc p
  flat : ∀ p n, bnds n (enc p) = true
theorem sideP_ok (G : Nat → List AV) : SideOk G sideP encP := by
  refine ⟨fun l b d h hb => ?_, fun l p h => h, fun p n => encP_flat n p⟩
  simp only [sideP, Option.some.injEq, Prod.mk.injEq] at h
  obtain ⟨rfl, rfl⟩ := h
  simp only [vB, vVs, vV, okU] at hb
  exact ⟨_, okP_eq hb, okP_eq hb⟩
end Go.Am
namespace Go.Am
open Crc
variable {C : Ctx} {s : Side} {enc : Sg → List AV}
def Meth (C : Ctx) (f : FuncId) (enc : Sg → List AV) (p : Sg) (rest : List AV) (v : AV) (p' : Sg) : Prop :=
  ACalls C f (.ptr (.rw 0) 0 :: rest) [some ⟨1, enc p⟩] fun v' H' => v' = v ∧ H'.take 1 = [some ⟨1, enc p'⟩]
def outB (n lo hi : Int) : Bool := decide (n < lo) || decide (hi < n)
theorem outB_true {n lo hi : Int} (h : n < lo ∨ hi < n) : outB n lo hi = true := by simp [outB, h]
theorem outB_false {n lo hi : Int} (h1 : lo ≤ n) (h2 : n ≤ hi) : outB n lo hi = false := by simp [outB]; omega

def SendOk (C : Ctx) (f : FuncId) (enc : Sg → List AV) : Prop := ∀ p n, Meth C f enc p [.int .i64 n] (.int .i64 (if outB n 0 15 then 2 else 0)) (if outB n 0 15 then p else send p n)
def takenV (p : Sg) : AV := .tup [.agg [.int .i64 (tkSig p), .bool (tkEnds p), .int .u32 (tkAt p)], .bool (tkOk p)]
def TakeOk (C : Ctx) (f : FuncId) (enc : Sg → List AV) : Prop := ∀ p, Meth C f enc p [] (takenV p) (tkP p)
def NewOk (C : Ctx) (f : FuncId) (enc : Sg → List AV) (v : Sg → AV) (cs : Sg → List AV) : Prop := ∀ p, ACalls C f [.ptr (.rw 0) 0] [some ⟨1, enc p⟩] fun v' H' => v' = v p ∧ H' = [some ⟨1, enc p⟩, some ⟨1, cs p⟩]
theorem Meth.of {K : DCfg} {fuel n0 : Nat} {f : FuncId} {fn : Func} {p p' : Sg} {rest : List EV} {v : AV} (hK : DGood C K (loopsOf (bodyOf fn))) (hf : C.P.funcs[f]? = some fn) (hb : fn.body = some (bodyOf fn)) (hn : (fn.name == "runtime.NumGoroutine") = false)
    (h : vT C.G (fun _ _ _ => False) (fun v' H' => v' = v ∧ H' = [some ⟨1, enc p'⟩]) (dcall K fuel n0 fn (.ptr (.rw 0) (.lit 0) :: rest) [some ⟨1, .var 1 (enc p)⟩] 1)) : Meth C f enc p (vVs C.G rest) v p' := by
  have := dcall_ok hK hf hb hn h
  simp only [vVs, vV, vR, vN, vHp, List.map_cons, List.map_nil, Option.map_some, vBlk, vL] at this
  exact this
theorem New.of {K : DCfg} {fuel n0 : Nat} {f : FuncId} {fn : Func} {p : Sg} {v : AV} {cs : List AV} (hK : DGood C K (loopsOf (bodyOf fn))) (hf : C.P.funcs[f]? = some fn) (hb : fn.body = some (bodyOf fn)) (hn : (fn.name == "runtime.NumGoroutine") = false)
    (he : bnds 2 (enc p) = true) (hc : bnds 2 cs = true) (hv : bnd 2 v = true) (hu : v ≠ .undef)
    (h : vT C.G (fun _ _ _ => False) (fun v' H' => v' = v ∧ H' = [some ⟨1, enc p⟩, some ⟨1, cs⟩]) (dcall K fuel n0 fn [.ptr (.rw 0) (.lit 0)] [some ⟨1, .var 1 (enc p)⟩] 2)) : ACalls C f [.ptr (.rw 0) 0] [some ⟨1, enc p⟩] fun v' H' => v' = v ∧ H' = [some ⟨1, enc p⟩, some ⟨1, cs⟩] := by
  have := dcall_ok hK hf hb hn h
  simp only [vVs, vV, vR, vN, vHp, List.map_cons, List.map_nil, Option.map_some, vBlk, vL] at this
  exact this.keep (by simp) (by simp [hpB, he, hc]) (by simpa using hv) hu
end Go.Am
namespace Go.Am
open Crc
def updB (f : Nat → Bool) (i : Nat) (b : Bool) : Nat → Bool := fun j => if j = i then b else f j
section
variable (p : Sg) {i : Nat} (h : i < 16)
include h
end
end Go.Am
namespace Go.Am
open Crc
def tabL (m z : Nat) (f : Nat → Nat → AV) : List AV := (List.range (m * z)).map fun j => f (j / z) (j % z)
theorem tabL_len {m z : Nat} {f : Nat → Nat → AV} : (tabL m z f).length = m * z := by simp [tabL]
theorem dm {n z k : Nat} (hk : k < z) : (n * z + k) / z = n ∧ (n * z + k) % z = k := by
  constructor
  · rw [Nat.mul_comm, Nat.mul_add_div (by omega), Nat.div_eq_of_lt hk, Nat.add_zero]
  · rw [Nat.mul_comm, Nat.mul_add_mod, Nat.mod_eq_of_lt hk]
theorem dm_lt {m n z k : Nat} (hn : n < m) (hk : k < z) : n * z + k < m * z := by
  have : (n + 1) * z ≤ m * z := Nat.mul_le_mul_right z hn
  rw [Nat.add_mul, Nat.one_mul] at this
  omega
theorem dm_at {m z j : Nat} (h : j < m * z) : j / z < m ∧ j % z < z ∧ j = j / z * z + j % z := by
  have hz : 0 < z := by
    rcases Nat.eq_zero_or_pos z with rfl | h0
    · simp at h
    · exact h0
  refine ⟨(Nat.div_lt_iff_lt_mul hz).2 h, Nat.mod_lt _ hz, ?_⟩
  rw [Nat.mul_comm]; exact (Nat.div_add_mod j z).symm
theorem tabL_get {m z : Nat} {f : Nat → Nat → AV} {n k : Nat} (hn : n < m) (hk : k < z) : (tabL m z f)[n * z + k]? = some (f n k) := by
  unfold tabL
  rw [List.getElem?_map, List.getElem?_range (dm_lt hn hk)]
  simp only [Option.map_some, (dm (n := n) hk).1, (dm (n := n) hk).2]
theorem tabL_congr {m z : Nat} {f g : Nat → Nat → AV} (h : ∀ n k, n < m → k < z → f n k = g n k) : tabL m z f = tabL m z g := by
  unfold tabL
  refine List.map_congr_left fun j hj => ?_
  obtain ⟨h1, h2, _⟩ := dm_at (List.mem_range.1 hj)
  exact h _ _ h1 h2
theorem tabL_set {m z : Nat} {f : Nat → Nat → AV} {n k : Nat} {v : AV} (hk : k < z) : (tabL m z f).set (n * z + k) v = tabL m z fun a b => if a = n ∧ b = k then v else f a b := by
  refine List.ext_getElem? fun j => ?_
  rw [List.getElem?_set, tabL_len]
  by_cases hj : j < m * z
  · obtain ⟨h1, h2, h3⟩ := dm_at hj
    generalize j / z = a at *
    generalize j % z = b at *
    subst h3
    rw [tabL_get h1 h2, tabL_get h1 h2]
    by_cases e : n * z + k = a * z + b
    · have d1 := dm (n := n) hk
      rw [e] at d1
      have d2 := dm (n := a) h2
      have e1 : a = n := by rw [← d2.1, d1.1]
      have e2 : b = k := by rw [← d2.2, d1.2]
      rw [if_pos e, if_pos (show n * z + k < m * z by rw [e]; exact hj), if_pos ⟨e1, e2⟩]
    · rw [if_neg e, if_neg fun h => e (by rw [h.1, h.2])]
  · rw [List.getElem?_eq_none (by rw [tabL_len]; omega), List.getElem?_eq_none (by rw [tabL_len]; omega)]
    split
    · rw [if_neg (by omega)]
    · rfl
theorem tabL_row {m z : Nat} {f : Nat → Nat → AV} {n : Nat} {r : List AV} (hn : n < m) (hr : r.length = z) : spl (tabL m z f) (n * z) r = tabL m z fun a b => if a = n then r.getD b .undef else f a b := by
  unfold spl
  refine List.ext_getElem? fun j => ?_
  have hl : ((tabL m z f).take (n * z)).length = n * z := by
    rw [List.length_take, tabL_len]
    have : n * z ≤ m * z := Nat.mul_le_mul_right z (Nat.le_of_lt hn)
    omega
  have hnz : (n + 1) * z ≤ m * z := Nat.mul_le_mul_right z hn
  rw [Nat.add_mul, Nat.one_mul] at hnz
  by_cases hj : j < m * z
  · obtain ⟨h1, h2, h3⟩ := dm_at hj
    generalize j / z = a at *
    generalize j % z = b at *
    subst h3
    rw [tabL_get h1 h2]
    by_cases c1 : a < n
    · have : (a + 1) * z ≤ n * z := Nat.mul_le_mul_right z c1
      rw [Nat.add_mul, Nat.one_mul] at this
      rw [List.getElem?_append_left (by omega), List.getElem?_take, if_pos (by omega), tabL_get h1 h2, if_neg (by omega)]
    · by_cases c2 : a = n
      · subst c2
        rw [List.getElem?_append_right (by omega), hl, Nat.add_sub_cancel_left, List.getElem?_append_left (by omega), if_pos rfl]
        have hb : b < r.length := by omega
        simp [List.getD, hb]
      · have : (n + 1) * z ≤ a * z := Nat.mul_le_mul_right z (by omega)
        rw [Nat.add_mul, Nat.one_mul] at this
        rw [List.getElem?_append_right (by omega), hl, List.getElem?_append_right (by omega), List.getElem?_drop, if_neg c2, hr]
        rw [show n * z + z + (a * z + b - n * z - z) = a * z + b by omega, tabL_get h1 h2]
  · rw [List.getElem?_eq_none (by rw [List.length_append, hl, List.length_append, List.length_drop, tabL_len, hr]; omega), List.getElem?_eq_none (by rw [tabL_len]; omega)]
theorem tabL_sub {m z : Nat} {f : Nat → Nat → AV} {n : Nat} (hn : n < m) : subL (tabL m z f) (n * z) z = (List.range z).map (f n) := by
  unfold subL
  refine List.ext_getElem? fun j => ?_
  rw [List.getElem?_take, List.getElem?_map]
  by_cases h : j < z
  · rw [if_pos h, List.getElem?_drop, tabL_get hn h, List.getElem?_range h]; rfl
  · rw [if_neg h, List.getElem?_eq_none (by simpa using h)]; rfl

structure Pc where
  num : Int
  par : Int
  grp : Int
  usr : Int
  en : Bool
  st : Int
def zc : Pc := ⟨0, 0, 0, 0, false, 0⟩
structure Ptb where
  at_ : Nat → Pc
  sg : Nat → Option Sg
theorem Ptb.ext' {s t : Ptb} (h1 : ∀ n, s.at_ n = t.at_ n) (h2 : ∀ n, s.sg n = t.sg n) : s = t := by
  cases s; cases t
  simp only at h1 h2
  have a := funext h1
  have b := funext h2
  subst a b; rfl
def fcell (c : Pc) (p : AV) : Nat → AV
  | 0 => .int .i64 c.num
  | 1 => .int .i64 c.par
  | 2 => .int .i64 c.grp
  | 3 => .int .i64 c.usr
  | 4 => .bool c.en
  | 5 => .int .i64 c.st
  | _ => p
def ptrO (b n : Nat) : Option Sg → AV
  | none => .nilp
  | some _ => .ptr (.rw (b + n)) 0
def encT (b : Nat) (s : Ptb) : List AV := .bool true :: tabL 13 7 fun n => fcell (s.at_ n) (ptrO b n (s.sg n))
def blkO (enc : Sg → List AV) : Option Sg → List AV
  | none => []
  | some p => enc p
def setsL (enc : Sg → List AV) (s : Ptb) : List AV := (List.range 13).map fun n => .agg (blkO enc (s.sg n))
theorem encT_len (b : Nat) (s : Ptb) : (encT b s).length = 92 := by simp [encT, tabL_len]
theorem setsL_len {enc : Sg → List AV} (s : Ptb) : (setsL enc s).length = 13 := by simp [setsL]
theorem rowA_sets {enc : Sg → List AV} {s : Ptb} {n : Nat} (hn : n < 13) : rowA (setsL enc s) n = blkO enc (s.sg n) := by
  unfold rowA setsL
  rw [List.getElem?_map, List.getElem?_range hn]; rfl
section
variable {b n : Nat} {s : Ptb}
theorem T_get {k : Nat} (hn : n < 13) (hk : k < 7) : (encT b s)[n * 7 + (k + 1)]? = some (fcell (s.at_ n) (ptrO b n (s.sg n)) k) := by
  unfold encT
  rw [show n * 7 + (k + 1) = (n * 7 + k) + 1 by omega, List.getElem?_cons_succ, tabL_get hn hk]
variable (hn : n < 13)
include hn
theorem T_num : isI .i64 (encT b s) (n * 7 + 1) = true ∧ getI (encT b s) (n * 7 + 1) = (s.at_ n).num := by simp [isI, getI, T_get (b := b) (s := s) (k := 0) hn (by omega), fcell]
theorem T_usr : isI .i64 (encT b s) (n * 7 + 4) = true ∧ getI (encT b s) (n * 7 + 4) = (s.at_ n).usr := by simp [isI, getI, T_get (b := b) (s := s) (k := 3) hn (by omega), fcell]
theorem T_en : isB (encT b s) (n * 7 + 5) = true ∧ getB (encT b s) (n * 7 + 5) = (s.at_ n).en := by simp [isB, getB, T_get (b := b) (s := s) (k := 4) hn (by omega), fcell]
theorem T_ptr : (encT b s)[n * 7 + 7]? = some (ptrO b n (s.sg n)) := T_get (k := 6) hn (by omega)
theorem T_row : subL (encT b s) (n * 7 + 1) 7 = [.int .i64 (s.at_ n).num, .int .i64 (s.at_ n).par, .int .i64 (s.at_ n).grp, .int .i64 (s.at_ n).usr, .bool (s.at_ n).en, .int .i64 (s.at_ n).st, ptrO b n (s.sg n)] := by
  have : subL (encT b s) (n * 7 + 1) 7 = subL (tabL 13 7 fun n => fcell (s.at_ n) (ptrO b n (s.sg n))) (n * 7) 7 := by
    unfold subL encT; rw [List.drop_succ_cons]
  rw [this, tabL_sub hn]; rfl
end
def updC (s : Ptb) (c : Nat) (x : Pc) : Ptb := { s with at_ := fun j => if j = c then x else s.at_ j }
def updS (s : Ptb) (c : Nat) (o : Option Sg) : Ptb := { s with sg := fun j => if j = c then o else s.sg j }
theorem T_set {b n k : Nat} {s : Ptb} {v : AV} {x : Pc} (hk : k < 6) (hv : ∀ l, v ≠ .agg l) (hx : ∀ j, j < 7 → fcell x (ptrO b n (s.sg n)) j = if j = k then v else fcell (s.at_ n) (ptrO b n (s.sg n)) j) :
    setPart (encT b s) (n * 7 + (k + 1)) v = encT b (updC s n x) := by
  rw [setPart_cell hv]
  unfold encT
  rw [show n * 7 + (k + 1) = (n * 7 + k) + 1 by omega, List.set_cons_succ, tabL_set (by omega)]
  congr 1
  refine tabL_congr fun a j _ hj => ?_
  show _ = fcell (if a = n then x else s.at_ a) (ptrO b a (s.sg a)) j
  by_cases e : a = n
  · subst e
    rw [if_pos rfl, hx j hj]
    by_cases e2 : j = k
    · rw [if_pos ⟨rfl, e2⟩, if_pos e2]
    · rw [if_neg fun h => e2 h.2, if_neg e2]
  · rw [if_neg fun h => e h.1, if_neg e]
def rowT (x : Pc) (p : AV) : List AV := [.int .i64 x.num, .int .i64 x.par, .int .i64 x.grp, .int .i64 x.usr, .bool x.en, .int .i64 x.st, p]
def rowU (x : Pc) : List AV := [.int .i64 x.num, .int .i64 x.par, .int .i64 x.grp, .int .i64 x.usr, .bool x.en, .int .i64 x.st]
def encV (p : Nat → AV) (s : Ptb) : List AV := .bool true :: tabL 13 7 fun n => fcell (s.at_ n) (p n)
theorem encT_V (b : Nat) (s : Ptb) : encT b s = encV (fun n => ptrO b n (s.sg n)) s := rfl
theorem V_row {p : Nat → AV} {n : Nat} {s : Ptb} {x : Pc} {v : AV} (hn : n < 13) : setPart (encV p s) (n * 7 + 1) (.agg (rowT x v)) = encV (fun j => if j = n then v else p j) (updC s n x) := by
  show spl (encV p s) (n * 7 + 1) (rowT x v) = _
  have e : spl (encV p s) (n * 7 + 1) (rowT x v) = .bool true :: spl (tabL 13 7 fun n => fcell (s.at_ n) (p n)) (n * 7) (rowT x v) := by
    unfold spl encV
    rw [List.take_succ_cons, show n * 7 + 1 + (rowT x v).length = (n * 7 + (rowT x v).length) + 1 by omega, List.drop_succ_cons, List.cons_append]
  rw [e, tabL_row (z := 7) hn rfl]
  unfold encV
  congr 1
  refine tabL_congr fun a j _ hj => ?_
  show _ = fcell (if a = n then x else s.at_ a) (if a = n then v else p a) j
  by_cases c : a = n
  · rw [if_pos c, if_pos c, if_pos c]
    match j, hj with
    | 0, _ | 1, _ | 2, _ | 3, _ | 4, _ | 5, _ | 6, _ => rfl
  · rw [if_neg c, if_neg c, if_neg c]
theorem V_ptr {p : Nat → AV} {n : Nat} {s : Ptb} {v : AV} (hv : ∀ l, v ≠ .agg l) : setPart (encV p s) (n * 7 + 7) v = encV (fun j => if j = n then v else p j) s := by
  rw [setPart_cell hv]
  unfold encV
  rw [show n * 7 + 7 = (n * 7 + 6) + 1 by omega, List.set_cons_succ, tabL_set (by omega)]
  congr 1
  refine tabL_congr fun a j _ hj => ?_
  show _ = fcell (s.at_ a) (if a = n then v else p a) j
  by_cases c : a = n
  · rw [if_pos c]
    by_cases e2 : j = 6
    · rw [if_pos ⟨c, e2⟩, e2]; rfl
    · rw [if_neg fun h => e2 h.2]
      match j, (show j < 6 by omega) with
      | 0, _ | 1, _ | 2, _ | 3, _ | 4, _ | 5, _ => rfl
  · rw [if_neg fun h => c h.1, if_neg c]
theorem V_set {p : Nat → AV} {n k : Nat} {s : Ptb} {v : AV} {x : Pc} (hk : k < 6) (hv : ∀ l, v ≠ .agg l) (hx : ∀ j, j < 6 → fcell x .undef j = if j = k then v else fcell (s.at_ n) .undef j) :
    setPart (encV p s) (n * 7 + (k + 1)) v = encV p (updC s n x) := by
  rw [setPart_cell hv]
  unfold encV
  rw [show n * 7 + (k + 1) = (n * 7 + k) + 1 by omega, List.set_cons_succ, tabL_set (by omega)]
  congr 1
  refine tabL_congr fun a j _ hj => ?_
  show _ = fcell (if a = n then x else s.at_ a) (p a) j
  by_cases e : a = n
  · subst e
    rw [if_pos rfl]
    by_cases e2 : j = k
    · rw [if_pos ⟨rfl, e2⟩]
      have := hx j (by omega)
      rw [if_pos e2] at this
      rw [← this]
      match j, (show j < 6 by omega) with
      | 0, _ | 1, _ | 2, _ | 3, _ | 4, _ | 5, _ => rfl
    · rw [if_neg fun h => e2 h.2]
      by_cases e3 : j < 6
      · have := hx j e3
        rw [if_neg e2] at this
        match j, e3, this with
        | 0, _, t | 1, _, t | 2, _, t | 3, _, t | 4, _, t | 5, _, t => exact t.symm
      · have : j = 6 := by omega
        subst this; rfl
  · rw [if_neg fun h => e h.1, if_neg e]
end Go.Am
namespace Go.Am
open Crc
variable {C : Ctx}
inductive FO where
  | get (v : EV)
  | set (v : EV) (d : EL)
  | new (d : EL)
def foOut (s : Side) (H : DHp) (b c : Nat) (l : EL) (k : EN) : FO → Outs
  | .get v => .one v []
  | .set v d => .one v (famSets b c 1 (.put l k (s.put d)))
  | .new d => .one (.ptr (.rw H.length) (.lit 0)) [.new ⟨1, s.put d⟩]
def onFam (s : Side) (k : EL → List EV → Option FO) : DSum := fun args H => match args with
  | .ptr (.fm b c i) o :: rest => match famAt H b c with
    | some (z, l, ls) => match Nat.beq z 1, s.get (.row l i) with
      | true, some (bc, d) => match k d rest with
        | some fo => some (.chk (.eqN o (.lit 0)) (.chk (mkLe (mkAdd i (.lit 1)) (.lit c)) (.chk (.rows l ls) (.chk (mkLe (mkAdd i (.lit 1)) (.len l)) (.chk bc (foOut s H b c l i fo))))))
        | none => none
      | _, _ => none
    | none => none
  | _ => none
def foOk (C : Ctx) (f : FuncId) (enc : Sg → List AV) (p : Sg) (rest : List EV) : FO → Prop
  | .get v => Meth C f enc p (vVs C.G rest) (vV C.G v) p ∧ bnd 0 (vV C.G v) = true ∧ vV C.G v ≠ .undef
  | .set v d => ∃ p', vL C.G d = encP p' ∧ Meth C f enc p (vVs C.G rest) (vV C.G v) p' ∧ bnd 0 (vV C.G v) = true ∧ vV C.G v ≠ .undef
  | .new d => rest = [] ∧ ∃ p', vL C.G d = encP p' ∧ ACalls C f [.ptr (.rw 0) 0] [some ⟨1, enc p⟩] fun v' H' => v' = .ptr (.rw 1) 0 ∧ H' = [some ⟨1, enc p⟩, some ⟨1, enc p'⟩]
theorem le_mkLe {G : Nat → List AV} {a b : EN} (h : vB G (mkLe a b) = true) : vN G a ≤ vN G b := by
  rw [Go.Am.vB_mkLe] at h; exact leB_iff.1 h
theorem onFam_ok {s : Side} {enc : Sg → List AV} (hs : SideOk C.G s enc) {f : FuncId} {k : EL → List EV → Option FO}
    (h : ∀ d rest fo p, k d rest = some fo → vL C.G d = encP p → bnds 0 (vVs C.G rest) = true ∧ foOk C f enc p rest fo) : DSumOk C f (onFam s k) := by
  intro args H o ho
  unfold onFam at ho
  split at ho
  · rename_i b c i o0 rest
    split at ho
    · rename_i z l ls hf
      split at ho
      · rename_i bc d hz hg
        have hz := Nat.eq_of_beq_eq_true hz
        subst hz
        split at ho
        · rename_i fo hk
          simp only [Option.some.injEq] at ho
          subst ho
          intro h1 h2 h3 h4 h5
          have h1 : vN C.G o0 = 0 := Nat.eq_of_beq_eq_true h1
          have h2 := le_mkLe h2
          have h4 := le_mkLe h4
          rw [vN_mkAdd] at h2 h4
          have h2 : vN C.G i + 1 ≤ c := h2
          have h4 : vN C.G i + 1 ≤ (vL C.G l).length := h4
          have h3 : rowsA (vL C.G l) (vVs C.G ls) = true := h3
          obtain ⟨p, e1, e2⟩ := hs.get _ _ _ hg h5
          have e2 : rowA (vL C.G l) (vN C.G i) = enc p := e2
          have hat := fam_at hf h3 (i := vN C.G i) (by omega)
          rw [e2] at hat
          obtain ⟨hr, hfo⟩ := h d rest fo p hk e1
          have args0 : vVs C.G (.ptr (.fm b c i) o0 :: rest) = .ptr (.rw (b + vN C.G i)) 0 :: vVs C.G rest := by simp only [vVs, vV, vR, h1]
          have hlt : b + vN C.G i < (vHp C.G H).length := (List.getElem?_eq_some_iff.1 hat).1
          cases fo with
          | get v =>
            obtain ⟨m, hb, hu⟩ := hfo
            have m := m.keep (by simp) (by simp [hpB, hs.flat]) (bnd_mono (Nat.zero_le _) _ hb) hu
            have := meth (news := []) m (hs.flat _ _) (hs.flat _ _) hr (bnd_mono (Nat.zero_le _) _ hb) (fun b hb => by simp at hb) hat
            show DOut C f _ H v []
            unfold DOut
            rw [args0]
            refine this.monoK ?_
            rintro v' H' ⟨rfl, rfl⟩
            refine ⟨ren_flat _ _ hb, ?_⟩
            simp only [List.map_nil, List.append_nil, acts, List.foldl]
            have e : (vHp C.G H)[b + vN C.G i] = some ⟨1, enc p⟩ := (List.getElem?_eq_some_iff.1 hat).2
            rw [← e]; exact List.set_getElem_self hlt
          | set v d' =>
            obtain ⟨p', e3, m, hb, hu⟩ := hfo
            have m := m.keep (by simp) (by simp [hpB, hs.flat]) (bnd_mono (Nat.zero_le _) _ hb) hu
            have := meth (news := []) m (hs.flat _ _) (hs.flat _ _) hr (bnd_mono (Nat.zero_le _) _ hb) (fun b hb => by simp at hb) hat
            show DOut C f _ H v _
            unfold DOut
            rw [args0]
            refine this.monoK ?_
            rintro v' H' ⟨rfl, rfl⟩
            refine ⟨ren_flat _ _ hb, ?_⟩
            rw [famSets_ok (N := enc p') hf h3 (k := vN C.G i) (by omega) (by omega) (by simp only [vL, hs.put _ p' e3])]
            simp
          | new d' =>
            obtain ⟨rfl, p', e3, m⟩ := hfo
            have := meth (rest := []) (news := [⟨1, enc p'⟩]) m (hs.flat _ _) (hs.flat _ _) rfl (by simp [bnd]) (fun b hb => by simp at hb; subst hb; exact hs.flat _ _) hat
            show DOut C f _ H _ _
            unfold DOut
            rw [args0]
            refine this.monoK ?_
            rintro v' H' ⟨rfl, rfl⟩
            refine ⟨by simp [wide, ren, vV, vR, vN, vHp_length], ?_⟩
            have e : (vHp C.G H)[b + vN C.G i] = some ⟨1, enc p⟩ := (List.getElem?_eq_some_iff.1 hat).2
            have e5 : (vHp C.G H).set (b + vN C.G i) (some ⟨1, enc p⟩) = vHp C.G H := by rw [← e]; exact List.set_getElem_self hlt
            rw [e5]
            simp [acts, Hop.act, vHop, vBlk, hs.put _ p' e3]
        · simp at ho
      · simp at ho
    · simp at ho
  · simp at ho
def sendE : List AV → Int := fun as => match as with
  | [.int _ n] => if outB n 0 15 then 2 else 0
  | _ => 0
def sendX (p : Sg) (n : Int) : Sg := if outB n 0 15 then p else send p n
def sendXU : List AV → List AV := onPI [] fun p n => encP (sendX p n)
def fSendS (s : Side) : DSum := onFam s fun d rest => match rest with
  | [.int .i64 n] => some (.set (.int .i64 (.uf 2060 sendE [.int .i64 n])) (.uf 2061 sendXU [.agg d, .int .i64 n]))
  | _ => none
def fTakeS (s : Side) : DSum := onFam s fun d rest => match rest with
  | [] => some (.set (.tup [.agg (.of [.int .i64 (.uf 1016 tkSigU [.agg d]), .bool (.uf 1017 tkEndsU [.agg d]), .int .u32 (.uf 1018 tkAtU [.agg d])]), .bool (.uf 1019 tkOkU [.agg d])]) (.uf 1015 tkU [.agg d]))
  | _ => none
def fCopyS (s : Side) : DSum := onFam s fun d rest => match rest with
  | [] => some (.new d)
  | _ => none
def fChildS (s : Side) : DSum := onFam s fun d rest => match rest with
  | [] => some (.new (.uf 1023 childU [.agg d]))
  | _ => none
variable {s : Side} {enc : Sg → List AV}
theorem fSendS_ok (hs : SideOk C.G s enc) {f : FuncId} (h : SendOk C f enc) : DSumOk C f (fSendS s) := by
  refine onFam_ok hs fun d rest fo p hk hd => ?_
  split at hk
  · rename_i n
    simp only [Option.some.injEq] at hk; subst hk
    refine ⟨by simp [vVs, vV, bnds, bnd], sendX p (vI C.G n), by simp only [vL, vVs, vV, hd, sendXU, onPI, decP_enc], ?_, by simp [vV, bnd], by simp [vV]⟩
    have := h p (vI C.G n)
    simp only [vV, vI, vVs, sendE]
    exact this
  · simp at hk
theorem fTakeS_ok (hs : SideOk C.G s enc) {f : FuncId} (h : TakeOk C f enc) : DSumOk C f (fTakeS s) := by
  refine onFam_ok hs fun d rest fo p hk hd => ?_
  split at hk
  · simp only [Option.some.injEq] at hk; subst hk
    refine ⟨by simp [vVs, bnds], tkP p, by simp only [vL, vVs, vV, hd, tkU_enc], ?_, by simp [vV, vVs, vL, bnd, bnds], by simp [vV]⟩
    have := h p
    simp only [vV, vI, vVs, vB, vL, hd, tkSigU_enc, tkEndsU_enc, tkAtU_enc, tkOkU_enc]
    exact this
  · simp at hk
theorem fCopyS_ok (hs : SideOk C.G s enc) {f : FuncId} (h : NewOk C f enc (fun _ => .ptr (.rw 1) 0) enc) : DSumOk C f (fCopyS s) := by
  refine onFam_ok hs fun d rest fo p hk hd => ?_
  split at hk
  · simp only [Option.some.injEq] at hk; subst hk
    exact ⟨by simp [vVs, bnds], rfl, p, hd, h p⟩
  · simp at hk
theorem fChildS_ok (hs : SideOk C.G s enc) {f : FuncId} (h : NewOk C f enc (fun _ => .ptr (.rw 1) 0) fun p => enc (setW p 0#32)) : DSumOk C f (fChildS s) := by
  refine onFam_ok hs fun d rest fo p hk hd => ?_
  split at hk
  · simp only [Option.some.injEq] at hk; subst hk
    exact ⟨by simp [vVs, bnds], rfl, setW p 0#32, by simp only [vL, vVs, vV, hd, childU_enc], h p⟩
  · simp at hk
end Go.Am
