/-
  Slices: what Open and Give do to a table.
-/
import Derived.Test.YtfalglcagngbnaaSlB
namespace Go.Am
open Go.Proofs
set_option maxRecDepth 100000
theorem get_setA {cs xs : List AV} {o i : Nat} (h : o + xs.length ≤ cs.length) : (setPart cs o (.agg xs))[i]? = if o ≤ i ∧ i < o + xs.length then xs[i - o]? else cs[i]? := by
  rw [get_setPart cs o (.agg xs) (by simpa [sizeOfAV] using h) i]
  by_cases hc : o ≤ i ∧ i < o + xs.length
  · rw [if_pos hc, if_pos (by simpa [sizeOfAV] using hc)]; rfl
  · rw [if_neg hc, if_neg (by simpa [sizeOfAV] using hc)]
/-- a new slot's cells -/
def slotA (n : Nat) (a t : Int) : List AV := [.int .i64 (n : Int), .int .i64 a, .int .i64 (-1), .int .i64 0, .int .i64 0, .int .i64 t, .int .i64 0]
def openL (cs : List AV) (a : Int) : List AV := setPart (cs.set (oN cs + 1) (.bool true)) (oN cs * 7 + 33) (.agg (slotA (oN cs) a (getI cs 257)))
def opens (cs : List AV) (a : Int) : Bool := decide (0 ≤ a) && (decide (a < 8) && decide (oN cs < 32))
def openR (cs : List AV) (a : Int) : List AV := if opens cs a then openL cs a else cs
def openN (cs : List AV) (a : Int) : Int := if opens cs a then (oN cs : Int) else 0
def openE (cs : List AV) (a : Int) : Int := if opens cs a then 0 else if decide (0 ≤ a) && decide (a < 8) then 5 else 2
theorem openL_get {cs : List AV} (hs : okS cs = true) (h : oN cs < 32) (a : Int) (i : Nat) : (openL cs a)[i]? = if oN cs * 7 + 33 ≤ i ∧ i < oN cs * 7 + 40 then (slotA (oN cs) a (getI cs 257))[i - (oN cs * 7 + 33)]? else (cs.set (oN cs + 1) (.bool true))[i]? := by
  have hl := okS_len hs
  unfold openL
  rw [get_setA (by simp [slotA, hl]; omega)]
  have e7 : (slotA (oN cs) a (getI cs 257)).length = 7 := rfl
  rw [e7, show oN cs * 7 + 33 + 7 = oN cs * 7 + 40 by omega]
theorem okS_openL {cs : List AV} (hs : okS cs = true) (h : oN cs < 32) (a : Int) : okS (openL cs a) = true := by
  have h1 := okS_setB hs h true
  have hl := okS_len hs
  have hg := openL_get hs h a
  have out : ∀ i, ¬ (oN cs * 7 + 33 ≤ i ∧ i < oN cs * 7 + 40) → (openL cs a)[i]? = (cs.set (oN cs + 1) (.bool true))[i]? := fun i hi => by rw [hg i, if_neg hi]
  have hlen : (openL cs a).length = 258 := by
    unfold openL
    rw [length_setPart _ _ _ (by simp [sizeOfAV, slotA, hl]; omega)]
    simp [hl]
  refine okS_iff.2 ⟨hlen, ?_, ?_, fun j hj => ?_, fun k hk => ?_, ?_⟩
  · have := okS_0 h1; unfold isB at *; rw [out 0 (by omega)]; exact this
  · have := okS_made h1; unfold getB at *; rw [out 0 (by omega)]; exact this
  · have := okS_open h1 hj; unfold isB at *; rw [out _ (by omega)]; exact this
  · by_cases hi : oN cs * 7 + 33 ≤ k + 33 ∧ k + 33 < oN cs * 7 + 40
    · unfold isI
      rw [hg, if_pos hi]
      obtain ⟨d, hd, hd7⟩ : ∃ d, k + 33 - (oN cs * 7 + 33) = d ∧ d < 7 := ⟨_, rfl, by omega⟩
      rw [hd]
      match d, hd7 with
      | 0, _ | 1, _ | 2, _ | 3, _ | 4, _ | 5, _ | 6, _ => rfl
    · have := okS_fld h1 hk; unfold isI at *; rw [out _ hi]; exact this
  · have := okS_tick h1; unfold isI at *; rw [out _ (by omega)]; exact this
theorem okS_openR {cs : List AV} (hs : okS cs = true) (a : Int) : okS (openR cs a) = true := by
  unfold openR
  split
  · rename_i h
    simp only [opens, Bool.and_eq_true, decide_eq_true_eq] at h
    exact okS_openL hs h.2.2 a
  · exact hs
theorem p_open (G : Nat → List AV) (B : Nat) (cs : List AV) (a : Int) (hs : okS cs = true) : ACalls (⟨Try.prog, G, B⟩ : Ctx) 10 [.ptr (.rw 0) 0, .int .i64 a] [some ⟨1, cs⟩] fun v H => v = .tup [.int .i64 (openN cs a), .int .i64 (openE cs a)] ∧ H.take 1 = [some ⟨1, openR cs a⟩] := by
  have := dcall_ok (C := (⟨Try.prog, G, B⟩ : Ctx)) (fuel := 200) (n0 := 10) (f := 10) (fn := Try.f10) (args := [.ptr (.rw 0) (.lit 0), .int .i64 (.var 7 a)]) (H := [some ⟨1, .var 8 cs⟩]) (keep := 1)
    (R := fun v H => v = .tup [.int .i64 (openN cs a), .int .i64 (openE cs a)] ∧ H = [some ⟨1, openR cs a⟩]) (dgO G B) (by kernel_rfl) (by kernel_rfl) (by kernel_rfl) (by
    rw [t10]
    have hl := okS_len hs
    have eo : oNU [.agg cs] = oN cs := rfl
    have e1 : setPart cs (oN cs + 1) (.bool true) = cs.set (oN cs + 1) (.bool true) := setPart_cell (fun l h => by cases h)
    rw [eo, e1]
    refine ⟨okS_0 hs, fun _ => ⟨fun h => ?_, fun h => ⟨fun h' => ?_, fun h' => ⟨hs, fun h3 => ?_, fun h3 => ?_⟩⟩⟩, fun h => by rw [okS_made hs] at h; cases h⟩
    · have h := of_decide_eq_true h
      have e : opens cs a = false := by simp only [opens, Bool.and_eq_false_iff, decide_eq_false_iff_not]; omega
      have e2 : (decide (0 ≤ a) && decide (a < 8)) = false := by simp only [Bool.and_eq_false_iff, decide_eq_false_iff_not]; omega
      simp [openN, openE, openR, e, e2]
    · have h' := of_decide_eq_true h'
      have e : opens cs a = false := by simp only [opens, Bool.and_eq_false_iff, decide_eq_false_iff_not]; omega
      have e2 : (decide (0 ≤ a) && decide (a < 8)) = false := by simp only [Bool.and_eq_false_iff, decide_eq_false_iff_not]; omega
      simp [openN, openE, openR, e, e2]
    · have h := of_decide_eq_false h
      have h' := of_decide_eq_false h'
      have h3 : (oN cs : Int) = 32 := by simpa using h3
      have e : opens cs a = false := by simp only [opens, Bool.and_eq_false_iff, decide_eq_false_iff_not]; omega
      have e2 : (decide (0 ≤ a) && decide (a < 8)) = true := by simp only [Bool.and_eq_true, decide_eq_true_eq]; omega
      simp [openN, openE, openR, e, e2]
    · have h := of_decide_eq_false h
      have h' := of_decide_eq_false h'
      have h3 : ¬ (oN cs : Int) = 32 := by simpa using h3
      have hle := oN_le cs
      have e : opens cs a = true := by simp only [opens, Bool.and_eq_true, decide_eq_true_eq]; omega
      have e3 : getI (cs.set (oN cs + 1) (.bool true)) 257 = getI cs 257 := by rw [getI_set (by omega), if_neg (by omega)]
      refine ⟨decide_eq_true (by omega), decide_eq_true (by omega), leB_iff.2 (by omega), okS_tick (okS_setB hs (by omega) true), decide_eq_true (by omega), decide_eq_true (by omega), leB_iff.2 (by simp [hl]; omega), ?_⟩
      rw [e3]
      simp only [openN, openE, openR, e, if_true]
      exact ⟨trivial, rfl⟩)
  simp only [vVs, vV, vR, vN, vI, vHp, List.map_cons, List.map_nil, Option.map_some, vBlk, vL] at this
  exact this
def openNU : List AV → Int := fun xs => match xs with
  | [.agg cs, .int _ a] => openN cs a
  | _ => 0
def openEU : List AV → Int := fun xs => match xs with
  | [.agg cs, .int _ a] => openE cs a
  | _ => 0
def openRU : List AV → List AV := fun xs => match xs with
  | [.agg cs, .int _ a] => openR cs a
  | _ => []
def openS : DSum := fun args H => match args with
  | [.ptr (.rw i) (.lit 0), .int .i64 a] => match H[i]? with
    | some (some ⟨1, l⟩) => some (.chk (.uf 1300 okSU [.agg l]) (.one (.tup [.int .i64 (.uf 1303 openNU [.agg l, .int .i64 a]), .int .i64 (.uf 1304 openEU [.agg l, .int .i64 a])]) [.set i ⟨1, .uf 1305 openRU [.agg l, .int .i64 a]⟩]))
    | _ => none
  | _ => none
theorem openS_ok (G : Nat → List AV) (B : Nat) : DSumOk (⟨Try.prog, G, B⟩ : Ctx) 10 openS := by
  intro args H o ho
  unfold openS at ho
  split at ho
  · rename_i i a
    split at ho
    · rename_i l hi
      simp only [Option.some.injEq] at ho
      subst ho
      intro h1
      simp only [vB, vVs, vV, okSU] at h1
      have key := p_open G B (vL G l) (vI G a) h1
      have er : vL G (.uf 1305 openRU [.agg l, .int .i64 a]) = openR (vL G l) (vI G a) := by simp only [vL, vVs, vV, openRU]
      refine DOut.set1 (C := (⟨Try.prog, G, B⟩ : Ctx)) hi ?_ (okS_flat h1 0) (by rw [er]; exact okS_flat (okS_openR h1 _) 0) (by simp [vVs, vV, bnds, bnd]) (by simp [vV, vVs, bnd, bnds]) (by simp [vV])
      rw [er]
      simp only [vVs, vV, vI, openNU, openEU]
      exact key
    · simp at ho
  · simp at ho
/-- may a give b its next slice? -/
def gives (cs : List AV) (a b : Int) : Bool := isO cs a && (isO cs b && (getI cs (a.toNat * 7 + 34) == getI cs (b.toNat * 7 + 34)))
def giveE (cs : List AV) (a b : Int) : Int := if gives cs a b then 0 else if isO cs a && isO cs b then 8 else 6
def giveR (cs : List AV) (a b : Int) : List AV := if gives cs a b then cs.set (a.toNat * 7 + 35) (.int .i64 (if a == b then -1 else b)) else cs
theorem isO_spec {cs : List AV} {a : Int} (h : isO cs a = true) : 0 ≤ a ∧ a < 32 ∧ getB cs (a.toNat + 1) = true := by
  simpa only [isO, Bool.and_eq_true, decide_eq_true_eq] using h
theorem okS_giveR {cs : List AV} (hs : okS cs = true) (a b : Int) : okS (giveR cs a b) = true := by
  unfold giveR
  split
  · rename_i h
    simp only [gives, Bool.and_eq_true] at h
    have := isO_spec h.1
    have := okS_setI hs (k := a.toNat * 7 + 2) (by omega) (if a == b then -1 else b)
    rwa [show a.toNat * 7 + 2 + 33 = a.toNat * 7 + 35 by omega] at this
  · exact hs
theorem dgG (G : Nat → List AV) (B : Nat) : DGood (⟨Try.prog, G, B⟩ : Ctx) (Dc Try.prog [26, 28] [(27, askS)] [] 0) [] := dgood (mix G B) (by kernel_rfl) (.cons (askS_ok G B) .nil) .nil
theorem dgGL (G : Nat → List AV) (B : Nat) (fn : Func) (h : loopsOf (bodyOf fn) = []) : DGood (⟨Try.prog, G, B⟩ : Ctx) (Dc Try.prog [26, 28] [(27, askS)] [] 0) (loopsOf (bodyOf fn)) := by rw [h]; exact dgG G B
theorem p_give (G : Nat → List AV) (B : Nat) (cs : List AV) (a b : Int) (hs : okS cs = true) : ACalls (⟨Try.prog, G, B⟩ : Ctx) 11 [.ptr (.rw 0) 0, .int .i64 a, .int .i64 b] [some ⟨1, cs⟩] fun v H => v = .int .i64 (giveE cs a b) ∧ H.take 1 = [some ⟨1, giveR cs a b⟩] := by
  have := dcall_ok (C := (⟨Try.prog, G, B⟩ : Ctx)) (fuel := 200) (n0 := 10) (f := 11) (fn := Try.f11) (args := [.ptr (.rw 0) (.lit 0), .int .i64 (.var 2 a), .int .i64 (.var 3 b)]) (H := [some ⟨1, .var 8 cs⟩]) (keep := 1)
    (R := fun v H => v = .int .i64 (giveE cs a b) ∧ H = [some ⟨1, giveR cs a b⟩]) (dgGL G B Try.f11 (by kernel_rfl)) (by kernel_rfl) (by kernel_rfl) (by kernel_rfl) (by
    rw [t11]
    have hl := okS_len hs
    have ea : isOU [.agg cs, .int .i64 a] = isO cs a := rfl
    have eb : isOU [.agg cs, .int .i64 b] = isO cs b := rfl
    have es : ∀ x, setPart cs (a.toNat * 7 + 35) (.int .i64 x) = cs.set (a.toNat * 7 + 35) (.int .i64 x) := fun x => setPart_cell (fun l h => by cases h)
    rw [ea, eb, es, es]
    refine ⟨hs, fun h1 => ⟨fun h2 => ?_, fun h2 => ?_⟩, fun h1 => ?_⟩
    · obtain ⟨a0, a1, a2⟩ := isO_spec h1
      obtain ⟨b0, b1, b2⟩ := isO_spec h2
      have fa := okS_fld hs (k := a.toNat * 7 + 1) (by omega)
      have fb := okS_fld hs (k := b.toNat * 7 + 1) (by omega)
      rw [show a.toNat * 7 + 1 + 33 = a.toNat * 7 + 34 by omega] at fa
      rw [show b.toNat * 7 + 1 + 33 = b.toNat * 7 + 34 by omega] at fb
      refine ⟨decide_eq_true a0, decide_eq_true a1, fa, decide_eq_true b0, decide_eq_true b1, fb, fun h3 => ⟨fun h4 => ⟨decide_eq_true a0, decide_eq_true a1, leB_iff.2 (by omega), ?_⟩, fun h4 => ⟨decide_eq_true a0, decide_eq_true a1, leB_iff.2 (by omega), ?_⟩⟩, fun h3 => ?_⟩
      · simp [giveE, giveR, gives, h1, h2, h3, h4]
      · simp [giveE, giveR, gives, h1, h2, h3, h4]
      · simp [giveE, giveR, gives, h1, h2, h3]
    · simp [giveE, giveR, gives, h1, h2]
    · simp [giveE, giveR, gives, h1])
  simp only [vVs, vV, vR, vN, vI, vHp, List.map_cons, List.map_nil, Option.map_some, vBlk, vL] at this
  exact this
def giveEU : List AV → Int := fun xs => match xs with
  | [.agg cs, .int _ a, .int _ b] => giveE cs a b
  | _ => 0
def giveRU : List AV → List AV := fun xs => match xs with
  | [.agg cs, .int _ a, .int _ b] => giveR cs a b
  | _ => []
def giveS : DSum := fun args H => match args with
  | [.ptr (.rw i) (.lit 0), .int .i64 a, .int .i64 b] => match H[i]? with
    | some (some ⟨1, l⟩) => some (.chk (.uf 1300 okSU [.agg l]) (.one (.int .i64 (.uf 1306 giveEU [.agg l, .int .i64 a, .int .i64 b])) [.set i ⟨1, .uf 1307 giveRU [.agg l, .int .i64 a, .int .i64 b]⟩]))
    | _ => none
  | _ => none
theorem giveS_ok (G : Nat → List AV) (B : Nat) : DSumOk (⟨Try.prog, G, B⟩ : Ctx) 11 giveS := by
  intro args H o ho
  unfold giveS at ho
  split at ho
  · rename_i i a b
    split at ho
    · rename_i l hi
      simp only [Option.some.injEq] at ho
      subst ho
      intro h1
      simp only [vB, vVs, vV, okSU] at h1
      have key := p_give G B (vL G l) (vI G a) (vI G b) h1
      have er : vL G (.uf 1307 giveRU [.agg l, .int .i64 a, .int .i64 b]) = giveR (vL G l) (vI G a) (vI G b) := by simp only [vL, vVs, vV, giveRU]
      refine DOut.set1 (C := (⟨Try.prog, G, B⟩ : Ctx)) hi ?_ (okS_flat h1 0) (by rw [er]; exact okS_flat (okS_giveR h1 _ _) 0) (by simp [vVs, vV, bnds, bnd]) (by simp [vV, bnd]) (by simp [vV])
      rw [er]
      simp only [vVs, vV, vI, giveEU]
      exact key
    · simp at ho
  · simp at ho
end Go.Am
