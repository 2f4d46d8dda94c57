/-
  What the written terms' short forms are worth.
-/
import Derived.Test.YtopenjkaifbnmaaAmDeepRun
namespace Go.Am
variable {G : Nat → List AV}

theorem vVs_map (l : List EV) : vVs G l = l.map (vV G) := by
  induction l with
  | nil => rfl
  | cons x l ih => simp only [vVs, ih, List.map_cons]
theorem vVs_length (l : List EV) : (vVs G l).length = l.length := by rw [vVs_map, List.length_map]
theorem vVs_get (l : List EV) (n : Nat) : (vVs G l)[n]? = (l[n]?).map (vV G) := by rw [vVs_map, List.getElem?_map]
theorem vVs_append (l m : List EV) : vVs G (l ++ m) = vVs G l ++ vVs G m := by simp only [vVs_map, List.map_append]
theorem vVs_getD (F : List EV) (t : Nat) : (vVs G F).getD t .undef = vV G (F.getD t .undef) := by
  simp only [List.getD, vVs_get]
  cases F[t]? <;> simp [vV]
theorem vVs_set (F : List EV) (t : Nat) (v : EV) : vVs G (F.set t v) = (vVs G F).set t (vV G v) := by simp only [vVs_map, List.map_set]

theorem vB_mkAnd (a b : EB) : vB G (mkAnd a b) = (vB G a && vB G b) := by
  unfold mkAnd
  split
  · simp [vB]
  · simp [vB]
  · split
    · simp [vB]
    · simp [vB]
    · simp [vB]
theorem vB_mkNot (a : EB) : vB G (mkNot a) = !(vB G a) := by
  unfold mkNot; split <;> simp [vB]
theorem vB_mkEqB (a b : EB) : vB G (mkEqB a b) = (vB G a == vB G b) := by
  unfold mkEqB; split <;> simp [vB, vB_mkNot]
theorem vB_mkCmp (o : BinOp) (a b : EI) : vB G (mkCmp o a b) = cmpI o (vI G a) (vI G b) := by
  unfold mkCmp; split <;> simp [vB, vI]
theorem vI_mkBin (o : BinOp) (k : IntKind) (a b : EI) : vI G (mkBin o k a b) = binI o k (vI G a) (vI G b) := by
  unfold mkBin; split <;> simp [vI]
theorem vI_mkConv (k : IntKind) (a : EI) : vI G (mkConv k a) = k.wrap (vI G a) := by
  unfold mkConv; split <;> simp [vI]
theorem vI_mkNeg (k : IntKind) (a : EI) : vI G (mkNeg k a) = k.wrap (0 - vI G a) := by
  unfold mkNeg; split <;> simp [vI]
theorem vI_mkCpl (k : IntKind) (a : EI) : vI G (mkCpl k a) = kNot k (vI G a) := by
  unfold mkCpl; split <;> simp [vI]
theorem vI_mkOfN (n : EN) : vI G (mkOfN n) = (vN G n : Int) := by
  unfold mkOfN; split <;> simp [vI, vN]
theorem vN_mkToN (n : EI) : vN G (mkToN n) = (vI G n).toNat := by
  unfold mkToN; split <;> simp [vI, vN]
theorem vN_mkAdd (a b : EN) : vN G (mkAdd a b) = vN G a + vN G b := by
  unfold mkAdd; split <;> simp [vN]
  omega
theorem vN_mkMul (a : EN) (z : Nat) : vN G (mkMul a z) = vN G a * z := by
  unfold mkMul; split
  · simp
  · split <;> simp [vN]
theorem vN_mkMulz (a : EN) (z : Nat) : vN G (mkMul a z) = mulz (vN G a) z := by
  rw [vN_mkMul]; unfold mulz; split <;> simp
theorem vN_mkSub (a b : EN) : vN G (mkSub a b) = vN G a - vN G b := by
  unfold mkSub; split <;> simp [vN]
theorem leB_iff {x y : Nat} : leB x y = true ↔ x ≤ y := by unfold leB; exact decide_eq_true_iff
theorem vB_mkLe (a b : EN) : vB G (mkLe a b) = leB (vN G a) (vN G b) := by
  unfold mkLe; split
  · simp only [vB, vN]
    rename_i x y
    cases hb : x.ble y with
    | true => exact (leB_iff.2 (Nat.le_of_ble_eq_true hb)).symm
    | false =>
      cases hl : leB x y with
      | false => rfl
      | true => rw [Nat.ble_eq_true_of_le (leB_iff.1 hl)] at hb; simp at hb
  · simp only [vB, vN]; exact (leB_iff.2 (Nat.zero_le _)).symm
  · simp only [vB]
theorem vB_mkEqN (a b : EN) : vB G (mkEqN a b) = Nat.beq (vN G a) (vN G b) := by
  unfold mkEqN; split <;> simp [vB, vN]
theorem vB_mkEqS (a b : ES) : vB G (mkEqS a b) = (vS G a == vS G b) := by
  unfold mkEqS; split <;> simp [vB, vS]
theorem vS_mkApp (a b : ES) : vS G (mkApp a b) = vS G a ++ vS G b := by
  unfold mkApp; split <;> simp [vS]
theorem vN_slenD (s : ES) : vN G (slenD s) = (vS G s).length := by
  unfold slenD; split <;> simp [vS, vN]
theorem vN_mkLen (l : EL) : vN G (mkLen l) = (vL G l).length := by
  unfold mkLen; split <;> simp [vN, vL, vVs_length, bytesL]
theorem setPart_cell {cs : List AV} {o : Nat} {v : AV} (h : ∀ l, v ≠ .agg l) : setPart cs o v = cs.set o v := by
  unfold setPart; split
  · rename_i l; exact absurd rfl (h l)
  · rfl
theorem vV_agg {v : EV} {l : List AV} (h : vV G v = .agg l) : ∃ d, v = .agg d ∧ vL G d = l := by
  cases v <;> simp [vV] at h
  exact ⟨_, rfl, h⟩
theorem vL_mkSet (l : EL) (o : EN) (v : EV) : vL G (mkSet l o v) = setPart (vL G l) (vN G o) (vV G v) := by
  unfold mkSet; split
  · split
    · simp only [vL, vN, vV, setPart, spl, vVs_map, List.map_append, List.map_take, List.map_drop, List.length_map]
    · simp only [vL, vN, vV]
    · rename_i cs n v h1 h2
      rw [setPart_cell]
      · simp only [vL, vVs_set, vN]
      · intro l he
        obtain ⟨d, rfl, _⟩ := vV_agg he
        exact h2 d rfl
  · simp only [vL]
theorem vL_mkSubL (l : EL) (o n : EN) : vL G (mkSubL l o n) = ((vL G l).drop (vN G o)).take (vN G n) := by
  unfold mkSubL; split <;> simp [vL, vN, subL, vVs_map, List.map_take, List.map_drop]
theorem vL_mkAppL (a b : EL) : vL G (mkAppL a b) = vL G a ++ vL G b := by
  unfold mkAppL; split <;> simp [vL, vVs_append, vVs]
theorem vL_mkBytes (s : ES) : vL G (mkBytes s) = (vS G s).map fun b => .int .u8 b.toNat := by
  unfold mkBytes; split
  · simp only [vL, vVs_map, List.map_map, vS]; congr 1
  · simp only [vL, bytesL]
theorem vL_mkRep (n : EN) (l : EL) : vL G (mkRep n l) = (List.replicate (vN G n) (vL G l)).flatten := by
  unfold mkRep; split
  · simp only [vL, vVs_map, vN, List.map_flatten, List.map_replicate]
  · simp only [vL, repL]

theorem notAgg {v : EV} (h : isAggV v = false) : ∀ l, vV G v ≠ .agg l := by
  intro l he
  obtain ⟨d, rfl, _⟩ := vV_agg he
  simp [isAggV] at h
theorem litN_some {o : EN} {n : Nat} (h : litN o = some n) : o = .lit n := by
  unfold litN at h; split at h
  · simp at h; rw [h]
  · simp at h

theorem rdAny_ok : ∀ (l : EL) (n : Nat) (c : EB) (v : EV), rdAny l n = some (c, v) → vB G c = true → (vL G l)[n]? = some (vV G v)
  | .of cs, n, c, v, h, _ => by
    simp only [rdAny] at h
    split at h
    · rename_i w hn
      simp only [Option.some.injEq, Prod.mk.injEq] at h
      obtain ⟨_, rfl⟩ := h
      simp only [vL, vVs_get, hn, Option.map_some]
    · simp at h
  | .set l o w, n, c, v, h, hc => by
    simp only [rdAny] at h
    split at h
    · rename_i m ho ha
      have := litN_some ho; subst this
      have hs : vL G (.set l (.lit m) w) = (vL G l).set m (vV G w) := by
        simp only [vL, vN]; exact setPart_cell (notAgg ha)
      rw [hs]
      split at h
      · rename_i hm
        have hm := Nat.eq_of_beq_eq_true hm
        subst hm
        simp only [Option.some.injEq, Prod.mk.injEq] at h
        obtain ⟨rfl, rfl⟩ := h
        rw [vB_mkLe, vN_mkLen] at hc
        have hc : m + 1 ≤ (vL G l).length := leB_iff.1 hc
        rw [List.getElem?_set_self (by omega)]
      · rename_i hm
        have hne : m ≠ n := fun he => by rw [he] at hm; simp at hm
        rw [List.getElem?_set_ne hne]
        exact rdAny_ok l n c v h hc
    · simp at h
  | .var .., _, _, _, h, _ => by simp [rdAny] at h
  | .ro .., _, _, _, h, _ => by simp [rdAny] at h
  | .app .., _, _, _, h, _ => by simp [rdAny] at h
  | .sub .., _, _, _, h, _ => by simp [rdAny] at h
  | .bytes .., _, _, _, h, _ => by simp [rdAny] at h
  | .rep .., _, _, _, h, _ => by simp [rdAny] at h
  | .uf .., _, _, _, h, _ => by simp [rdAny] at h
theorem rdI_ok {k : IntKind} {l : EL} {o : EN} {c : EB} {e : EI} (h : rdI k l o = some (c, e)) (hc : vB G c = true) : isI k (vL G l) (vN G o) = true ∧ getI (vL G l) (vN G o) = vI G e := by
  have gen : some (EB.isI k l o, EI.get l o) = some (c, e) → isI k (vL G l) (vN G o) = true ∧ getI (vL G l) (vN G o) = vI G e := fun h => by
    simp only [Option.some.injEq, Prod.mk.injEq] at h
    obtain ⟨rfl, rfl⟩ := h
    exact ⟨by simpa only [vB] using hc, by simp only [vI]⟩
  unfold rdI at h
  split at h
  · rename_i n ho
    have := litN_some ho; subst this
    split at h
    · rename_i c' k' e' hr
      split at h
      · rename_i hk
        subst hk
        simp only [Option.some.injEq, Prod.mk.injEq] at h
        obtain ⟨rfl, rfl⟩ := h
        have := rdAny_ok l n _ _ hr hc
        simp only [vV] at this
        simp [isI, getI, vN, this]
      · simp at h
    · simp at h
    · exact gen h
  · exact gen h
theorem rdB_ok {l : EL} {o : EN} {c : EB} {e : EB} (h : rdB l o = some (c, e)) (hc : vB G c = true) : isB (vL G l) (vN G o) = true ∧ getB (vL G l) (vN G o) = vB G e := by
  have gen : some (EB.isB l o, EB.get l o) = some (c, e) → isB (vL G l) (vN G o) = true ∧ getB (vL G l) (vN G o) = vB G e := fun h => by
    simp only [Option.some.injEq, Prod.mk.injEq] at h
    obtain ⟨rfl, rfl⟩ := h
    exact ⟨by simpa only [vB] using hc, by simp only [vB]⟩
  unfold rdB at h
  split at h
  · rename_i n ho
    have := litN_some ho; subst this
    split at h
    · rename_i c' e' hr
      simp only [Option.some.injEq, Prod.mk.injEq] at h
      obtain ⟨rfl, rfl⟩ := h
      have := rdAny_ok l n _ _ hr hc
      simp only [vV] at this
      simp [isB, getB, vN, this]
    · simp at h
    · exact gen h
  · exact gen h

/-! ### operations -/
theorem vV_dCell (v : Value) : vV G (dCell v) = ofCell v := by
  unfold dCell ofCell
  split <;> simp [vV, vB, vI, vS]
theorem vV_dVal (v : Value) : vV G (dVal v) = ofValue v := by
  unfold dVal ofValue
  split
  · simp only [vV, vL, vVs_map, List.map_map]
    congr 2
    funext x; exact vV_dCell x
  · rename_i h
    cases v <;> first | exact vV_dCell _ | exact absurd rfl (h _)
theorem vV_evD (F : DFr) (x : Operand) : vV G (evD F x) = ev (vVs G F) x := by
  cases x with
  | tmp t => simp only [evD, ev, vVs_getD]
  | const v => simp only [evD, ev, vV_dVal]
  | global g => simp only [evD, ev, vV]
  | func f => simp only [evD, ev, vV, vVs]

/-- what an operation over written terms is worth -/
def Wo (G : Nat → List AV) (o : Option (EB × EV)) (p : Option (Bool × AV)) : Prop := ∀ c v, o = some (c, v) → vB G c = true → p = some (true, vV G v)
theorem Wo.none {p : Option (Bool × AV)} : Wo G none p := fun c v h => by simp at h
theorem Wo.some {c : EB} {v : EV} {p : Option (Bool × AV)} (h : vB G c = true → p = some (true, vV G v)) : Wo G (some (c, v)) p := fun c' v' he hc => by
  simp only [Option.some.injEq, Prod.mk.injEq] at he
  obtain ⟨rfl, rfl⟩ := he
  exact h hc

theorem binInt_wo {op : BinOp} {k : IntKind} {x y : EI} : Wo G (binIntD op k x y) (binInt op k (vI G x) (vI G y)) := by
  have nz : vB G (mkNot (mkCmp .eql y (.lit 0))) = true → (!(vI G y == 0)) = true := fun h => by
    simpa only [vB_mkNot, vB_mkCmp, cmpI, vI] using h
  cases op <;> simp only [binIntD, binInt] <;> first
    | exact Wo.none
    | (refine Wo.some fun hc => ?_; rw [nz hc]; simp only [vV, vI_mkBin, binI]; done)
    | (refine Wo.some fun hc => ?_; simp only [vV, vI_mkBin, binI, vB_mkNot, vB_mkCmp, cmpI]; done)
    | (refine Wo.some fun hc => ?_; simp only [vV, vI_mkBin, binI, vB_mkNot, vB_mkCmp, cmpI]; rfl)
theorem binShift_wo {op : BinOp} {k : IntKind} {x y : EI} : Wo G (binShiftD op k x y) (binShift op k (vI G x) (vI G y)) := by
  have nz : vB G (mkCmp .leq (.lit 0) y) = true → decide (0 ≤ vI G y) = true := fun h => by
    rw [vB_mkCmp] at h
    exact decide_eq_true (of_decide_eq_true h)
  cases op <;> simp only [binShiftD, binShift] <;> first
    | exact Wo.none
    | (refine Wo.some fun hc => ?_; rw [nz hc]; simp only [vV, vI_mkBin, binI]; done)
theorem binStr_wo {op : BinOp} {x y : ES} : Wo G (binStrD op x y) (binStr op (vS G x) (vS G y)) := by
  cases op <;> simp only [binStrD, binStr] <;> first
    | exact Wo.none
    | (refine Wo.some fun hc => ?_
       rw [vB_mkLe, vN_mkAdd, vN_slenD, vN_slenD] at hc
       simp only [vV, vS_mkApp, Option.some.injEq, Prod.mk.injEq, and_true]
       exact hc)
    | (refine Wo.some fun hc => ?_; simp only [vV, vB_mkEqS, vB_mkNot]; done)
theorem eqOp_wo {op : BinOp} {c : Bool} {b : EB} : Wo G (eqOpD op c b) (eqOp op c (vB G b)) := by
  cases op <;> simp only [eqOpD, eqOp] <;> first
    | exact Wo.none
    | (refine Wo.some fun hc => ?_; simp only [vB] at hc; subst hc; simp only [vV, vB_mkNot]; done)

/-- of two truth values -/
def We (G : Nat → List AV) (o : Option (EB × EB)) (p : Option (Bool × Bool)) : Prop := ∀ c b, o = some (c, b) → vB G c = true → p = some (true, vB G b)
theorem part_wo {P : Program} {t : TypeId} {l : EL} {o : EN} : Wo G (partD P t l o) (partA P t (vL G l) (vN G o)) := by
  have agg : ∀ z, vB G (mkLe (mkAdd o (.lit z)) (mkLen l)) = true → decide (vN G o + z ≤ (vL G l).length) = true := fun z h => by
    rw [vB_mkLe, vN_mkAdd, vN_mkLen] at h
    exact h
  have any : ∀ n, litN o = some n → ∀ c v, rdAny l n = some (c, v) → vB G c = true → (match (vL G l)[vN G o]? with | some v => some (true, v) | none => none) = some (true, vV G v) := fun n ho c v h hc => by
    have := litN_some ho; subst this
    have := rdAny_ok l n c v h hc
    simp only [vN, this]
  intro c v h hc
  unfold partD at h
  unfold partA
  split at h
  · rename_i k hu
    simp only [hu]
    split at h
    · rename_i c' e hr
      simp only [Option.some.injEq, Prod.mk.injEq] at h
      obtain ⟨rfl, rfl⟩ := h
      obtain ⟨h1, h2⟩ := rdI_ok hr hc
      simp only [h1, h2, vV]
    · simp at h
  · rename_i hu
    simp only [hu]
    split at h
    · rename_i c' e hr
      simp only [Option.some.injEq, Prod.mk.injEq] at h
      obtain ⟨rfl, rfl⟩ := h
      obtain ⟨h1, h2⟩ := rdB_ok hr hc
      simp only [h1, h2, vV]
    · simp at h
  · rename_i fs hu
    simp only [hu]
    split at h
    · rename_i z hz
      simp only [Option.some.injEq, Prod.mk.injEq] at h
      obtain ⟨rfl, rfl⟩ := h
      simp only [hz, agg z hc, vV, vL_mkSubL, vN]
    · simp at h
  · rename_i n e hu
    simp only [hu]
    split at h
    · rename_i z hz
      simp only [Option.some.injEq, Prod.mk.injEq] at h
      obtain ⟨rfl, rfl⟩ := h
      simp only [hz, agg z hc, vV, vL_mkSubL, vN]
    · simp at h
  · rename_i d h1 h2 h3 h4 hu
    simp only [hu]
    split at h
    · rename_i n ho
      have := any n ho c v h hc
      cases d <;> first
        | exact this
        | exact absurd hu (h1 _)
        | exact absurd hu h2
        | exact absurd hu (h3 _)
        | exact absurd hu (h4 _ _)
    · simp at h
  · simp at h
end Go.Am
