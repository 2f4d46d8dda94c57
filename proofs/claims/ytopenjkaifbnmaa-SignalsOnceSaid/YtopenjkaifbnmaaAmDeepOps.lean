/-
  The operations over written terms, against the abstract machine's.
-/
import Derived.Test.YtopenjkaifbnmaaAmDeepVal
namespace Go.Am
variable {G : Nat → List AV}

theorem and_true' {a b : Bool} (h : (a && b) = true) : a = true ∧ b = true := by simpa using h
theorem mkAnd_true {a b : EB} (h : vB G (mkAnd a b) = true) : vB G a = true ∧ vB G b = true := by
  rw [vB_mkAnd] at h; exact and_true' h

theorem eqFs_we {P : Program} {recD : TypeId → EV → EV → Option (EB × EB)} {rec : TypeId → AV → AV → Option (Bool × Bool)} (hr : ∀ t x y, We G (recD t x y) (rec t (vV G x) (vV G y))) {xs ys : EL} :
    ∀ fs, We G (eqFsD P recD xs ys fs) (eqFs P rec (vL G xs) (vL G ys) fs)
  | [] => fun c b h _ => by
    simp only [eqFsD, Option.some.injEq, Prod.mk.injEq] at h
    obtain ⟨rfl, rfl⟩ := h
    simp only [eqFs, vB]
  | f :: fs => fun c b h hc => by
    unfold eqFsD at h
    unfold eqFs
    split at h
    · rename_i hn
      rw [if_pos hn]
      split at h
      · rename_i c1 a c2 b' h1 h2
        split at h
        · rename_i c3 r c4 s h3 h4
          simp only [Option.some.injEq, Prod.mk.injEq] at h
          obtain ⟨rfl, rfl⟩ := h
          obtain ⟨g1, hc⟩ := mkAnd_true hc
          obtain ⟨g2, hc⟩ := mkAnd_true hc
          obtain ⟨g3, g4⟩ := mkAnd_true hc
          have e1 := part_wo _ _ h1 g1
          have e2 := part_wo _ _ h2 g2
          have e3 := hr _ _ _ _ _ h3 g3
          have e4 := eqFs_we hr fs _ _ h4 g4
          simp only [vN] at e1 e2
          simp only [e1, e2, e3, e4, vB_mkAnd, Bool.and_self]
        · simp at h
      · simp at h
    · rename_i hn
      rw [if_neg hn]
      exact eqFs_we hr fs _ _ h hc
theorem eqIs_we {P : Program} {recD : TypeId → EV → EV → Option (EB × EB)} {rec : TypeId → AV → AV → Option (Bool × Bool)} (hr : ∀ t x y, We G (recD t x y) (rec t (vV G x) (vV G y))) {e : TypeId} {z : Nat} {xs ys : EL} :
    ∀ is, We G (eqIsD P recD e z xs ys is) (eqIs P rec e z (vL G xs) (vL G ys) is)
  | [] => fun c b h _ => by
    simp only [eqIsD, Option.some.injEq, Prod.mk.injEq] at h
    obtain ⟨rfl, rfl⟩ := h
    simp only [eqIs, vB]
  | i :: is => fun c b h hc => by
    unfold eqIsD at h
    unfold eqIs
    split at h
    · rename_i c1 a c2 b' h1 h2
      split at h
      · rename_i c3 r c4 s h3 h4
        simp only [Option.some.injEq, Prod.mk.injEq] at h
        obtain ⟨rfl, rfl⟩ := h
        obtain ⟨g1, hc⟩ := mkAnd_true hc
        obtain ⟨g2, hc⟩ := mkAnd_true hc
        obtain ⟨g3, g4⟩ := mkAnd_true hc
        have e1 := part_wo _ _ h1 g1
        have e2 := part_wo _ _ h2 g2
        have e3 := hr _ _ _ _ _ h3 g3
        have e4 := eqIs_we hr is _ _ h4 g4
        simp only [vN] at e1 e2
        simp only [e1, e2, e3, e4, vB_mkAnd, Bool.and_self]
      · simp at h
    · simp at h
theorem eqV_we {P : Program} : ∀ n t x y, We G (eqVD P n t x y) (eqV P n t (vV G x) (vV G y))
  | 0, t, x, y => fun c b h => by simp [eqVD] at h
  | n + 1, t, x, y => fun c b h hc => by
    unfold eqVD at h
    unfold eqV
    split at h
    · rename_i k hu
      simp only [hu]
      split at h
      · split at h
        · rename_i hk
          subst hk
          simp only [Option.some.injEq, Prod.mk.injEq] at h
          obtain ⟨rfl, rfl⟩ := h
          simp only [vV, vB_mkCmp, cmpI, decide_true]
        · simp at h
      · simp at h
    · rename_i hu
      simp only [hu]
      split at h
      · simp only [Option.some.injEq, Prod.mk.injEq] at h
        obtain ⟨rfl, rfl⟩ := h
        simp only [vV, vB_mkEqB]
      · simp at h
    · rename_i hu
      simp only [hu]
      split at h
      · simp only [Option.some.injEq, Prod.mk.injEq] at h
        obtain ⟨rfl, rfl⟩ := h
        simp only [vV, vB_mkEqS]
      · simp at h
    · rename_i fs hu
      simp only [hu]
      split at h
      · split at h
        · simp at h
        · rename_i hs
          simp only [vV, hs]
          exact eqFs_we (fun t x y => eqV_we n t x y) _ _ _ h hc
      · simp at h
    · rename_i m e hu
      simp only [hu]
      split at h
      · split at h
        · rename_i z hz
          simp only [vV, hz]
          exact eqIs_we (fun t x y => eqV_we n t x y) _ _ _ h hc
        · simp at h
      · simp at h
    · simp at h
theorem eqA_we {P : Program} {t : TypeId} {xs ys : EL} : We G (eqAD P t xs ys) (eqV P 10 t (.agg (vL G xs)) (.agg (vL G ys))) := by
  intro c b h hc
  unfold eqAD at h
  split at h
  · have := eqV_we 10 t (.agg xs) (.agg ys) c b h hc
    simpa only [vV] using this
  · simp only [Option.some.injEq, Prod.mk.injEq] at h
    obtain ⟨rfl, rfl⟩ := h
    simp only [vB, vVs, vV, eqA1] at hc
    simp only [vB, vVs, vV, eqA2]
    split at hc
    · rename_i c' b' he
      simp only [he, hc]
    · simp at hc

theorem bin_wo {P : Program} {op : BinOp} {t : TypeId} {x y : EV} : Wo G (binD P op t x y) (binAV P op t (vV G x) (vV G y)) := by
  intro c v h hc
  unfold binD at h
  split at h
  · rename_i k a k' b
    split at h
    · simp only [vV, binAV]; exact binShift_wo _ _ h hc
    · simp only [vV, binAV]; exact binShift_wo _ _ h hc
    · rename_i h1 h2
      split at h
      · rename_i hk
        subst hk
        have := binInt_wo _ _ h hc
        simp only [vV, binAV]
        cases op <;> first
          | exact absurd rfl h1
          | exact absurd rfl h2
          | (rw [if_pos trivial]; exact this)
          | (rw [if_pos rfl]; exact this)
      · simp at h
  · simp only [vV, binAV]; exact binStr_wo _ _ h hc
  · have := eqOp_wo _ _ h hc
    simp only [vV, binAV]; rw [vB_mkEqB] at this; exact this
  · simp only [vV, binAV]; exact eqOp_wo _ _ h hc
  · simp only [vV, binAV]; exact eqOp_wo _ _ h hc
  · simp only [vV, binAV]; exact eqOp_wo _ _ h hc
  · simp only [vV, binAV]; exact eqOp_wo _ _ h hc
  · simp only [vV, binAV]; exact eqOp_wo _ _ h hc
  · simp only [vV, binAV]; exact eqOp_wo _ _ h hc
  · simp only [vV, binAV]; exact eqOp_wo _ _ h hc
  · rename_i xs ys
    simp only [vV, binAV]
    split at h
    · simp at h
    · rename_i hg
      simp only [hg]
      split at h
      · rename_i c' b he
        split at h
        · simp only [Option.some.injEq, Prod.mk.injEq] at h
          obtain ⟨rfl, rfl⟩ := h
          simp only [eqA_we _ _ he hc, eqOp, vV]
        · simp only [Option.some.injEq, Prod.mk.injEq] at h
          obtain ⟨rfl, rfl⟩ := h
          simp only [eqA_we _ _ he hc, eqOp, vV, vB_mkNot]
        · simp at h
      · simp at h
  · simp at h
theorem un_wo {op : UnOp} {x : EV} : Wo G (unD op x) (unAV op (vV G x)) := by
  intro c v h hc
  unfold unD at h
  split at h <;> first
    | (simp only [Option.some.injEq, Prod.mk.injEq] at h; obtain ⟨rfl, rfl⟩ := h; simp only [vV, unAV, vI_mkNeg, vI_mkCpl, vB_mkNot]; done)
    | (simp at h; done)
theorem conv_wo {P : Program} {s d : TypeId} {x : EV} : Wo G (convD P s d x) (convAV P s d (vV G x)) := by
  intro c v h hc
  unfold convD at h
  split at h
  · rename_i h1 h2
    simp only [Option.some.injEq, Prod.mk.injEq] at h; obtain ⟨rfl, rfl⟩ := h
    simp only [vV, convAV, h1, h2, vI_mkConv]
  · rename_i h1 h2
    simp only [Option.some.injEq, Prod.mk.injEq] at h; obtain ⟨rfl, rfl⟩ := h
    simp only [vV, convAV, h1, h2]
  · simp at h
theorem field_wo {P : Program} {s : TypeId} {x : EV} {f : Nat} : Wo G (fieldD P s x f) (fieldAV P s (vV G x) f) := by
  intro c v h hc
  unfold fieldD at h
  split at h
  · rename_i fs r off hu
    simp only [vV, fieldAV, hu]
    split at h
    · rename_i fd hf
      simp only [hf]
      split at h
      · simp at h
      · rename_i z h0 hz
        simp only [Option.some.injEq, Prod.mk.injEq] at h; obtain ⟨rfl, rfl⟩ := h
        simp only [hz]
        cases z with
        | zero => exact absurd rfl h0
        | succ z => simp only [vV, vN_mkAdd, vN]
      · simp at h
    · simp at h
  · simp at h
theorem le_lt_true {P : Bool} {i l : EI} {z : Int} (hz : vI G l = z) (h : vB G (mkAnd (mkCmp .leq (.lit 0) i) (mkCmp .lss i l)) = true) : (decide (0 ≤ vI G i) && decide (vI G i < z)) = true := by
  obtain ⟨h1, h2⟩ := mkAnd_true h
  rw [vB_mkCmp] at h1 h2
  rw [hz] at h2
  simp only [vI] at h1
  rw [Bool.and_eq_true]
  exact ⟨decide_eq_true (of_decide_eq_true h1), decide_eq_true (of_decide_eq_true h2)⟩
theorem index_wo {P : Program} {t : TypeId} {x i : EV} : Wo G (indexD P t x i) (indexAV P t (vV G x) (vV G i)) := by
  intro c v h hc
  unfold indexD at h
  split at h
  · split at h
    · rename_i len e r off hu
      simp only [vV, indexAV, hu]
      split at h
      · rename_i z hz
        simp only [Option.some.injEq, Prod.mk.injEq] at h; obtain ⟨rfl, rfl⟩ := h
        simp only [hz, le_lt_true (P := true) (z := len) (by simp only [vI]) hc, vV, vN_mkAdd, vN_mkMulz, vN_mkToN]
      · simp at h
    · rename_i e mb r off len hu
      simp only [vV, indexAV, hu]
      split at h
      · rename_i z hz
        simp only [Option.some.injEq, Prod.mk.injEq] at h; obtain ⟨rfl, rfl⟩ := h
        simp only [hz, le_lt_true (P := true) (z := (vN G len : Int)) (vI_mkOfN _) hc, vV, vN_mkAdd, vN_mkMulz, vN_mkToN]
      · simp at h
    · simp at h
  · simp at h
theorem bound_ok {x : Option EV} {d : EI} {e : EI} (h : boundD x d = some e) : boundAV (x.map (vV G)) (vI G d) = some (vI G e) := by
  unfold boundD at h
  split at h
  · simp at h; subst h; rfl
  · simp at h; subst h; simp only [Option.map_some, vV, boundAV]
  · simp at h
theorem le3_true {a b c : EI} {z : Int} (hz : vI G c = z) (h : vB G (mkAnd (mkCmp .leq (.lit 0) a) (mkAnd (mkCmp .leq a b) (mkCmp .leq b c))) = true) : (decide (0 ≤ vI G a) && (decide (vI G a ≤ vI G b) && decide (vI G b ≤ z))) = true := by
  obtain ⟨h1, h⟩ := mkAnd_true h
  obtain ⟨h2, h3⟩ := mkAnd_true h
  rw [vB_mkCmp] at h1 h2 h3
  rw [hz] at h3
  simp only [vI] at h1
  rw [Bool.and_eq_true, Bool.and_eq_true]
  exact ⟨decide_eq_true (of_decide_eq_true h1), decide_eq_true (of_decide_eq_true h2), decide_eq_true (of_decide_eq_true h3)⟩
theorem slice_wo {P : Program} {t : TypeId} {x : EV} {lo hi : Option EV} : Wo G (sliceD P t x lo hi) (sliceAV P t (vV G x) (lo.map (vV G)) (hi.map (vV G))) := by
  intro c v h hc
  unfold sliceD at h
  split at h
  · rename_i e mb r off len hu
    simp only [vV, sliceAV, hu]
    split at h
    · rename_i z l hh hz hl hh'
      simp only [Option.some.injEq, Prod.mk.injEq] at h; obtain ⟨rfl, rfl⟩ := h
      have e1 := bound_ok (G := G) hl
      have e2 := bound_ok (G := G) hh'
      rw [vI_mkOfN] at e2
      simp only [vI] at e1
      simp only [hz, e1, e2, le3_true (z := (vN G len : Int)) (vI_mkOfN _) hc, vV, vN_mkAdd, vN_mkMulz, vN_mkToN, vN_mkSub]
    · simp at h
  · rename_i e hu
    simp only [vV, sliceAV, hu]
    split at h
    · rename_i z l hh hz hl hh'
      simp only [Option.some.injEq, Prod.mk.injEq] at h; obtain ⟨rfl, rfl⟩ := h
      have e1 := bound_ok (G := G) hl
      have e2 := bound_ok (G := G) hh'
      simp only [vI] at e1 e2
      simp only [hz, e1, e2, le3_true (z := 0) (by simp only [vI]) hc, vV]
    · simp at h
  · rename_i s hu
    simp only [vV, sliceAV, hu]
    split at h
    · rename_i l hh hl hh'
      simp only [Option.some.injEq, Prod.mk.injEq] at h; obtain ⟨rfl, rfl⟩ := h
      have e1 := bound_ok (G := G) hl
      have e2 := bound_ok (G := G) hh'
      rw [vI_mkOfN, vN_slenD] at e2
      simp only [vI] at e1
      simp only [e1, e2, le3_true (z := ((vS G s).length : Int)) (by rw [vI_mkOfN, vN_slenD]) hc, vV, vS, vN_mkToN]
    · simp at h
  · simp at h

theorem vL_cellsOf (v : EV) : vL G (cellsOfD v) = cellsOf (vV G v) := by
  unfold cellsOfD cellsOf
  cases v <;> simp [vL, vVs, vV]
theorem known_ok {v : EV} (h : knownD v = true) : known (vV G v) = true := by
  cases v <;> simp [knownD] at h <;> simp [vV, known]
theorem isCell_ok (v : EV) : isCell (vV G v) = isCellD v := by
  cases v <;> simp [vV, isCell, isCellD]
theorem allCell_ok (l : EL) : vB G (allCellD l) = (vL G l).all isCell := by
  unfold allCellD
  split
  · simp only [vB, vL, vVs_map, List.all_map]
    congr 1
    funext x; simp [isCell_ok]
  · simp only [vB, cellsB]
  · simp only [vB, cellsB]
theorem goodCells_ok (v : EV) : vB G (goodCellsD v) = true → (cellsOf (vV G v)).all isCell = true := by
  intro h
  unfold goodCellsD at h
  split at h
  · rw [allCell_ok] at h; simpa only [vV, cellsOf] using h
  · rename_i hn
    simp only [vB] at h
    have : cellsOf (vV G v) = [vV G v] := by
      cases v <;> simp [vV, cellsOf]
      exact absurd rfl (hn _)
    rw [this]; simp [isCell_ok, h]
theorem sizeIs_ok {v : EV} {z : Nat} (h : vB G (sizeIsD v z) = true) : sizeOfAV (vV G v) = z := by
  unfold sizeIsD at h
  split at h
  · rw [vB_mkEqN, vN_mkLen] at h
    simp only [vN] at h
    simp only [vV, sizeOfAV]
    exact Nat.eq_of_beq_eq_true h
  · rename_i hn
    simp only [vB] at h
    have := Nat.eq_of_beq_eq_true h
    subst this
    cases v <;> simp [vV, sizeOfAV]
    exact absurd rfl (hn _)
theorem setPart_length' {cs : List AV} {off : Nat} {v : AV} (h : off + sizeOfAV v ≤ cs.length) : (setPart cs off v).length = cs.length := by
  cases v <;> simp only [setPart, List.length_set]
  simp only [sizeOfAV] at h
  simp only [spl, List.length_append, List.length_take, List.length_drop]
  omega
theorem fill_wo {place : Nat → Option (Nat × Nat)} : ∀ (parts : List (Nat × EV)) (cells : EL) (c : EB) (r : EL), fillD place cells parts = some (c, r) → vB G c = true →
    fillAV place (vL G cells) (parts.map fun p => (p.1, vV G p.2)) = some (true, vL G r)
  | [], cells, c, r, h, _ => by
    simp only [fillD, Option.some.injEq, Prod.mk.injEq] at h
    obtain ⟨rfl, rfl⟩ := h
    simp only [List.map_nil, fillAV]
  | (i, v) :: rest, cells, c, r, h, hc => by
    unfold fillD at h
    simp only [List.map_cons, fillAV]
    split at h
    · simp at h
    · rename_i off size hp
      simp only [hp]
      split at h
      · simp at h
      · rename_i c' r' hf
        split at h
        · rename_i hk
          simp only [Option.some.injEq, Prod.mk.injEq] at h
          obtain ⟨rfl, rfl⟩ := h
          obtain ⟨g1, hc⟩ := mkAnd_true hc
          obtain ⟨g2, g3⟩ := mkAnd_true hc
          have := fill_wo rest _ _ _ hf g3
          rw [vL_mkSet] at this
          simp only [vN] at this
          rw [vB_mkLe, vN_mkLen] at g2
          simp only [vN] at g2
          have e1 := sizeIs_ok g1
          have e2 : decide (off + size ≤ (vL G cells).length) = true := g2
          simp only [this, known_ok hk, e1, e2, beq_self_eq_true, Bool.and_self]
        · simp at h
theorem zero_ok {P : Program} {t : TypeId} {z : EV} (h : zeroD P t = some z) : zeroOf P t = some (vV G z) := by
  unfold zeroD at h
  unfold zeroOf
  split at h
  · rename_i i hi
    simp only [hi]
    split at h
    · rename_i z' hz
      simp at h; subst h
      simp only [hz, vV_dVal]
    · simp at h
  · simp at h
theorem build_wo {P : Program} {t : TypeId} {parts : List (Nat × EV)} : Wo G (buildD P t parts) (buildAV P t (parts.map fun p => (p.1, vV G p.2))) := by
  intro c v h hc
  unfold buildD at h
  split at h
  · rename_i fs z hu hz
    have hz := zero_ok (G := G) hz
    simp only [vV] at hz
    simp only [buildAV, hu, hz]
    split at h
    · rename_i ps hps
      simp only [hps]
      split at h
      · rename_i c' cs hf
        simp only [Option.some.injEq, Prod.mk.injEq] at h; obtain ⟨rfl, rfl⟩ := h
        simp only [fill_wo _ _ _ _ hf hc, vV]
      · simp at h
    · simp at h
  · rename_i n e z hu hz
    have hz := zero_ok (G := G) hz
    simp only [vV] at hz
    simp only [buildAV, hu, hz]
    split at h
    · rename_i n hn
      simp only [hn]
      split at h
      · rename_i c' cs hf
        simp only [Option.some.injEq, Prod.mk.injEq] at h; obtain ⟨rfl, rfl⟩ := h
        simp only [fill_wo _ _ _ _ hf hc, vV]
      · simp at h
    · simp at h
  · simp at h
theorem len_wo {P : Program} {t : TypeId} {x : EV} : Wo G (lenD P t x) (lenAV P t (vV G x)) := by
  intro c v h hc
  unfold lenD at h
  split at h
  · rename_i s hu
    simp only [Option.some.injEq, Prod.mk.injEq] at h; obtain ⟨rfl, rfl⟩ := h
    simp only [vV, lenAV, hu, vI_mkOfN, vN_slenD]
  · rename_i n e hu
    simp only [Option.some.injEq, Prod.mk.injEq] at h; obtain ⟨rfl, rfl⟩ := h
    simp only [lenAV, hu, vV, vI]
  · rename_i e mb r o n hu
    simp only [Option.some.injEq, Prod.mk.injEq] at h; obtain ⟨rfl, rfl⟩ := h
    simp only [vV, lenAV, hu, vI_mkOfN]
  · rename_i e hu
    simp only [Option.some.injEq, Prod.mk.injEq] at h; obtain ⟨rfl, rfl⟩ := h
    simp only [vV, lenAV, hu, vI]
  · simp at h
theorem max_wo {x y : EV} : Wo G (maxD x y) (maxAV (vV G x) (vV G y)) := by
  intro c v h hc
  unfold maxD at h
  split at h
  · split at h
    · rename_i hk
      subst hk
      simp only [Option.some.injEq, Prod.mk.injEq] at h; obtain ⟨rfl, rfl⟩ := h
      simp only [vV, maxAV, if_pos, vI]
    · simp at h
  · simp at h
theorem min_wo {x y : EV} : Wo G (minD x y) (minAV (vV G x) (vV G y)) := by
  intro c v h hc
  unfold minD at h
  split at h
  · split at h
    · rename_i hk
      subst hk
      simp only [Option.some.injEq, Prod.mk.injEq] at h; obtain ⟨rfl, rfl⟩ := h
      simp only [vV, minAV, if_pos, vI]
    · simp at h
  · simp at h
theorem pick_wo {c a b : EV} : Wo G (pickD c a b) (pickAV (vV G c) (vV G a) (vV G b)) := by
  intro c' v h hc
  unfold pickD at h
  split at h <;> first
    | (simp only [Option.some.injEq, Prod.mk.injEq] at h; obtain ⟨rfl, rfl⟩ := h; simp only [vV, vB, pickAV]; done)
    | (simp at h; done)
theorem nilCheck_wo {x : EV} : Wo G (nilCheckD x) (nilCheckAV (vV G x)) := by
  intro c' v h hc
  unfold nilCheckD at h
  split at h <;> first
    | (simp only [Option.some.injEq, Prod.mk.injEq] at h; obtain ⟨rfl, rfl⟩ := h; simp only [vV, nilCheckAV]; done)
    | (simp at h; done)
theorem one_wo {v : EV} {w : AV} (h : vV G v = w) : Wo G (some (.lit true, v)) (some (true, w)) := Wo.some fun _ => by rw [h]
theorem map_ev {F : DFr} (l : List Operand) : (l.map (ev (vVs G F))) = vVs G (l.map (evD F)) := by
  rw [vVs_map (List.map (evD F) l), List.map_map]
  congr 1
  funext x; simp [vV_evD]
theorem omap_ev {F : DFr} (x : Option Operand) : x.map (ev (vVs G F)) = (x.map (evD F)).map (vV G) := by
  cases x <;> simp [vV_evD]
theorem pure_wo {P : Program} {F : DFr} {op : Op} : Wo G (pureD P F op) (pureOp P (vVs G F) op) := by
  intro c v h hc
  unfold pureD at h
  split at h
  · exact one_wo (vV_evD F _) _ _ h hc
  · exact one_wo (vV_evD F _) _ _ h hc
  · simp only [pureOp, ← vV_evD]; exact pick_wo _ _ h hc
  · simp only [pureOp, ← vV_evD]; exact nilCheck_wo _ _ h hc
  · simp only [pureOp, ← vV_evD]; exact bin_wo _ _ h hc
  · simp only [pureOp, ← vV_evD]; exact un_wo _ _ h hc
  · simp only [pureOp, ← vV_evD]; exact conv_wo _ _ h hc
  · simp only [pureOp, ← vV_evD]; exact field_wo _ _ h hc
  · simp only [pureOp, ← vV_evD]; exact index_wo _ _ h hc
  · simp only [pureOp, ← vV_evD, omap_ev]; exact slice_wo _ _ h hc
  · rename_i t parts
    simp only [pureOp]
    have := build_wo _ _ h hc
    rw [List.map_map] at this
    rw [← this]
    congr 1
    refine List.map_congr_left fun p _ => ?_
    simp [vV_evD]
  · simp only [pureOp, ← vV_evD]
    split at h
    · rename_i vs he
      split at h
      · rename_i v' hv
        simp only [Option.some.injEq, Prod.mk.injEq] at h; obtain ⟨rfl, rfl⟩ := h
        simp only [he, vV, vVs_get, hv, Option.map_some]
      · simp at h
    · simp at h
  · rename_i f first cap
    simp only [pureOp]
    split at h
    · rename_i h0
      simp only [Option.some.injEq, Prod.mk.injEq] at h; obtain ⟨rfl, rfl⟩ := h
      rw [if_pos h0, map_ev]; simp only [vV]
    · simp at h
  · simp only [pureOp]
    split at h
    · rename_i x t h1 h2
      simp only [h1, h2, ← vV_evD]; exact len_wo _ _ h hc
    · simp at h
  · simp only [pureOp]
    split at h
    · rename_i x y h1
      simp only [h1, ← vV_evD]; exact max_wo _ _ h hc
    · simp at h
  · simp only [pureOp]
    split at h
    · rename_i x y h1
      simp only [h1, ← vV_evD]; exact min_wo _ _ h hc
    · simp at h
  · simp at h
end Go.Am
