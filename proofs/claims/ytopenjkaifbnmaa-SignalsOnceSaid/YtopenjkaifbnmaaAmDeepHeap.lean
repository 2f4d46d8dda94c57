/-
  Reading and writing over written terms.
-/
import Derived.Test.YtopenjkaifbnmaaAmDeepOps
namespace Go.Am
variable {G : Nat → List AV}

def vBlk (G : Nat → List AV) (b : DBlk) : Blk := ⟨b.esz, vL G b.cells⟩
def vHp (G : Nat → List AV) (H : DHp) : Hp := H.map (Option.map (vBlk G))
def vHop (G : Nat → List AV) : DHop → Hop
  | .set i b => .set i (vBlk G b)
  | .new b => .new (vBlk G b)
  | .app j b => .app j (vBlk G b)
theorem vHp_length (H : DHp) : (vHp G H).length = H.length := by simp [vHp]
theorem vHp_get (H : DHp) (i : Nat) : (vHp G H)[i]? = (H[i]?).map (Option.map (vBlk G)) := by simp [vHp]
theorem vHp_some {H : DHp} {i : Nat} {b : DBlk} (h : H[i]? = some (some b)) : (vHp G H)[i]? = some (some (vBlk G b)) := by rw [vHp_get, h]; rfl
theorem vHop_act (H : DHp) (h : DHop) : vHp G (h.act H) = (vHop G h).act (vHp G H) := by
  cases h <;> simp [DHop.act, Hop.act, vHop, vHp, List.map_set]
theorem vHop_acts : ∀ (hs : List DHop) (H : DHp), vHp G (dacts H hs) = acts (vHp G H) (hs.map (vHop G))
  | [], H => rfl
  | h :: hs, H => by simp only [dacts, List.map_cons, acts, vHop_acts hs, vHop_act]

theorem cellsAt_ok {C : Ctx} (hG : C.G = G) {H : DHp} {r : ER} {l : EL} (h : cellsAtD H r = some l) : cellsAt C (vHp G H) (vR G r) = some (vL G l) := by
  unfold cellsAtD at h
  split at h
  · split at h
    · rename_i b hb
      simp at h; subst h
      simp only [vR, cellsAt, vHp_some hb, vBlk]
    · simp at h
  · simp at h; subst h
    simp only [vR, cellsAt, vL, hG]
theorem dleaf_ok (l : Lf) (cs : EL) (off : EN) : vV G (leafD l cs off) = leafA l (vL G cs) (vN G off) := by
  cases l <;> simp only [leafD, leafA, vV, vI, vB, vS, vR, vN]
theorem dleafs_ok (cs : EL) : ∀ (ls : List Lf) (off : EN), vVs G (leafsD cs off ls) = leafsA (vL G cs) (vN G off) ls
  | [], off => by simp only [leafsD, leafsA, vVs]
  | l :: ls, off => by
    simp only [leafsD, leafsA, vVs, dleaf_ok, dleafs_ok cs ls, vN_mkAdd, vN]
theorem partR_wo {P : Program} {t : TypeId} {cs : EL} {off : EN} : Wo G (partRD P t cs off) (partR P t (vL G cs) (vN G off)) := by
  intro c v h hc
  unfold partRD at h
  unfold partR
  split at h
  · rename_i k hu
    simp only [hu]
    simp only [Option.some.injEq, Prod.mk.injEq] at h; obtain ⟨rfl, rfl⟩ := h
    simp only [vB] at hc
    simp only [hc, vV, vI]
  · rename_i hu
    simp only [hu]
    simp only [Option.some.injEq, Prod.mk.injEq] at h; obtain ⟨rfl, rfl⟩ := h
    simp only [vB] at hc
    simp only [hc, vV, vB]
  · rename_i hu
    simp only [hu]
    simp only [Option.some.injEq, Prod.mk.injEq] at h; obtain ⟨rfl, rfl⟩ := h
    simp only [vB] at hc
    simp only [hc, vV, vS]
  · rename_i e hu
    simp only [hu]
    simp only [Option.some.injEq, Prod.mk.injEq] at h; obtain ⟨rfl, rfl⟩ := h
    simp only [vB] at hc
    simp only [hc, vV, vR, vN]
  · rename_i fs hu
    simp only [hu]
    split at h
    · rename_i z ls hz hl
      simp only [hz, hl]
      split at h
      · rename_i hb
        simp only [Option.some.injEq, Prod.mk.injEq] at h; obtain ⟨rfl, rfl⟩ := h
        simp only [vB] at hc
        simp only [hb, hc, vV, vL, dleafs_ok, Bool.and_self]
      · simp at h
    · simp at h
  · rename_i n e hu
    simp only [hu]
    split at h
    · rename_i z ls hz hl
      simp only [hz, hl]
      split at h
      · rename_i hb
        simp only [Option.some.injEq, Prod.mk.injEq] at h; obtain ⟨rfl, rfl⟩ := h
        simp only [vB] at hc
        simp only [hb, hc, vV, vL, dleafs_ok, Bool.and_self]
      · simp at h
    · simp at h
  · simp at h
theorem load_wo {C : Ctx} (hG : C.G = G) {H : DHp} {t : TypeId} {r : ER} {off : EN} : Wo G (loadD C.P H t r off) (loadA C (vHp G H) t (vR G r) (vN G off)) := by
  intro c v h hc
  unfold loadD at h
  unfold loadA
  split at h
  · rename_i cs hcs
    rw [cellsAt_ok hG hcs]
    unfold partLD at h
    split at h
    · simp only [vR, partL]; exact part_wo _ _ h hc
    · simp only [vR, partL]; exact partR_wo _ _ h hc
  · simp at h
theorem read_wo {C : Ctx} (hG : C.G = G) {F : DFr} {H : DHp} {op : Op} : Wo G (readD C.P F H op) (readOp C (vVs G F) (vHp G H) op) := by
  intro c v h hc
  unfold readD at h
  split at h
  · simp only [readOp, ← vV_evD]
    split at h
    · rename_i r off he
      simp only [he, vV]
      exact load_wo hG _ _ h hc
    · simp at h
  · simp only [readOp, ← vV_evD]
    split at h
    · rename_i fs cs hu he
      simp only [hu, he, vV]
      split at h
      · rename_i fd hf
        simp only [hf]
        have := part_wo _ _ h hc
        simpa only [vN] using this
      · simp at h
    · simp at h
  · simp only [readOp, ← vV_evD]
    split at h
    · rename_i len e cs k i hu he hi
      simp only [hu, he, hi, vV]
      split at h
      · rename_i z hz
        simp only [hz]
        split at h
        · rename_i c' v' hp
          simp only [Option.some.injEq, Prod.mk.injEq] at h; obtain ⟨rfl, rfl⟩ := h
          obtain ⟨g1, hc⟩ := mkAnd_true hc
          obtain ⟨g2, g3⟩ := mkAnd_true hc
          have := part_wo _ _ hp g3
          rw [vN_mkMulz, vN_mkToN] at this
          rw [vB_mkCmp] at g1 g2
          have g1 : decide (0 ≤ vI G i) = true := decide_eq_true (by have := of_decide_eq_true g1; simpa only [vI] using this)
          have g2 : decide (vI G i < len) = true := decide_eq_true (by have := of_decide_eq_true g2; simpa only [vI] using this)
          simp only [this, g1, g2, Bool.and_self]
        · simp at h
      · simp at h
    · simp at h
  · simp only [readOp, ← vV_evD]
    split at h
    · rename_i h1 he
      simp only [Option.some.injEq, Prod.mk.injEq] at h; obtain ⟨rfl, rfl⟩ := h
      simp only [h1, he, vV, vS]
    · rename_i mb r off n h1 he
      simp only [h1, he, vV]
      split at h
      · rename_i cs hcs
        rw [cellsAt_ok hG hcs]
        simp only [strOfD, Option.some.injEq, Prod.mk.injEq] at h; obtain ⟨rfl, rfl⟩ := h
        obtain ⟨g1, g2⟩ := mkAnd_true hc
        rw [vB_mkLe, vN_mkAdd, vN_mkLen] at g1
        simp only [vB, vL_mkSubL, u8s] at g2
        have g1 : decide (vN G off + vN G n ≤ (vL G cs).length) = true := g1
        simp only [strOf, g1, g2, Bool.and_self, vV, vS, vL_mkSubL, strL]
      · simp at h
    · simp at h
  · simp at h

theorem dsrc_ok {C : Ctx} (hG : C.G = G) {H : DHp} {z : Nat} {x : EV} {c : EB} {m : EN} {xs : EL} (h : srcD H z x = some (c, m, xs)) (hc : vB G c = true) :
    srcA C (vHp G H) z (vV G x) = some (true, vN G m, vL G xs) := by
  unfold srcD at h
  split at h
  · simp only [Option.some.injEq, Prod.mk.injEq] at h; obtain ⟨rfl, rfl, rfl⟩ := h
    simp only [vV, srcA, vN, vL, vVs]
  · rename_i mb r off m'
    split at h
    · rename_i cs hcs
      simp only [Option.some.injEq, Prod.mk.injEq] at h; obtain ⟨rfl, rfl, rfl⟩ := h
      obtain ⟨g1, g2⟩ := mkAnd_true hc
      rw [vB_mkLe, vN_mkAdd, vN_mkMul, vN_mkLen] at g1
      rw [allCell_ok, vL_mkSubL, vN_mkMul] at g2
      simp only [vV, srcA, cellsAt_ok hG hcs]
      have g1 : decide (vN G off + vN G m' * z ≤ (vL G cs).length) = true := g1
      simp only [g1, g2, Bool.and_self, vL_mkSubL, vN_mkMul]
    · simp at h
  · rename_i s
    split at h
    · rename_i hz
      have hz := Nat.eq_of_beq_eq_true hz
      subst hz
      simp only [Option.some.injEq, Prod.mk.injEq] at h; obtain ⟨rfl, rfl, rfl⟩ := h
      simp only [vV, srcA, vN_slenD, vL_mkBytes, decide_true]
    · simp at h
  · simp at h
theorem lenIs_ok {v : EV} {n : Nat} (h : lenIs (some v) n = true) : (cellsOf (vV G v)).length = n := by
  unfold lenIs at h
  simp only at h
  rw [← vL_cellsOf]
  split at h
  · rename_i cs he
    rw [he]
    simp only [vL, vVs_length]
    exact Nat.eq_of_beq_eq_true h
  · simp at h
/-- what a writing over written terms is worth -/
def Ww (G : Nat → List AV) (o : Option (EB × EV × DHop)) (p : Option (Bool × AV × Hop)) : Prop := ∀ c v h, o = some (c, v, h) → vB G c = true → p = some (true, vV G v, vHop G h)
theorem append_ww {C : Ctx} (hG : C.G = G) {H : DHp} {t : TypeId} {s x : EV} : Ww G (appendD C.P H t s x) (appendA C (vHp G H) t (vV G s) (vV G x)) := by
  intro c v hp h hc
  unfold appendD at h
  unfold appendA
  split at h
  rotate_left
  · simp at h
  rename_i e hu
  simp only [hu]
  split at h
  rotate_left
  · simp at h
  rename_i i zv hi hz
  have hz := zero_ok (G := G) hz
  simp only [hi, hz]
  split at h
  · simp at h
  rename_i hb
  obtain ⟨hb1, hb2⟩ := and_true' hb
  have hlen : ((cellsOf (vV G zv)).length == i.size) = true := by rw [lenIs_ok hb2]; simp
  have hby : decide (1 ≤ i.bytes) = true := decide_eq_true (Nat.le_of_ble_eq_true hb1)
  split at h
  rotate_left
  · simp at h
  rename_i c' m xs hs
  split at h
  · simp only [Option.some.injEq, Prod.mk.injEq] at h; obtain ⟨rfl, rfl, rfl⟩ := h
    obtain ⟨g1, g2⟩ := mkAnd_true hc
    have e1 := dsrc_ok hG hs g1
    rw [vB_mkLe, vN_mkMul] at g2
    simp only [vN] at g2
    have g2 : decide (vN G m * i.bytes ≤ 140737488355328) = true := g2
    simp only [e1, vV, g2, hby, hlen, Bool.and_self, hereD, vR, vN, here, vHp_length, vHop, vBlk]
  · rename_i mb j n
    split at h
    · rename_i b hj
      split at h
      · rename_i hez
        have hez := Nat.eq_of_beq_eq_true hez
        simp only [Option.some.injEq, Prod.mk.injEq] at h; obtain ⟨rfl, rfl, rfl⟩ := h
        obtain ⟨g1, hc⟩ := mkAnd_true hc
        obtain ⟨g2, g3⟩ := mkAnd_true hc
        have e1 := dsrc_ok hG hs g1
        rw [vB_mkLe, vN_mkMul, vN_mkAdd] at g2
        simp only [vN] at g2
        rw [vB_mkEqN, vN_mkLen, vN_mkMul] at g3
        have g3 := Nat.eq_of_beq_eq_true g3
        have g2 : decide ((vN G n + vN G m) * i.bytes ≤ 140737488355328) = true := g2
        simp only [e1, vV, vR, vN, vHp_some hj, vBlk, g2, hby, hlen, hez, g3, beq_self_eq_true, Bool.and_self, hereD, here, vHp_length, vHop, vL_mkAppL, vN_mkAdd]
      · simp at h
    · simp at h
  · simp at h
theorem vL_mkStore {l : EL} {o : EN} {v : EV} {z : Nat} (hz : sizeOfAV (vV G v) = z) : vL G (mkStore l o v z) = setPart (vL G l) (vN G o) (vV G v) := by
  unfold mkStore
  split
  · rename_i d
    split
    · rename_i cs _
      split
      · rename_i hb
        have hb := Nat.eq_of_beq_eq_true hb
        simp only [vV, sizeOfAV] at hz
        simp only [vV, setPart, spl, vL, vN, List.take_zero, List.nil_append, Nat.zero_add]
        rw [List.drop_of_length_le (by rw [vVs_length]; omega), List.append_nil]
      · exact vL_mkSet _ _ _
    · exact vL_mkSet _ _ _
  · exact vL_mkSet _ _ _
theorem write_ww {C : Ctx} (hG : C.G = G) {F : DFr} {H : DHp} {op : Op} : Ww G (writeD C.P F H op) (writeOp C (vVs G F) (vHp G H) op) := by
  intro c v hp h hc
  unfold writeD at h
  split at h
  · -- store
    simp only [writeOp, ← vV_evD]
    split at h
    · rename_i i off z he hz
      simp only [he, hz, vV, vR]
      split at h
      · rename_i b hb
        simp only [Option.some.injEq, Prod.mk.injEq] at h; obtain ⟨rfl, rfl, rfl⟩ := h
        obtain ⟨g1, hc⟩ := mkAnd_true hc
        obtain ⟨g2, g3⟩ := mkAnd_true hc
        rw [vB_mkLe, vN_mkAdd, vN_mkLen] at g3
        simp only [vN] at g3
        have g3 : decide (vN G off + z ≤ (vL G b.cells).length) = true := g3
        simp only [vHp_some hb, vBlk, goodCells_ok _ g1, sizeIs_ok g2, g3, beq_self_eq_true, Bool.and_self, vV, vVs, vHop, vL_mkStore (sizeIs_ok g2)]
      · simp at h
    · simp at h
  · -- alloc
    simp only [writeOp]
    split at h
    · rename_i z hz
      simp only [zero_ok (G := G) hz]
      simp only [Option.some.injEq, Prod.mk.injEq] at h; obtain ⟨rfl, rfl, rfl⟩ := h
      simp only [vV, hereD, vR, vN, here, vHp_length, vHop, vBlk, vL_cellsOf]
    · simp at h
  · -- box
    simp only [writeOp, ← vV_evD]
    split at h
    · rename_i hk
      simp only [Option.some.injEq, Prod.mk.injEq] at h; obtain ⟨rfl, rfl, rfl⟩ := h
      simp only [known_ok hk, vV, hereD, vR, vN, here, vHp_length, vHop, vBlk, vL_cellsOf]
    · simp at h
  · -- buildSlice
    rename_i t n parts
    simp only [writeOp]
    split at h
    rotate_left
    · simp at h
    rename_i e hu
    simp only [hu]
    split at h
    rotate_left
    · simp at h
    rename_i z zv hz hzv
    simp only [hz, zero_ok (G := G) hzv]
    split at h
    rotate_left
    · simp at h
    rename_i cs hcs
    split at h
    rotate_left
    · simp at h
    rename_i hb
    obtain ⟨hb1, hb2⟩ := and_true' hb
    have e0 : cellsOf (vV G zv) = vVs G cs := by rw [← vL_cellsOf, hcs]; simp only [vL]
    have e1 : (vVs G cs).length = z := by rw [vVs_length]; exact Nat.eq_of_beq_eq_true hb2
    split at h
    · rename_i c' cs' hf
      simp only [Option.some.injEq, Prod.mk.injEq] at h; obtain ⟨rfl, rfl, rfl⟩ := h
      have := fill_wo _ _ _ _ hf hc
      have e2 : vL G (.of (List.replicate n cs).flatten) = (List.replicate n (cellsOf (vV G zv))).flatten := by
        simp only [vL, e0, vVs_map, List.map_flatten, List.map_replicate]
      rw [e2, List.map_map] at this
      have e3 : (List.map ((fun p : Nat × EV => (p.1, vV G p.2)) ∘ fun p : Nat × Operand => (p.1, evD F p.2)) parts.toList) = List.map (fun p => (p.1, ev (vVs G F) p.2)) parts.toList := by
        refine List.map_congr_left fun p _ => ?_
        simp [vV_evD]
      rw [e3] at this
      have hb1 : decide (n * z ≤ 16777216) = true := decide_eq_true (Nat.le_of_ble_eq_true hb1)
      rw [e0] at this
      simp only [e0, this, e1, hb1, decide_true, Bool.and_self, vV, hereD, vR, vN, here, vHp_length, vHop, vBlk]
    · simp at h
  · -- makeSlice
    simp only [writeOp, ← vV_evD]
    split at h
    rotate_left
    · simp at h
    rename_i e k l k' c' hu hl hc'
    simp only [hu, hl, hc', vV]
    split at h
    rotate_left
    · simp at h
    rename_i i zv hi hz
    simp only [hi, zero_ok (G := G) hz]
    split at h
    rotate_left
    · simp at h
    rename_i hb
    obtain ⟨hb1, hb2⟩ := and_true' hb
    simp only [Option.some.injEq, Prod.mk.injEq] at h; obtain ⟨rfl, rfl, rfl⟩ := h
    obtain ⟨g1, hc⟩ := mkAnd_true hc
    obtain ⟨g2, hc⟩ := mkAnd_true hc
    obtain ⟨g3, g4⟩ := mkAnd_true hc
    rw [vB_mkCmp] at g1 g2 g3 g4
    have ebig : vI G (writeD.mkBig c' i.bytes) = vI G c' * i.bytes := by
      unfold writeD.mkBig
      split <;> simp [vI, vVs, vV, bigF]
    rw [ebig] at g3
    simp only [vI] at g1 g3 g4
    have g1 : decide (0 ≤ vI G l) = true := decide_eq_true (of_decide_eq_true g1)
    have g2 : decide (vI G l ≤ vI G c') = true := decide_eq_true (of_decide_eq_true g2)
    have g3 : decide (vI G c' * i.bytes ≤ 140737488355328) = true := decide_eq_true (of_decide_eq_true g3)
    have g4 : decide (vI G c' ≤ 140737488355328) = true := decide_eq_true (of_decide_eq_true g4)
    have g5 : decide ((cellsOf (vV G zv)).length = i.size) = true := decide_eq_true (lenIs_ok hb1)
    have g6 : decide (1 ≤ i.size) = true := decide_eq_true (Nat.le_of_ble_eq_true hb2)
    simp only [g1, g2, g3, g4, g5, g6, Bool.and_self, vV, hereD, vR, vN, here, vHp_length, vHop, vBlk, vL_mkRep, vL_cellsOf, vN_mkToN]
  · -- convert
    simp only [writeOp, ← vV_evD]
    split at h
    · rename_i s h1 he
      simp only [h1, he, vV]
      simp only [Option.some.injEq, Prod.mk.injEq] at h; obtain ⟨rfl, rfl, rfl⟩ := h
      rw [vB_mkLe, vN_slenD] at hc
      simp only [vN] at hc
      have hc : decide ((vS G s).length ≤ 140737488355328) = true := hc
      simp only [hc, vV, hereD, vR, vN, here, vHp_length, vHop, vBlk, vN_slenD, vL_mkBytes]
    · rename_i mb i off n h1 he
      simp only [h1, he, vV, vR]
      split at h
      · rename_i h2
        simp only [h2]
        split at h
        · rename_i b hb
          simp only [vHp_some hb]
          simp only [Option.some.injEq, Prod.mk.injEq] at h; obtain ⟨rfl, rfl, rfl⟩ := h
          rw [vB_mkLe] at hc
          simp only [vN] at hc
          have hc : Nat.ble 1 (vN G n) = true := Nat.ble_eq_true_of_le (leB_iff.1 hc)
          simp only [hc, vV, vR, vHop]
        · simp at h
      · simp at h
    · simp at h
  · -- append
    simp only [writeOp]
    split at h
    rotate_left
    · simp at h
    rename_i s x t u h1 h2
    simp only [h1, h2, ← vV_evD]
    split at h
    · rename_i e hu
      simp only [hu]
      exact append_ww hG _ _ _ h hc
    · rename_i hu
      simp only [hu]
      exact append_ww hG _ _ _ h hc
    · simp at h
  · simp at h

theorem call_ok {F : DFr} {op : Op} {f : FuncId} {args : List EV} (h : callD F op = some (f, args)) : callOp (vVs G F) op = some (f, vVs G args) := by
  unfold callD at h
  split at h
  · simp only [callOp, ← vV_evD]
    split at h
    · rename_i g cap he
      simp only [Option.some.injEq, Prod.mk.injEq] at h; obtain ⟨rfl, rfl⟩ := h
      simp only [he, vV, vVs_append, map_ev]
    · simp at h
  · simp at h
theorem resOne_wo {C : Ctx} (hG : C.G = G) {F : DFr} {H : DHp} (x : ResultVar) : Wo G (resOneD C.P F H x) (resOne C (vVs G F) (vHp G H) x) := by
  intro c v h hc
  unfold resOneD at h
  unfold resOne
  split at h
  · simp only [Option.some.injEq, Prod.mk.injEq] at h; obtain ⟨rfl, rfl⟩ := h
    simp only [vVs_getD]
  · simp only [vVs_getD]
    split at h
    · rename_i r off he
      simp only [he, vV]
      exact load_wo hG _ _ h hc
    · simp at h
theorem resAll_ok {C : Ctx} (hG : C.G = G) {F : DFr} {H : DHp} : ∀ (xs : List ResultVar) (c : EB) (vs : List EV), resAllD C.P F H xs = some (c, vs) → vB G c = true → resAll C (vVs G F) (vHp G H) xs = some (true, vVs G vs)
  | [], c, vs, h, _ => by
    simp only [resAllD, Option.some.injEq, Prod.mk.injEq] at h; obtain ⟨rfl, rfl⟩ := h
    simp only [resAll, vVs]
  | x :: xs, c, vs, h, hc => by
    unfold resAllD at h
    split at h
    · rename_i c1 v h1
      split at h
      · rename_i d r h2
        simp only [Option.some.injEq, Prod.mk.injEq] at h; obtain ⟨rfl, rfl⟩ := h
        obtain ⟨g1, g2⟩ := mkAnd_true hc
        simp only [resAll, resOne_wo hG x _ _ h1 g1, resAll_ok hG xs _ _ h2 g2, Bool.and_self, vVs]
      · simp at h
    · simp at h
theorem res_wo {C : Ctx} (hG : C.G = G) {fn : Func} {F : DFr} {H : DHp} : Wo G (resD C.P fn F H) (resA C fn (vVs G F) (vHp G H)) := by
  intro c v h hc
  unfold resD at h
  unfold resA
  split at h
  · rename_i c' v' hr
    simp only [Option.some.injEq, Prod.mk.injEq] at h; obtain ⟨rfl, rfl⟩ := h
    simp only [resAll_ok hG _ _ _ hr hc, vVs]
  · rename_i c' vs hn hr
    simp only [Option.some.injEq, Prod.mk.injEq] at h; obtain ⟨rfl, rfl⟩ := h
    rw [resAll_ok hG _ _ _ hr hc]
    cases vs with
    | nil => simp only [vVs, vV]
    | cons x l => cases l with
      | nil => exact absurd rfl (hn _)
      | cons y l => simp only [vVs, vV]
  · simp at h
end Go.Am
