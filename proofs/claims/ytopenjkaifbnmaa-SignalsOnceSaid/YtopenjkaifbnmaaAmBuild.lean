/-
  Literals of structs and arrays; all pure operations.
-/
import Derived.Test.YtopenjkaifbnmaaAmOps
namespace Go.Am
open Go.RowKit

theorem sizeOfAV_eq (v : AV) : sizeOfAV v = (cellsOf v).length := by cases v <;> rfl

theorem cells_VR {ρ : Env} {v : AV} {cv : Value} (hk : known v = true) (h : VR ρ v cv) : VRs ρ (cellsOf v) cv.cells.toList := by
  by_cases ha : ∃ cs, v = .agg cs
  · obtain ⟨cs, rfl⟩ := ha
    simp only [VR] at h
    obtain ⟨vs, rfl, hs⟩ := h
    exact hs
  · have e : cellsOf v = [v] := by cases v <;> first | rfl | exact absurd ⟨_, rfl⟩ ha
    have e2 : cv.cells = #[cv] := by
      have hp : plainV cv = true ∨ True := .inr trivial
      cases v with
      | undef => simp [known] at hk
      | agg _ => exact absurd ⟨_, rfl⟩ ha
      | ptr r off =>
        simp only [VR] at h
        cases r with
        | rw i => obtain ⟨_, _, rfl⟩ := h; rfl
        | ro i => obtain ⟨_, _, _, rfl⟩ := h; rfl
      | slice mb r off len => simp only [VR] at h; obtain ⟨_, _, rfl, _⟩ := h; rfl
      | func f c => simp only [VR] at h; obtain ⟨_, rfl, _⟩ := h; rfl
      | tup c => simp only [VR] at h; obtain ⟨_, rfl, _⟩ := h; rfl
      | bool b => simp only [VR] at h; subst h; rfl
      | int k n => simp only [VR] at h; subst h; rfl
      | str s => simp only [VR] at h; subst h; rfl
      | nilp => simp only [VR] at h; subst h; rfl
      | nils => simp only [VR] at h; subst h; rfl
      | nilf => simp only [VR] at h; subst h; rfl
    rw [e, e2]
    simp only [VRs]
    exact ⟨cv, [], rfl, h, rfl⟩

theorem get_setPart (cells : List AV) (off : Nat) (v : AV) (h : off + sizeOfAV v ≤ cells.length) (i : Nat) :
    (setPart cells off v)[i]? = if off ≤ i ∧ i < off + sizeOfAV v then (cellsOf v)[i - off]? else cells[i]? := by
  generalize hn : sizeOfAV v = n at h ⊢
  by_cases ha : ∃ cs, v = .agg cs
  · obtain ⟨cs, rfl⟩ := ha
    have hn : cs.length = n := hn
    show (cells.take off ++ (cs ++ cells.drop (off + cs.length)))[i]? = if off ≤ i ∧ i < off + n then cs[i - off]? else cells[i]?
    have ht : (cells.take off).length = off := by simp; omega
    by_cases h1 : i < off
    · rw [List.getElem?_append_left (by omega), List.getElem?_take, if_pos h1, if_neg (by omega)]
    · rw [List.getElem?_append_right (by omega), ht]
      by_cases h2 : i < off + n
      · rw [List.getElem?_append_left (by omega), if_pos (by omega)]
      · rw [List.getElem?_append_right (by omega), if_neg (by omega), List.getElem?_drop]
        congr 1; omega
  · have e : cellsOf v = [v] := by cases v <;> first | rfl | exact absurd ⟨_, rfl⟩ ha
    have e1 : n = 1 := by rw [← hn, sizeOfAV_eq, e]; rfl
    have e2 : setPart cells off v = cells.set off v := by cases v <;> first | rfl | exact absurd ⟨_, rfl⟩ ha
    rw [e2, e, e1, List.getElem?_set]
    rw [e1] at h
    by_cases hi : off = i
    · subst hi
      rw [if_pos rfl, if_pos (by omega), if_pos (by omega)]
      simp
    · rw [if_neg hi, if_neg (by omega)]

theorem length_setPart (cells : List AV) (off : Nat) (v : AV) (h : off + sizeOfAV v ≤ cells.length) : (setPart cells off v).length = cells.length := by
  by_cases ha : ∃ cs, v = .agg cs
  · obtain ⟨cs, rfl⟩ := ha
    simp only [setPart, spl, sizeOfAV] at *
    simp; omega
  · have e2 : setPart cells off v = cells.set off v := by cases v <;> first | rfl | exact absurd ⟨_, rfl⟩ ha
    rw [e2]; simp

theorem fold_set (off : Nat) : ∀ (vs : List Value) (k : Nat) (cs : Array Value), off + k + vs.length ≤ cs.size →
    ((vs.zipIdx k).foldl (fun cs (p : Value × Nat) => cs.setIfInBounds (off + p.2) p.1) cs).size = cs.size ∧
    ∀ i, ((vs.zipIdx k).foldl (fun cs (p : Value × Nat) => cs.setIfInBounds (off + p.2) p.1) cs)[i]? = if off + k ≤ i ∧ i < off + k + vs.length then vs[i - (off + k)]? else cs[i]?
  | [], k, cs, _ => by simp; intro i h1 h2; omega
  | v :: vs, k, cs, h => by
    simp only [List.zipIdx_cons, List.foldl_cons, List.length_cons] at *
    obtain ⟨h1, h2⟩ := fold_set off vs (k + 1) (cs.setIfInBounds (off + k) v) (by simp; omega)
    refine ⟨by simpa using h1, fun i => ?_⟩
    rw [h2 i, Array.getElem?_setIfInBounds]
    by_cases hi : off + k = i
    · subst hi
      rw [if_neg (by omega), if_pos rfl, if_pos (by omega), if_pos (by omega)]
      simp
    · by_cases hr : off + k ≤ i ∧ i < off + k + (vs.length + 1)
      · rw [if_pos (by omega), if_pos hr]
        rw [show i - (off + k) = (i - (off + (k + 1))) + 1 by omega]
        simp
      · rw [if_neg (by omega), if_neg hi, if_neg hr]

theorem fold_cells {ρ : Env} {cells : List AV} {cs : Array Value} {v : AV} {cv : Value} {off : Nat} (hk : known v = true) (hv : VR ρ v cv) (hc : VRs ρ cells cs.toList) (h : off + sizeOfAV v ≤ cells.length) :
    VRs ρ (setPart cells off v) ((cv.cells.zipIdx.foldl (fun cs (p : Value × Nat) => cs.setIfInBounds (off + p.2) p.1) cs)).toList := by
  have hl := VRs_length hc
  have hcv := cells_VR hk hv
  have hlv := VRs_length hcv
  rw [← sizeOfAV_eq] at hlv
  simp only [Array.length_toList] at hl hlv
  have hf := fold_set off cv.cells.toList 0 cs (by simp; omega)
  rw [← Array.foldl_toList, Array.toList_zipIdx]
  refine VRs_of (by simp only [Array.length_toList]; rw [hf.1, length_setPart _ _ _ h, hl]) fun i a ha => ?_
  rw [get_setPart _ _ _ h] at ha
  rw [Array.getElem?_toList, hf.2 i]
  simp only [Nat.add_zero, Array.length_toList, hlv]
  split at ha
  · rename_i hr
    rw [if_pos hr]
    exact VRs_get hcv _ a ha
  · rename_i hr
    rw [if_neg hr]
    have := VRs_get hc i a ha
    simpa using this

theorem fillAV_sound {ρ : Env} (place : Nat → Option (Nat × Nat)) : ∀ (parts : List (Nat × AV)) (cparts : List (Nat × Value)) (cells : List AV) (cs : Array Value) (r : List AV),
    fillAV place cells parts = some (true, r) → VRs ρ cells cs.toList → cparts.length = parts.length →
    (∀ (j : Nat) i v, parts[j]? = some (i, v) → ∃ cv, cparts[j]? = some (i, cv) ∧ VR ρ v cv) → ∃ cr, Instr.fill place cs cparts = some cr ∧ VRs ρ r cr.toList ∧ cr.size = cs.size
  | [], cparts, cells, cs, r, h, hc, hl, hp => by
    obtain rfl : cparts = [] := List.eq_nil_of_length_eq_zero (by simpa using hl)
    simp [fillAV] at h; subst h
    exact ⟨cs, rfl, hc, rfl⟩
  | (i, v) :: parts, cparts, cells, cs, r, h, hc, hl, hp => by
    obtain ⟨cv, hcv, hv⟩ := hp 0 i v rfl
    cases cparts with
    | nil => simp at hcv
    | cons p cparts =>
      simp at hcv
      subst hcv
      simp only [fillAV] at h
      split at h
      · simp at h
      · rename_i off size hpl
        split at h
        · simp at h
        · rename_i c r' hr
          simp only [Option.some.injEq, Prod.mk.injEq, Bool.and_eq_true, decide_eq_true_eq, beq_iff_eq] at h
          obtain ⟨⟨hk, hsz, hoff, rfl⟩, rfl⟩ := h
          have hlc := VRs_length hc
          have hcl := VRs_length (cells_VR hk hv)
          rw [← sizeOfAV_eq] at hcl
          simp only [Array.length_toList] at hlc hcl
          have hcs := fold_cells (off := off) hk hv hc (by omega)
          obtain ⟨cr, h1, h2, h3⟩ := fillAV_sound place parts cparts _ _ _ hr hcs (by simpa using hl) fun j i' v' hj => by simpa using hp (j + 1) i' v' (by simpa using hj)
          refine ⟨cr, ?_, h2, h3.trans ?_⟩
          · simp only [Instr.fill, hpl]
            rw [if_neg (by simp; omega)]
            exact h1
          · have := VRs_length hcs
            rw [length_setPart _ _ _ (by omega)] at this
            simp only [Array.length_toList] at this
            omega

theorem zeroOf_some {P : Program} {t : TypeId} {z : AV} (h : zeroOf P t = some z) : ∃ i v, P.info? t = some i ∧ i.zero = some v ∧ z = ofValue v := by
  unfold zeroOf at h
  split at h
  · rename_i i hi
    split at h
    · rename_i v hv; simp at h; exact ⟨i, v, hi, hv, h.symm⟩
    · simp at h
  · simp at h

theorem run_zeroValue' {P : Program} {t : TypeId} {i : TypeInfo} {v : Value} (hi : P.info? t = some i) (hv : i.zero = some v) (w : World) : (zeroValue t).run P w = .ok v w := by
  simp [zeroValue, run_typeInfo' hi, hv]

theorem run_places {P : Program} {w : World} : ∀ (fs : List Field) (ps : List (Nat × Nat)), placesOf P fs = some ps →
    (fs.mapM (m := Sem) fun f => do pure (f.offset, ← sizeOf f.type)).run P w = .ok ps w
  | [], ps, h => by simp [placesOf] at h; subst h; rfl
  | f :: fs, ps, h => by
    simp only [placesOf] at h
    split at h
    · rename_i z r hz hr
      simp at h; subst h
      have ih := run_places (w := w) fs r hr
      simp only [List.mapM_cons, Sem.run_bind, run_sizeOf' hz, Result.andThen_ok, Sem.run_pure, ih]
    · simp at h

theorem buildAV_sound {P : Program} {w : World} {ρ : Env} {t : TypeId} {parts : List (Nat × AV)} {cparts : Array (Nat × Value)} {v : AV}
    (hl : cparts.toList.length = parts.length) (hp : ∀ (j : Nat) i v, parts[j]? = some (i, v) → ∃ cv, cparts.toList[j]? = some (i, cv) ∧ VR ρ v cv)
    (h : buildAV P t parts = some (true, v)) : ∃ cv, (Instr.build t cparts).run P w = .ok cv w ∧ VR ρ v cv := by
  unfold buildAV at h
  split at h
  · rename_i fs z ht hz
    split at h
    · rename_i ps hps
      split at h
      · rename_i c cs hf
        simp only [Option.some.injEq, Prod.mk.injEq] at h
        obtain ⟨rfl, rfl⟩ := h
        obtain ⟨i, zv, hi, hzv, hzz⟩ := zeroOf_some hz
        have hzr : VRs ρ z zv.cells.toList := by
          have := VR_ofValue ρ zv
          rw [← hzz] at this
          exact cells_VR rfl this
        obtain ⟨cr, h1, h2, _⟩ := fillAV_sound (ρ := ρ) _ parts cparts.toList z zv.cells cs hf hzr hl hp
        refine ⟨.agg cr, ?_, by simp only [VR]; exact ⟨cr, rfl, h2⟩⟩
        unfold Instr.build
        have hpl : (fs.mapM (m := Sem) fun f => do pure (f.offset, ← sizeOf f.type)).run P w = .ok ps.toArray w := by
          rw [Array.mapM_eq_mapM_toList]
          simp only [Sem.run_map, run_places fs.toList ps hps, Result.andThen_ok]
        simp only [Sem.run_bind, run_zeroValue' hi hzv, Result.andThen_ok, run_underlying ht, hpl]
        have e : (fun x : Nat => ps.toArray[x]?) = fun i : Nat => ps[i]? := by funext x; simp
        rw [e, h1]
        rfl
      · simp at h
    · simp at h
  · rename_i n e z ht hz
    split at h
    · rename_i n' hn
      split at h
      · rename_i c cs hf
        simp only [Option.some.injEq, Prod.mk.injEq] at h
        obtain ⟨rfl, rfl⟩ := h
        obtain ⟨i, zv, hi, hzv, hzz⟩ := zeroOf_some hz
        have hzr : VRs ρ z zv.cells.toList := by
          have := VR_ofValue ρ zv
          rw [← hzz] at this
          exact cells_VR rfl this
        obtain ⟨cr, h1, h2, _⟩ := fillAV_sound (ρ := ρ) _ parts cparts.toList z zv.cells cs hf hzr hl hp
        refine ⟨.agg cr, ?_, by simp only [VR]; exact ⟨cr, rfl, h2⟩⟩
        unfold Instr.build
        simp only [Sem.run_bind, run_zeroValue' hi hzv, Result.andThen_ok, run_underlying ht, run_sizeOf' hn, h1]
        rfl
      · simp at h
    · simp at h
  · simp at h

theorem pickAV_sound {P : Program} {w : World} {ρ : Env} {c a b v : AV} {cc ca cb : Value} (hc : VR ρ c cc) (ha : VR ρ a ca) (hb : VR ρ b cb) (h : pickAV c a b = some (true, v)) :
    ∃ cv, (do pure (if ← asBool cc then ca else cb) : Sem Value).run P w = .ok cv w ∧ VR ρ v cv := by
  unfold pickAV at h
  split at h
  · simp only [VR] at hc; subst hc; simp at h; subst h; exact ⟨ca, by simp [asBool], ha⟩
  · simp only [VR] at hc; subst hc; simp at h; subst h; exact ⟨cb, by simp [asBool], hb⟩
  · simp at h

/-- ALL PURE OPERATIONS -/
theorem pure_sound {P : Program} {w : World} {ρ : Env} {F : Fr} {a : Act} {o : Oper} {v : AV} (hF : FRel ρ F a) (h : pureOp P F o.op = some (true, v)) :
    ∃ cv, (execOp a.eval o).run P w = .ok (.value cv) w ∧ VR ρ v cv := by
  have E := fun x => ev_sound hF x
  have wrap : ∀ {s : Sem Value} {v : AV}, (∃ cv, s.run P w = .ok cv w ∧ VR ρ v cv) → ∃ cv, (do pure (Next.value (← s)) : Sem Next).run P w = .ok (.value cv) w ∧ VR ρ v cv := by
    rintro s v ⟨cv, h1, h2⟩
    exact ⟨cv, by simp [h1], h2⟩
  obtain ⟨dst, op, type, pos, after, guard⟩ := o
  simp only at h
  unfold pureOp at h
  unfold execOp
  split at h
  · simp at h; subst h; exact ⟨_, rfl, E _⟩
  · simp at h; subst h; exact ⟨_, rfl, E _⟩
  · have := pickAV_sound (P := P) (w := w) (E _) (E _) (E _) h
    obtain ⟨cv, h1, h2⟩ := this
    refine ⟨cv, ?_, h2⟩
    simp only [Sem.run_bind, Sem.run_pure] at h1 ⊢
    generalize Sem.run P (asBool _) w = r at h1 ⊢
    cases r with
    | ok b w' => simp only [Result.andThen_ok] at h1 ⊢; injection h1 with h1 h3; rw [h1, h3]
    | halt x w' => simp at h1
  · rename_i x
    have hx := E x
    unfold nilCheckAV at h
    split at h
    · rename_i r off he
      simp at h; subst h
      rw [he] at hx
      have hx' := hx
      simp only [VR] at hx
      obtain ⟨a', ha, _⟩ := hx.add
      refine ⟨a.eval x, ?_, hx'⟩
      dsimp only
      rw [ha]
      rfl
    · rename_i f c he
      simp at h; subst h
      rw [he] at hx
      have hx' := hx
      simp only [VR] at hx
      obtain ⟨cs, ha, _⟩ := hx
      refine ⟨a.eval x, ?_, hx'⟩
      dsimp only
      rw [ha]
      rfl
    · rename_i m r off n he
      simp at h; subst h
      rw [he] at hx
      have hx' := hx
      simp only [VR] at hx
      obtain ⟨ca, cap, ha, _⟩ := hx
      refine ⟨a.eval x, ?_, hx'⟩
      dsimp only
      rw [ha]
      rfl
    · simp at h
  · rename_i op' t x y ty
    obtain ⟨cv, h1, h2⟩ := binAV_sound (w := w) (E x) (E y) h
    have hg := binAV_guard (w := w) (ox := x) (oy := y) (E x) (E y) h
    exact wrap ⟨cv, by simp only [Sem.run_bind, hg, Result.andThen_ok, h1], h2⟩
  · exact wrap (unAV_sound (E _) h)
  · exact wrap (convAV_sound (E _) h)
  · exact wrap (fieldAV_sound (E _) h)
  · exact wrap (indexAV_sound (E _) (E _) h)
  · rename_i t x lo hi
    refine wrap (sliceAV_sound (E x) ?_ ?_ ?_ ?_ h)
    · intro v hv; cases lo with | none => simp at hv | some l => simp at hv; subst hv; exact ⟨_, rfl, E l⟩
    · intro hv; cases lo with | none => rfl | some l => simp at hv
    · intro v hv; cases hi with | none => simp at hv | some l => simp at hv; subst hv; exact ⟨_, rfl, E l⟩
    · intro hv; cases hi with | none => rfl | some l => simp at hv
  · rename_i t parts
    refine wrap (buildAV_sound (by simp) (fun j i v hj => ?_) h)
    simp only [List.getElem?_map, Option.map_eq_some_iff, Prod.mk.injEq] at hj
    obtain ⟨p, hp, rfl, rfl⟩ := hj
    refine ⟨a.eval p.2, ?_, E _⟩
    simp only [Array.toList_map, List.getElem?_map, hp, Option.map_some]
  · rename_i x i
    split at h
    · rename_i vs he
      split at h
      · rename_i u hu
        simp at h; subst h
        have hx := E x
        rw [he] at hx
        simp only [VR] at hx
        obtain ⟨cs, hc, hr⟩ := hx
        obtain ⟨cv, h1, h2⟩ := VRs_get hr i u hu
        refine wrap ⟨cv, ?_, h2⟩
        rw [hc]
        simp only [Instr.extract]
        have : cs[i]? = some cv := by simpa using h1
        rw [this]; rfl
      · simp at h
    · simp at h
  · rename_i f first cap
    split at h
    · rename_i h0
      simp at h; subst h
      refine wrap ⟨.func (.func f) #[] (cap.map a.eval), ?_, ?_⟩
      · have : first.map a.eval = #[] := by apply Array.ext'; simp; exact Array.size_eq_zero_iff.1 h0
        simp only [Instr.makeFunc, this]; rfl
      · simp only [VR]
        exact ⟨_, rfl, by rw [Array.toList_map]; exact VRs_map _ _ _ fun x _ => E x⟩
    · simp at h
  · rename_i args argTypes
    split at h
    · rename_i x t hx ht
      obtain rfl : args = #[x] := Array.toList_inj.1 (by simpa using hx)
      obtain rfl : argTypes = #[t] := Array.toList_inj.1 (by simpa using ht)
      obtain ⟨cv, h1, h2⟩ := lenAV_sound (w := w) (ty := type) (E x) h
      refine ⟨cv, ?_, h2⟩
      simp [resolve, invoke, builtin, h1]
    · simp at h
  · rename_i args argTypes
    split at h
    · rename_i x y hx
      obtain rfl : args = #[x, y] := Array.toList_inj.1 (by simpa using hx)
      obtain ⟨cv, h1, h2⟩ := maxAV_sound (P := P) (w := w) argTypes type (E x) (E y) h
      refine ⟨cv, ?_, h2⟩
      simp [resolve, invoke, builtin, h1]
    · simp at h
  · rename_i args argTypes
    split at h
    · rename_i x y hx
      obtain rfl : args = #[x, y] := Array.toList_inj.1 (by simpa using hx)
      obtain ⟨cv, h1, h2⟩ := minAV_sound (P := P) (w := w) argTypes type (E x) (E y) h
      refine ⟨cv, ?_, h2⟩
      simp [resolve, invoke, builtin, h1]
    · simp at h
  · simp at h

end Go.Am
