/-
  The reading operations of the abstract machine, against the model's.
-/
import Derived.Test.YtopenjkaifbnmaaAmBuild
import Derived.Laws.BytesArg
namespace Go.Am
open Go.RowKit

section
variable {C : Ctx} {ρ : Env} {H : Hp} {w : World}

theorem cell_at (hH : HRel C ρ H w) {r : Ref} {cs : List AV} (hc : cellsAt C H r = some cs) {off : Nat} {a : Addr} (hp : PtrR ρ r off (.pointer (some a))) {k : Nat} {v : AV}
    (hv : cs[off + k]? = some v) : ∃ cv, w.cell? (a.add k) = some cv ∧ VR ρ v cv := by
  cases r with
  | rw i =>
    simp only [cellsAt] at hc
    split at hc
    · rename_i b hb
      simp at hc; subst hc
      obtain ⟨e, he, ha⟩ := hp
      simp at ha; subst ha
      have hl := hH.live i b hb
      rw [he] at hl
      obtain ⟨_, cs, ty, fz, hw, hs, hle, hcell, _⟩ := hl
      obtain ⟨cv, h1, h2⟩ := hcell _ v hv
      refine ⟨cv, ?_, h2⟩
      rw [add_mk]
      simp [World.cell?, hw, h1]
    · simp at hc
  | ro i =>
    simp only [cellsAt, Option.some.injEq] at hc
    subst hc
    obtain ⟨b, d, hr, ha⟩ := hp
    simp at ha; subst ha
    obtain ⟨b', d', cv, hr', _, h1, h2⟩ := hH.ro i _ v hv
    rw [hr] at hr'
    simp at hr'
    obtain ⟨rfl, rfl⟩ := hr'
    refine ⟨cv, ?_, VR.mono (ρ := ⟨[], ρ.ro⟩) (ρ' := ρ) ⟨fun j x hx => by simp at hx, rfl⟩ v cv h2⟩
    rw [add_mk, Nat.add_assoc]
    exact h1

/-- n cells in a row -/
theorem cells_at (hH : HRel C ρ H w) {r : Ref} {cs : List AV} (hc : cellsAt C H r = some cs) {off : Nat} {a : Addr} {n : Nat} (hp : n = 0 ∨ PtrR ρ r off (.pointer (some a)))
    (hn : off + n ≤ cs.length) : ∃ vs : List Value, vs.length = n ∧ (loadCells a n).run C.P w = .ok vs.toArray w ∧ VRs ρ ((cs.drop off).take n) vs ∧ ∀ j v, vs[j]? = some v → w.cell? (a.add j) = some v := by
  have hf : ∀ j, j < n → ∃ cv, w.cell? (a.add j) = some cv ∧ VR ρ (cs.getD (off + j) .undef) cv := fun j hj => by
    have hlt : off + j < cs.length := by omega
    refine cell_at hH hc (hp.resolve_left (by omega)) ?_
    simp [List.getD, hlt]
  refine ⟨(List.range n).map fun j => (w.cell? (a.add j)).getD undef, by simp, ?_, ?_, ?_⟩
  · rw [run_loadCells w a n (fun j => (w.cell? (a.add j)).getD undef) fun j hj => by obtain ⟨cv, h1, _⟩ := hf j hj; simp [h1]]
  · refine VRs_of (by simp; omega) fun i x hx => ?_
    rw [List.getElem?_take] at hx
    split at hx
    · rename_i hi
      rw [List.getElem?_drop] at hx
      obtain ⟨cv, h1, h2⟩ := hf i hi
      refine ⟨cv, by simp [hi, h1], ?_⟩
      simpa [List.getD, hx] using h2
    · simp at hx
  · intro j v hv
    by_cases hj : j < n
    · obtain ⟨cv, h1, _⟩ := hf j hj
      simp [hj, h1] at hv
      rw [h1, hv]
    · simp [hj] at hv

theorem loadVar_sound (hH : HRel C ρ H w) {r : Ref} {cs : List AV} (hc : cellsAt C H r = some cs) {off : Nat} {a : Addr} (hp : PtrR ρ r off (.pointer (some a))) {t : TypeId} {v : AV}
    (h : partA C.P t cs off = some (true, v)) : ∃ cv, (loadVar t a).run C.P w = .ok cv w ∧ VR ρ v cv := by
  have one : ∀ {d v}, C.P.underlying t = some d → aggD d = false → cs[off]? = some v → ∃ cv, (loadVar t a).run C.P w = .ok cv w ∧ VR ρ v cv := by
    intro d v hd hb hv
    obtain ⟨cv, h1, h2⟩ := cell_at hH hc hp (k := 0) (by simpa using hv)
    refine ⟨cv, ?_, h2⟩
    have e : a.add 0 = a := by simp [Addr.add]
    rw [e] at h1
    unfold loadVar
    simp only [Sem.run_bind, isAgg_of hd, Result.andThen_ok, hb, Bool.false_eq_true, if_false, run_load, h1]
  have many : ∀ {d z}, C.P.underlying t = some d → aggD d = true → sizeT C.P t = some z → off + z ≤ cs.length →
      ∃ cv, (loadVar t a).run C.P w = .ok cv w ∧ VR ρ (.agg ((cs.drop off).take z)) cv := by
    intro d z hd hb hz hl
    obtain ⟨vs, _, h1, h2, _⟩ := cells_at hH hc (.inr hp) hl
    refine ⟨.agg vs.toArray, ?_, by simp only [VR]; exact ⟨_, rfl, by simpa using h2⟩⟩
    unfold loadVar
    simp only [Sem.run_bind, isAgg_of hd, Result.andThen_ok, hb, if_true, run_sizeOf' hz, h1, Sem.run_pure]
  unfold partA at h
  split at h
  · rename_i k hd
    simp only [Option.some.injEq, Prod.mk.injEq] at h
    obtain ⟨h1, rfl⟩ := h
    exact one hd rfl (isI_some h1)
  · rename_i hd
    simp only [Option.some.injEq, Prod.mk.injEq] at h
    obtain ⟨h1, rfl⟩ := h
    exact one hd rfl (isB_some h1)
  · rename_i fs hd
    split at h
    · rename_i z hz
      simp only [Option.some.injEq, Prod.mk.injEq, decide_eq_true_eq] at h
      obtain ⟨h1, rfl⟩ := h
      exact many hd rfl hz h1
    · simp at h
  · rename_i n e hd
    split at h
    · rename_i z hz
      simp only [Option.some.injEq, Prod.mk.injEq, decide_eq_true_eq] at h
      obtain ⟨h1, rfl⟩ := h
      exact many hd rfl hz h1
    · simp at h
  · rename_i d h1 h2 h3 h4 hd
    split at h
    · rename_i v' hv
      simp only [Option.some.injEq, Prod.mk.injEq, true_and] at h
      subst h
      refine one hd ?_ hv
      cases d <;> first | rfl | exact absurd rfl (h3 _) | exact absurd rfl (h4 _ _)
    · simp at h
  · simp at h

theorem leaf_ok {l : Lf} {cs : List AV} {off : Nat} (h : leafOk l cs off = true) : ∃ v, cs[off]? = some v ∧ ∀ cv, VR ρ v cv → VR ρ (leafA l cs off) cv := by
  cases l with
  | int k => exact ⟨_, isI_some h, fun cv h => h⟩
  | bool => exact ⟨_, isB_some h, fun cv h => h⟩
  | str =>
    simp only [leafOk, isStr] at h
    split at h
    · rename_i s hc
      exact ⟨_, hc, fun cv hv => by simpa [leafA, getStr, hc] using hv⟩
    · simp at h
  | sl =>
    simp only [leafOk, isRS] at h
    split at h
    · rename_i hc
      refine ⟨_, hc, fun cv hv => ?_⟩
      simp only [VR] at hv
      subst hv
      simp only [leafA, roK, roO, roN, hc, VR]
      exact ⟨none, 0, rfl, Nat.le_refl _, .inl ⟨rfl, rfl, rfl⟩⟩
    · rename_i mb k o n hc
      refine ⟨_, hc, fun cv hv => ?_⟩
      simp only [VR] at hv
      simp only [leafA, roK, roO, roN, hc, VR]
      obtain ⟨ca, cap, h1, h2, h3⟩ := hv
      refine ⟨ca, cap, h1, h2, ?_⟩
      rcases h3 with ⟨h3, h4, _⟩ | h3
      · exact .inl ⟨h3, h4, rfl⟩
      · exact .inr h3
    · simp at h

theorem leafs_ok {cs : List AV} : ∀ {ls : List Lf} {off : Nat}, leafsOk cs off ls = true → (ls = [] ∨ off + ls.length ≤ cs.length) ∧ (leafsA cs off ls).length = ls.length ∧
    ∀ vs, VRs ρ ((cs.drop off).take ls.length) vs → VRs ρ (leafsA cs off ls) vs
  | [], off, _ => ⟨.inl rfl, rfl, fun vs h => by simpa [leafsA] using h⟩
  | l :: ls, off, h => by
    simp only [leafsOk, Bool.and_eq_true] at h
    obtain ⟨v, h1, h2⟩ := leaf_ok (ρ := ρ) h.1
    obtain ⟨h3, h4, h5⟩ := leafs_ok (cs := cs) (ls := ls) (off := off + 1) h.2
    have hlt : off < cs.length := (List.getElem?_eq_some_iff.1 h1).1
    refine ⟨.inr ?_, by simp [leafsA, h4], fun vs hv => ?_⟩
    · rcases h3 with rfl | h3
      · simp; omega
      · simp; omega
    · have e : (cs.drop off).take (l :: ls).length = v :: (cs.drop (off + 1)).take ls.length := by
        have : cs.drop off = v :: cs.drop (off + 1) := by
          rw [List.drop_eq_getElem_cons hlt]
          have := (List.getElem?_eq_some_iff.1 h1).2
          rw [this]
        rw [this]; simp
      rw [e] at hv
      simp only [VRs] at hv
      obtain ⟨x, xs, rfl, g1, g2⟩ := hv
      simp only [leafsA, VRs]
      exact ⟨x, xs, rfl, h2 x g1, h5 xs g2⟩

theorem loadVarL_sound (hH : HRel C ρ H w) {r : Ref} {cs : List AV} (hc : cellsAt C H r = some cs) {off : Nat} {a : Addr} (hp : PtrR ρ r off (.pointer (some a))) {t : TypeId} {v : AV}
    (h : partL C.P r t cs off = some (true, v)) : ∃ cv, (loadVar t a).run C.P w = .ok cv w ∧ VR ρ v cv := by
  cases r with
  | rw i => exact loadVar_sound hH hc hp h
  | ro i =>
    have one : ∀ {d l}, C.P.underlying t = some d → aggD d = false → leafOk l cs off = true → ∃ cv, (loadVar t a).run C.P w = .ok cv w ∧ VR ρ (leafA l cs off) cv := by
      intro d l hd hb hl
      obtain ⟨v, hv, hw⟩ := leaf_ok (ρ := ρ) hl
      obtain ⟨cv, h1, h2⟩ := cell_at hH hc hp (k := 0) (by simpa using hv)
      refine ⟨cv, ?_, hw cv h2⟩
      have e : a.add 0 = a := by simp [Addr.add]
      rw [e] at h1
      unfold loadVar
      simp only [Sem.run_bind, isAgg_of hd, Result.andThen_ok, hb, Bool.false_eq_true, if_false, run_load, h1]
    have many : ∀ {d z ls}, C.P.underlying t = some d → aggD d = true → sizeT C.P t = some z → (Nat.beq ls.length z && leafsOk cs off ls) = true →
        ∃ cv, (loadVar t a).run C.P w = .ok cv w ∧ VR ρ (.agg (leafsA cs off ls)) cv := by
      intro d z ls hd hb hz hl
      simp only [Bool.and_eq_true] at hl
      have hz' : ls.length = z := Nat.eq_of_beq_eq_true hl.1
      subst hz'
      obtain ⟨h3, h4, h5⟩ := leafs_ok (ρ := ρ) hl.2
      rcases h3 with rfl | h3
      · refine ⟨.agg #[], ?_, by simp only [VR]; exact ⟨_, rfl, by simp [leafsA, VRs]⟩⟩
        unfold loadVar
        simp only [Sem.run_bind, isAgg_of hd, Result.andThen_ok, hb, if_true, run_sizeOf' hz, Sem.run_pure]
        simp [loadCells, loadCellsFrom]
      · obtain ⟨vs, _, h1, h2, _⟩ := cells_at hH hc (.inr hp) h3
        refine ⟨.agg vs.toArray, ?_, by simp only [VR]; exact ⟨_, rfl, by simpa using h5 vs h2⟩⟩
        unfold loadVar
        simp only [Sem.run_bind, isAgg_of hd, Result.andThen_ok, hb, if_true, run_sizeOf' hz, h1, Sem.run_pure]
    simp only [partL] at h
    unfold partR at h
    split at h
    · rename_i k hd
      simp only [Option.some.injEq, Prod.mk.injEq] at h
      obtain ⟨h1, rfl⟩ := h
      exact one (l := .int k) hd rfl h1
    · rename_i hd
      simp only [Option.some.injEq, Prod.mk.injEq] at h
      obtain ⟨h1, rfl⟩ := h
      exact one (l := .bool) hd rfl h1
    · rename_i hd
      simp only [Option.some.injEq, Prod.mk.injEq] at h
      obtain ⟨h1, rfl⟩ := h
      exact one (l := .str) hd rfl h1
    · rename_i e hd
      simp only [Option.some.injEq, Prod.mk.injEq] at h
      obtain ⟨h1, rfl⟩ := h
      exact one (l := .sl) hd rfl h1
    · rename_i fs hd
      split at h
      · rename_i z ls hz hls
        simp only [Option.some.injEq, Prod.mk.injEq] at h
        obtain ⟨h1, rfl⟩ := h
        exact many hd rfl hz h1
      · simp at h
    · rename_i n e hd
      split at h
      · rename_i z ls hz hls
        simp only [Option.some.injEq, Prod.mk.injEq] at h
        obtain ⟨h1, rfl⟩ := h
        exact many hd rfl hz h1
      · simp at h
    · simp at h

theorem isBytes_some {P : Program} {t : TypeId} (h : isBytes P t = true) : ∃ e, P.underlying t = some (.slice e) ∧ P.underlying e = some (.int .u8) := by
  unfold isBytes at h
  split at h
  · rename_i e he
    split at h
    · rename_i hu; exact ⟨e, he, hu⟩
    · simp at h
  · simp at h
theorem isStringT_some {P : Program} {t : TypeId} (h : isStringT P t = true) : P.underlying t = some .string := by
  unfold isStringT at h
  split at h
  · assumption
  · simp at h

/-- bytes, as numbers -/
theorem nums_of {cs : List AV} {vs : List Value} (hv : VRs ρ cs vs) (h : cs.all isU8 = true) : ∃ ns : List Int, vs = ns.map (Value.int .u8) ∧ cs.map toByte = ns.map fun n => UInt8.ofNat n.toNat := by
  induction cs generalizing vs with
  | nil => simp only [VRs] at hv; subst hv; exact ⟨[], rfl, rfl⟩
  | cons c cs ih =>
    simp only [VRs] at hv
    obtain ⟨v, vs', rfl, h1, h2⟩ := hv
    simp only [List.all_cons, Bool.and_eq_true] at h
    obtain ⟨ns, rfl, hb⟩ := ih h2 h.2
    have hc := h.1
    unfold isU8 at hc
    split at hc
    · rename_i n
      simp only [VR] at h1; subst h1
      exact ⟨n :: ns, rfl, by simp [toByte, hb]⟩
    · simp at hc

theorem slice_ptr {mb : Bool} {r : Ref} {off len : Nat} {v : Value} (h : SliceR ρ mb r off len v) : ∃ ca cap, v = .slice ca len cap ∧ (len = 0 ∨ ∃ a, ca = some a ∧ PtrR ρ r off (.pointer (some a))) := by
  obtain ⟨ca, cap, rfl, hl, hc⟩ := h
  refine ⟨ca, cap, rfl, ?_⟩
  rcases hc with ⟨_, h0, _⟩ | ⟨_, h0⟩ | hc
  · exact .inl (by omega)
  · exact .inl (by omega)
  · refine .inr ?_
    cases r with
    | rw i => obtain ⟨e, he, rfl, _⟩ := hc; exact ⟨_, rfl, e, he, rfl⟩
    | ro i => obtain ⟨b, d, he, rfl⟩ := hc; exact ⟨_, rfl, b, d, he, rfl⟩

theorem read_sound (hH : HRel C ρ H w) {F : Fr} {a : Act} (hF : FRel ρ F a) {o : Oper} {v : AV} (h : readOp C F H o.op = some (true, v)) :
    ∃ cv, (execOp a.eval o).run C.P w = .ok (.value cv) w ∧ VR ρ v cv := by
  have E := fun x => ev_sound hF x
  have wrap : ∀ {s : Sem Value} {v : AV}, (∃ cv, s.run C.P w = .ok cv w ∧ VR ρ v cv) → ∃ cv, (do pure (Next.value (← s)) : Sem Next).run C.P w = .ok (.value cv) w ∧ VR ρ v cv := by
    rintro s v ⟨cv, h1, h2⟩
    exact ⟨cv, by simp [h1], h2⟩
  obtain ⟨dst, op, type, pos, after, guard⟩ := o
  simp only at h
  unfold readOp at h
  unfold execOp
  split at h
  · rename_i t x
    split at h
    · rename_i r off he
      unfold loadA at h
      split at h
      · rename_i cs hcs
        have hx := E x
        rw [he] at hx
        simp only [VR] at hx
        have hx2 := hx
        obtain ⟨ad, ha, _⟩ := hx.add
        rw [ha] at hx2
        obtain ⟨cv, h1, h2⟩ := loadVarL_sound hH hcs hx2 h
        refine wrap ⟨cv, ?_, h2⟩
        rw [ha]
        simp only [Instr.loadAt, Instr.sureAddr, Sem.run_bind, Sem.run_pure, Result.andThen_ok, h1]
      · simp at h
    · simp at h
  · rename_i t x f
    split at h
    · rename_i fs cs ht he
      split at h
      · rename_i fd hfd
        have hx := E x
        rw [he] at hx
        simp only [VR] at hx
        obtain ⟨vs, hvs, hr⟩ := hx
        obtain ⟨cv, h1, h2⟩ := part_sound (w := w) hr h
        refine wrap ⟨cv, ?_, h2⟩
        rw [hvs]
        simp only [Instr.field, Sem.run_bind, run_underlying ht, Result.andThen_ok, hfd, asAgg, Sem.run_pure, h1]
      · simp at h
    · simp at h
  · rename_i t x i
    split at h
    · rename_i len e cs k n ht he hi
      split at h
      · rename_i z hz
        split at h
        · rename_i c v' hp
          simp only [Option.some.injEq, Prod.mk.injEq, Bool.and_eq_true, decide_eq_true_eq] at h
          obtain ⟨⟨h0, h1, rfl⟩, rfl⟩ := h
          have hx := E x
          rw [he] at hx
          have hi' := E i
          rw [hi] at hi'
          simp only [VR] at hx hi'
          obtain ⟨vs, hvs, hr⟩ := hx
          rw [mulz_eq] at hp
          obtain ⟨cv, g1, g2⟩ := part_sound (w := w) hr hp
          refine wrap ⟨cv, ?_, g2⟩
          rw [hvs, hi']
          simp only [Instr.index, asIntOf, Sem.run_bind, Sem.run_pure, run_underlying ht, Result.andThen_ok, Sem.run_ite, run_sizeOf' hz, g1]
          rw [if_pos ⟨h0, h1⟩]
        · simp at h
      · simp at h
    · simp at h
  · rename_i s d x
    split at h
    · rename_i hb he
      simp only [Bool.and_eq_true] at hb
      obtain ⟨e, hs, hu⟩ := isBytes_some hb.1
      have hd := isStringT_some hb.2
      simp at h; subst h
      have hx := E x
      rw [he] at hx
      simp only [VR] at hx
      refine wrap ⟨.string ByteArray.empty, ?_, by simp only [VR]; rfl⟩
      rw [hx]
      exact run_convert_bytes_nil w s e hs hu 0 0 d hd
    · rename_i mb r off n hb he
      simp only [Bool.and_eq_true] at hb
      obtain ⟨e, hs, hu⟩ := isBytes_some hb.1
      have hd := isStringT_some hb.2
      split at h
      · rename_i cs hcs
        unfold strOf at h
        simp only [Option.some.injEq, Prod.mk.injEq, Bool.and_eq_true, decide_eq_true_eq] at h
        obtain ⟨⟨hl, hall⟩, rfl⟩ := h
        have hx := E x
        rw [he] at hx
        simp only [VR] at hx
        obtain ⟨ca, cap, hcx, hp⟩ := slice_ptr hx
        by_cases hn : n = 0
        · subst hn
          refine wrap ⟨.string ByteArray.empty, ?_, by simp only [VR]; simp; rfl⟩
          rw [hcx]
          cases ca with
          | none => exact run_convert_bytes_nil w s e hs hu 0 cap d hd
          | some ad =>
            rw [run_convert_bytes_string w s d e _ 0 cap hs hu hd, run_bytesToString w ad 0 cap [] (by simp [loadCells, loadCellsFrom])]
            rfl
        · obtain ⟨ad, rfl, hpt⟩ := hp.resolve_left hn
          obtain ⟨vs, hvl, h1, h2, _⟩ := cells_at hH hcs (.inr hpt) hl
          obtain ⟨ns, rfl, hb2⟩ := nums_of h2 hall
          refine wrap ⟨.string ⟨(ns.map fun n => UInt8.ofNat n.toNat).toArray⟩, ?_, by simp only [VR]; rw [hb2]⟩
          rw [hcx, run_convert_bytes_string w s d e _ n cap hs hu hd, run_bytesToString w ad n cap ns h1, foldl_push_bytes]
          simp [ByteArray.empty, ByteArray.emptyWithCapacity]
          rfl
      · simp at h
    · simp at h
  · simp at h
end

end Go.Am
