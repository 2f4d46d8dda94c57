/-
  All writing operations of the abstract machine.
-/
import Derived.Test.YtopenjkaifbnmaaAmWrite
namespace Go.Am
open Go.RowKit

section
variable {C : Ctx} {ρ : Env} {H : Hp} {w : World}

def WOk (C : Ctx) (ρ : Env) (H : Hp) (w : World) (s : Sem Next) (v : AV) (h : Hop) : Prop :=
  ∃ nx cv w' ρ', s.run C.P w = .ok nx w' ∧ (nx = .value cv ∨ (nx = .skip ∧ cv = undef)) ∧ HRel C ρ' (h.act H) w' ∧ VR ρ' v cv ∧ ρ.le ρ' ∧ Frm ρ w ρ' w'

theorem known_of_cell {v : AV} (h : (cellsOf v).all isCell = true) : known v = true := by
  cases v <;> first | rfl | (simp [cellsOf, isCell] at h)

theorem push_at (hH : HRel C ρ H w) (x : Option Ent) : (ρ.push x).rw[H.length]? = some x := by
  show (ρ.rw ++ [x])[H.length]? = _
  rw [← hH.len]; simp

theorem ptr_here (hH : HRel C ρ H w) (e : Ent) : VR (ρ.push (some e)) (.ptr (here H) 0) (.pointer (some ⟨e.blk, 0, none⟩)) := by
  simp only [VR, here]
  exact ⟨e, push_at hH _, rfl⟩

/-- a new block with just these cells -/
theorem new_ok (hH : HRel C ρ H w) (esz : Nat) (cells : List AV) (cs : Array Value) (ty : TypeId) (hv : VRs ρ cells cs.toList) :
    HRel C (ρ.push (some ⟨w.heap.size, cs.size, esz⟩)) (H ++ [some ⟨esz, cells⟩]) (w.alloc (.cells cs ty)) ∧ Frm ρ w (ρ.push (some ⟨w.heap.size, cs.size, esz⟩)) (w.alloc (.cells cs ty)) := by
  have hl := VRs_length hv
  simp only [Array.length_toList] at hl
  refine hH.new ⟨esz, cells⟩ cs ty (0, 0) (by simp only; omega) (fun k v hkv => ?_) (.inl rfl)
  have := VRs_get hv k v hkv
  simpa using this

theorem store_ok (hH : HRel C ρ H w) {i off z : Nat} {x : AV} {cx : Value} {b : Blk} {t : TypeId} {ad : Value} (hx : VR ρ x cx) (ha : VR ρ (.ptr (.rw i) off) ad) (hz : sizeT C.P t = some z) (hi : H[i]? = some (some b))
    (hc : (cellsOf x).all isCell = true) (hs : sizeOfAV x = z) (hfit : off + z ≤ b.cells.length) :
    WOk C ρ H w (do Instr.storeAt t ad cx; pure .skip) (.tup []) (.set i ⟨b.esz, setPart b.cells off x⟩) := by
  simp only [VR] at ha
  obtain ⟨e, he, rfl⟩ := ha
  have hk := known_of_cell hc
  have hcv := cells_VR hk hx
  have hcl := VRs_length hcv
  rw [← sizeOfAV_eq, hs] at hcl
  simp only [Array.length_toList] at hcl
  have hlive := hH.live i b hi
  rw [he] at hlive
  obtain ⟨_, cs, _, _, _, g2, g3, _⟩ := hlive
  have hsz : (cellsOf x).length = z := by rw [← sizeOfAV_eq]; exact hs
  obtain ⟨w', h1, h2, h3⟩ := store_cells hH hi he off (cellsOf x) cx.cells.toList hcv hc (by omega) (b' := ⟨b.esz, setPart b.cells off x⟩) rfl (by simp only [length_setPart b.cells off x (by omega)]; omega) (fun k v hv => by
    simp only [get_setPart b.cells off x (by omega), hs] at hv
    split at hv
    · rename_i hr; exact .inl ⟨hr.1, by omega, hv⟩
    · rename_i hr; exact .inr ⟨by omega, hv⟩)
  refine ⟨.skip, undef, w', ρ, ?_, .inr ⟨rfl, rfl⟩, h2, by simp only [VR]; exact ⟨#[], rfl, by simp [VRs]⟩, Env.le_refl ρ, h3⟩
  simp only [Instr.storeAt, Instr.sureAddr, Sem.run_bind, Sem.run_pure, Result.andThen_ok, storeVar, run_sizeOf' hz, Sem.run_ite]
  rw [if_neg (by simp [hcl])]
  simp [h1]

theorem alloc_ok (hH : HRel C ρ H w) {e : TypeId} {z : AV} (hz : zeroOf C.P e = some z) :
    WOk C ρ H w (do pure (.value (← Instr.alloc e true (.tuple #[])))) (.ptr (here H) 0) (.new ⟨1, cellsOf z⟩) := by
  obtain ⟨i, v, hi, hv, rfl⟩ := zeroOf_some hz
  have hc : VRs ρ (cellsOf (ofValue v)) v.cells.toList := by
    by_cases hk : known (ofValue v) = true
    · exact cells_VR hk (VR_ofValue ρ v)
    · have hu : ofValue v = .undef := by
        cases h : ofValue v <;> first | rfl | (simp [h, known] at hk)
      rw [hu]
      have hcells : v.cells = #[v] := by
        cases v <;> first | rfl | (simp [ofValue] at hu)
      rw [hcells]
      simp only [cellsOf, VRs, VR]
      exact ⟨v, [], rfl, trivial, rfl⟩
  obtain ⟨h1, h2⟩ := new_ok hH 1 _ v.cells e hc
  refine ⟨.value _, _, _, _, ?_, .inl rfl, h1, ptr_here hH _, Env.le_push ρ _, h2⟩
  simp only [Instr.alloc, Sem.run_bind, run_zeroValue' hi hv, Result.andThen_ok, newVar, newRow, run_newObj, Sem.run_pure]
  rfl

theorem box_ok (hH : HRel C ρ H w) {e : TypeId} {x : AV} {cx : Value} (hx : VR ρ x cx) (hk : known x = true) :
    WOk C ρ H w (do pure (.value (← Instr.box e cx))) (.ptr (here H) 0) (.new ⟨1, cellsOf x⟩) := by
  obtain ⟨h1, h2⟩ := new_ok hH 1 _ cx.cells e (cells_VR hk hx)
  refine ⟨.value _, _, _, _, ?_, .inl rfl, h1, ptr_here hH _, Env.le_push ρ _, h2⟩
  simp only [Instr.box, Sem.run_bind, newVar, newRow, run_newObj, Sem.run_pure, Result.andThen_ok]
  rfl

theorem flat_rep_get {α : Type} (l : List α) : ∀ (n k : Nat), k < n * l.length → ((List.replicate n l).flatten)[k]? = l[k % l.length]?
  | 0, k, h => by simp at h
  | n + 1, k, h => by
    rw [List.replicate_succ, List.flatten_cons]
    by_cases hk : k < l.length
    · rw [List.getElem?_append_left hk, Nat.mod_eq_of_lt hk]
    · rw [List.getElem?_append_right (by omega), flat_rep_get l n _ (by rw [Nat.succ_mul] at h; omega)]
      congr 1
      rw [← Nat.mod_eq_sub_mod (by omega)]

theorem flat_rep_length {α : Type} (l : List α) (n : Nat) : ((List.replicate n l).flatten).length = n * l.length := by simp

/-- noughts: so many elements of them, against so many or more -/
theorem zeros_VR (ρ : Env) (z : Value) (n m : Nat) (hnm : n ≤ m) (hz : z.cells.size = (cellsOf (ofValue z)).length) (hp : m * z.cells.size = 0 ∨ 0 < z.cells.size) :
    ∀ (k : Nat) v, ((List.replicate n (cellsOf (ofValue z))).flatten)[k]? = some v → ∃ cv, ((Array.range (m * z.cells.size)).map fun i => z.cells[i % z.cells.size]!)[k]? = some cv ∧ VR ρ v cv := by
  intro k v hv
  have hk : k < n * (cellsOf (ofValue z)).length := by
    have := (List.getElem?_eq_some_iff.1 hv).1
    rwa [flat_rep_length] at this
  rw [flat_rep_get _ _ _ hk] at hv
  rw [← hz] at hk hv
  have hkm : k < m * z.cells.size := Nat.lt_of_lt_of_le hk (Nat.mul_le_mul_right _ hnm)
  have hpos : 0 < z.cells.size := by
    rcases hp with h | h
    · omega
    · exact h
  have hmod : k % z.cells.size < z.cells.size := Nat.mod_lt _ hpos
  have hcell : VR ρ v z.cells[k % z.cells.size]! := by
    by_cases hu : ∃ cs, z = .agg cs
    · obtain ⟨cs, rfl⟩ := hu
      have hv' : (cs.toList.map ofCell)[k % cs.size]? = some v := hv
      have hm : k % cs.size < cs.size := hmod
      simp [hm] at hv'
      subst hv'
      show VR ρ _ cs[k % cs.size]!
      rw [getElem!_pos cs _ hm]
      exact VR_ofCell ρ _
    · have e1 : z.cells = #[z] := by cases z <;> first | rfl | exact absurd ⟨_, rfl⟩ hu
      have e2 : cellsOf (ofValue z) = [ofValue z] := by
        cases z <;> first | exact absurd ⟨_, rfl⟩ hu | (simp only [ofValue]; unfold ofCell; split <;> rfl)
      rw [e1] at hv hmod ⊢
      rw [e2] at hv
      have h0 : k % (#[z] : Array Value).size = 0 := by simp [Nat.mod_one]
      rw [h0] at hv ⊢
      simp at hv
      subst hv
      exact VR_ofValue ρ z
  exact ⟨_, by simp [hkm], hcell⟩

theorem slice_here (hH : HRel C ρ H w) (e : Ent) (mb : Bool) (len cap : Nat) (hl : len ≤ cap) (hc : cap * e.esz ≤ e.size) : VR (ρ.push (some e)) (.slice mb (here H) 0 len) (.slice (some ⟨e.blk, 0, none⟩) len cap) := by
  simp only [VR, here]
  exact ⟨_, cap, rfl, hl, .inr (.inr ⟨e, push_at hH _, rfl, fun _ => hc⟩)⟩

theorem buildSlice_ok (hH : HRel C ρ H w) {t e : TypeId} {n z : Nat} {zv : AV} {parts : List (Nat × AV)} {cparts : Array (Nat × Value)} {cs : List AV} (ht : C.P.underlying t = some (.slice e)) (hz : sizeT C.P e = some z) (hzv : zeroOf C.P e = some zv)
    (hf : fillAV (fun i => some (i * z, z)) ((List.replicate n (cellsOf zv)).flatten) parts = some (true, cs)) (hsmall : n * z ≤ 16777216) (hlen : (cellsOf zv).length = z)
    (hpl : cparts.toList.length = parts.length) (hp : ∀ (j : Nat) i v, parts[j]? = some (i, v) → ∃ cv, cparts.toList[j]? = some (i, cv) ∧ VR ρ v cv) :
    WOk C ρ H w (do pure (.value (← Instr.buildSlice t n cparts))) (.slice false (here H) 0 n) (.new ⟨z, cs⟩) := by
  obtain ⟨i, v, hi, hv, rfl⟩ := zeroOf_some hzv
  have hcz : v.cells.size = (cellsOf (ofValue v)).length := by
    by_cases hu : ∃ cs, v = .agg cs
    · obtain ⟨cs, rfl⟩ := hu; simp [Value.cells, ofValue, cellsOf]
    · have e1 : v.cells = #[v] := by cases v <;> first | rfl | exact absurd ⟨_, rfl⟩ hu
      have e2 : cellsOf (ofValue v) = [ofValue v] := by
        cases v <;> first | exact absurd ⟨_, rfl⟩ hu | (simp only [ofValue]; unfold ofCell; split <;> rfl)
      rw [e1, e2]; rfl
  let zs : Array Value := if n * z = 0 then #[] else v.cells
  have hstart : VRs ρ ((List.replicate n (cellsOf (ofValue v))).flatten) ((Array.range (n * z)).map (zs[· % zs.size]!)).toList := by
    refine VRs_of (by simp [hlen]) fun k x hx => ?_
    by_cases h0 : n * z = 0
    · have := (List.getElem?_eq_some_iff.1 hx).1
      rw [flat_rep_length, hlen] at this; omega
    · have ez : zs = v.cells := by simp [zs, h0]
      have hs : v.cells.size = z := by omega
      have := zeros_VR ρ v n n (Nat.le_refl _) hcz (.inr (by rcases Nat.eq_zero_or_pos v.cells.size with h | h; · rw [hs] at h; rw [h] at h0; simp at h0
                                                             · exact h)) k x hx
      rw [hs] at this
      rw [ez, hs]
      obtain ⟨cv, q1, q2⟩ := this
      exact ⟨cv, by rw [Array.getElem?_toList]; exact q1, q2⟩
  obtain ⟨cr, h1, h2, h3⟩ := fillAV_sound (ρ := ρ) _ parts cparts.toList _ _ cs hf hstart hpl hp
  obtain ⟨g1, g2⟩ := new_ok hH z cs cr e h2
  have hsz : cr.size = n * z := by rw [h3]; simp
  refine ⟨.value (.slice (some ⟨w.heap.size, 0, none⟩) n n), _, _, _, ?_, .inl rfl, g1, slice_here hH _ false n n (Nat.le_refl _) (by simp only; omega), Env.le_push ρ _, g2⟩
  simp only [Instr.buildSlice, Sem.run_bind, run_underlying ht, Result.andThen_ok, run_sizeOf' hz, Sem.run_ite]
  rw [if_neg (by omega)]
  by_cases hz0 : n * z = 0
  · have ez : zs = #[] := by simp [zs, hz0]
    rw [ez] at h1
    rw [if_pos hz0]
    simp only [Sem.run_pure, Sem.run_bind, Result.andThen_ok, h1, newRow, run_newObj]
    rfl
  · have ez : zs = v.cells := by simp [zs, hz0]
    rw [ez] at h1
    rw [if_neg hz0]
    simp only [Sem.run_pure, Sem.run_bind, run_zeroValue' hi hv, Result.andThen_ok, h1, newRow, run_newObj]
    rfl

theorem makeSlice_ok (hH : HRel C ρ H w) {t e : TypeId} {i : TypeInfo} {k k' : IntKind} {l c : Int} {zv : AV} (ht : C.P.underlying t = some (.slice e)) (hi : C.P.info? e = some i) (hzv : zeroOf C.P e = some zv)
    (h0 : 0 ≤ l) (h1 : l ≤ c) (hb : c * i.bytes ≤ 140737488355328) (hc : c ≤ 140737488355328) (hlen : (cellsOf zv).length = i.size) (hpos : 1 ≤ i.size) :
    WOk C ρ H w (do pure (.value (← Instr.makeSlice t (.int k l) (.int k' c)))) (.slice false (here H) 0 l.toNat) (.new ⟨i.size, (List.replicate l.toNat (cellsOf zv)).flatten⟩) := by
  obtain ⟨i', v, hi', hv, rfl⟩ := zeroOf_some hzv
  obtain rfl : i' = i := by rw [hi] at hi'; simpa using hi'.symm
  have hcz : v.cells.size = (cellsOf (ofValue v)).length := by
    by_cases hu : ∃ cs, v = .agg cs
    · obtain ⟨cs, rfl⟩ := hu; simp [Value.cells, ofValue, cellsOf]
    · have e1 : v.cells = #[v] := by cases v <;> first | rfl | exact absurd ⟨_, rfl⟩ hu
      have e2 : cellsOf (ofValue v) = [ofValue v] := by
        cases v <;> first | exact absurd ⟨_, rfl⟩ hu | (simp only [ofValue]; unfold ofCell; split <;> rfl)
      rw [e1, e2]; rfl
  have hs : v.cells.size = i'.size := by omega
  let zs : Array Value := if c.toNat * i'.size = 0 then #[] else v.cells
  let cs : Array Value := (Array.range (c.toNat * i'.size)).map (zs[· % zs.size]!)
  have hcs : cs.size = c.toNat * i'.size := by simp [cs]
  have hnew := hH.new ⟨i'.size, (List.replicate l.toNat (cellsOf (ofValue v))).flatten⟩ cs e (0, 0) (by
      rw [hcs]; simp only [flat_rep_length, hlen]; exact Nat.mul_le_mul_right _ (by omega)) (fun j x hx => by
      by_cases hz0 : c.toNat * i'.size = 0
      · have := (List.getElem?_eq_some_iff.1 hx).1
        simp only [flat_rep_length, hlen] at this
        have hh : l.toNat * i'.size ≤ c.toNat * i'.size := Nat.mul_le_mul_right _ (by omega)
        omega
      · have ez : zs = v.cells := by simp [zs, hz0]
        have := zeros_VR ρ v l.toNat c.toNat (by omega) hcz (.inr (by omega)) j x hx
        simp only [cs, ez, hs]
        rw [hs] at this
        exact this) (.inl rfl)
  obtain ⟨g1, g2⟩ := hnew
  refine ⟨.value (.slice (some ⟨w.heap.size, 0, none⟩) l.toNat c.toNat), _, _, _, ?_, .inl rfl, g1, slice_here hH _ false _ _ (by omega) (by simp only; omega), Env.le_push ρ _, g2⟩
  have wl : IntKind.i64.wrap l = l := IntWalk.i64_in l (by omega)
  have wc : IntKind.i64.wrap c = c := IntWalk.i64_in c (by omega)
  have nt : ¬ ((i'.bytes : Int) * c > 2 ^ 48) := by rw [Int.mul_comm]; simp; omega
  have hszT : sizeT C.P e = some i'.size := by simp [sizeT, hi]
  simp only [Instr.makeSlice, Sem.run_bind, run_underlying ht, Result.andThen_ok, asInt, asIntOf, Sem.run_pure, run_typeInfo' hi, wl, wc, Sem.run_ite]
  rw [if_neg (by simp; omega)]
  simp only [run_askRoom, Result.andThen_ok, run_sizeOf' hszT]
  by_cases hz0 : c.toNat * i'.size = 0
  · have ez : zs = #[] := by simp [zs, hz0]
    rw [if_pos hz0]
    simp only [newRow, Sem.run_bind, run_newObj, Sem.run_pure, Result.andThen_ok, cs, ez]
    rfl
  · have ez : zs = v.cells := by simp [zs, hz0]
    rw [if_neg hz0]
    simp only [newRow, Sem.run_bind, run_zeroValue' hi hv, run_newObj, Sem.run_pure, Result.andThen_ok, cs, ez]
    rfl

end
end Go.Am
