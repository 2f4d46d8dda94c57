/-
  append, and a string's bytes.
-/
import Derived.Test.YtopenjkaifbnmaaAmWrites
namespace Go.Am
open Go.RowKit

section
variable {P : Program}

theorem append_grow_run {w : World} {t u ty e : TypeId} {i : TypeInfo} {z : Value} {du : TypeDesc} (ht : P.underlying t = some (.slice e)) (hu : P.underlying u = some du) (hdu : (∃ e', du = .slice e') ∨ du = .string)
    (hi : P.info? e = some i) (hz : i.zero = some z) (base : Option Addr) (sLen sCap : Nat) (x : Value) (n : Nat) (olds news : List Value) (hlen : (Builtin.lenOf x).run P w = .ok n w)
    (hn : ∀ w' : World, w'.heap = w.heap → (Builtin.firstCells i.size n x).run P w' = .ok news.toArray w') (ho : ∀ w' : World, w'.heap = w.heap → (Builtin.firstCells i.size sLen (.slice base sLen sCap)).run P w' = .ok olds.toArray w')
    (hg : sCap < sLen + n) (hfit : Builtin.nextslicecap (sLen + n) sCap * i.bytes ≤ 281474976710656) (hb : 1 ≤ i.bytes) :
    (Builtin.append_ #[t, u] ty #[.slice base sLen sCap, x]).run P w =
      .ok (.slice (some ⟨w.heap.size, 0, none⟩) (sLen + n) (grownCap w (sLen + n) sCap e)) (w.drew.alloc (.cells ((olds ++ news).toArray ++ Builtin.zeroCells z.cells (grownCap w (sLen + n) sCap e - (sLen + n))) e)) := by
  have hng : ¬ (sLen + n ≤ sCap) := by omega
  have h48' : ¬ (281474976710656 < Builtin.nextslicecap (sLen + n) sCap * i.bytes) := by omega
  have hb' : ¬ (i.bytes = 0) := by omega
  have e1 := hn w.drew rfl
  have e2 := ho w.drew rfl
  rcases hdu with ⟨e', rfl⟩ | rfl
  all_goals simp [Builtin.append_, run_underlying ht, run_underlying hu, sizeOf, typeInfo, zeroValue, hi, hz, hlen, hng, h48', hb', Question.forced, e1, e2, newRow, grownCap]
  all_goals (congr 2; apply Array.ext'; simp [List.append_assoc])

theorem append_room_run {w : World} {t u ty e : TypeId} {i : TypeInfo} {du : TypeDesc} (ht : P.underlying t = some (.slice e)) (hu : P.underlying u = some du) (hdu : (∃ e', du = .slice e') ∨ du = .string)
    (hi : P.info? e = some i) (base : Option Addr) (sLen sCap : Nat) (x : Value) (n : Nat) (news : List Value) (hlen : (Builtin.lenOf x).run P w = .ok n w)
    (hn : (Builtin.firstCells i.size n x).run P w = .ok news.toArray w) (hg : sLen + n ≤ sCap) {w' : World}
    (hst : ∀ a, base = some a → (storeCells (a.add (sLen * i.size)) news).run P w = .ok () w') (hnil : base = none → w' = w) :
    (Builtin.append_ #[t, u] ty #[.slice base sLen sCap, x]).run P w = .ok (.slice base (sLen + n) sCap) w' := by
  cases base with
  | none =>
    rw [hnil rfl]
    rcases hdu with ⟨e', rfl⟩ | rfl
    all_goals simp [Builtin.append_, run_underlying ht, run_underlying hu, sizeOf, typeInfo, hi, hlen, hg, hn]
  | some a =>
    have h1 := hst a rfl
    rcases hdu with ⟨e', rfl⟩ | rfl
    all_goals simp [Builtin.append_, run_underlying ht, run_underlying hu, sizeOf, typeInfo, hi, hlen, hg, hn, h1]
end

section
variable {C : Ctx} {ρ : Env} {H : Hp} {w : World}

theorem firstCells_some {P : Program} {w : World} {a : Addr} {size n len cap : Nat} {vs : List Value} (hl : vs.length = n * size) (hc : ∀ j v, vs[j]? = some v → w.cell? (a.add j) = some v) :
    (Builtin.firstCells size n (.slice (some a) len cap)).run P w = .ok vs.toArray w := by
  unfold Builtin.firstCells
  rw [← hl]
  exact run_loadCells_list w a vs hc

/-- what is appended -/
theorem src_ok (hH : HRel C ρ H w) {z m : Nat} {x : AV} {cx : Value} {xs : List AV} (hx : VR ρ x cx) (h : srcA C H z x = some (true, m, xs)) :
    ∃ news : List Value, news.length = m * z ∧ VRs ρ xs news ∧ xs.all isCell = true ∧ (∀ w', (Builtin.lenOf cx).run C.P w' = .ok m w') ∧
      ∀ w' : World, w'.heap = w.heap → (Builtin.firstCells z m cx).run C.P w' = .ok news.toArray w' := by
  unfold srcA at h
  split at h
  · simp only [Option.some.injEq, Prod.mk.injEq, true_and] at h
    obtain ⟨rfl, rfl⟩ := h
    simp only [VR] at hx; subst hx
    exact ⟨[], by simp, by simp [VRs], rfl, fun _ => rfl, fun _ _ => rfl⟩
  · rename_i mb r off len
    split at h
    · rename_i cs hcs
      simp only [Option.some.injEq, Prod.mk.injEq, Bool.and_eq_true, decide_eq_true_eq] at h
      obtain ⟨⟨hl, hall⟩, rfl, rfl⟩ := h
      simp only [VR] at hx
      obtain ⟨ca, cap, rfl, hp⟩ := slice_ptr hx
      by_cases h0 : len * z = 0
      · refine ⟨[], by simp [h0], by simp [h0, VRs], by simp [h0], fun _ => rfl, fun w' _ => ?_⟩
        cases ca with
        | none => rfl
        | some a => simp [Builtin.firstCells, h0, loadCells, loadCellsFrom]
      · have hn0 : len ≠ 0 := by intro h; rw [h] at h0; simp at h0
        obtain ⟨a, rfl, hpt⟩ := hp.resolve_left hn0
        obtain ⟨vs, hvl, _, h2, h3⟩ := cells_at hH hcs (.inr hpt) hl
        refine ⟨vs, hvl, h2, hall, fun _ => rfl, fun w' hw' => firstCells_some hvl fun j v hv => ?_⟩
        rw [World.cell?_of_block (w := w) (by rw [hw'])]
        exact h3 j v hv
    · simp at h
  · rename_i s
    simp only [Option.some.injEq, Prod.mk.injEq, decide_eq_true_eq] at h
    obtain ⟨rfl, rfl, rfl⟩ := h
    simp only [VR] at hx; subst hx
    have es : (ByteArray.mk s.toArray).size = s.length := by show s.toArray.size = _; simp
    refine ⟨s.map fun b => .int .u8 b.toNat, by simp, VRs_map _ _ _ fun x _ => by simp only [VR], by simp [isCell], fun w' => by simp [Builtin.lenOf, es], fun w' _ => ?_⟩
    simp only [Builtin.firstCells, Sem.run_pure]
    congr 1
    rw [ByteArray.data_extract]
    apply Array.ext'
    simp
  · simp at h

theorem grow_ok (hH : HRel C ρ H w) {z cap need zs : Nat} {cells : List AV} {vs : List Value} {zc : Array Value} {ty : TypeId} (mb : Bool) (hv : VRs ρ cells vs) (hl : vs.length = need * z) (hc : need ≤ cap) (hz : zc.size = z) (hzs : zs = cap - need) :
    ∃ ρ', HRel C ρ' (H ++ [some ⟨z, cells⟩]) (w.drew.alloc (.cells (vs.toArray ++ Builtin.zeroCells zc zs) ty)) ∧
      VR ρ' (.slice mb (here H) 0 need) (.slice (some ⟨w.heap.size, 0, none⟩) need cap) ∧ ρ.le ρ' ∧ Frm ρ w ρ' (w.drew.alloc (.cells (vs.toArray ++ Builtin.zeroCells zc zs) ty)) := by
  have hcl := VRs_length hv
  have hsz : (vs.toArray ++ Builtin.zeroCells zc zs).size = cap * z := by
    simp only [Array.size_append, List.size_toArray, size_zeroCells, hz, hl, hzs]
    rw [← Nat.add_mul]; congr 1; omega
  obtain ⟨g1, g2⟩ := hH.drew.new ⟨z, cells⟩ (vs.toArray ++ Builtin.zeroCells zc zs) ty (0, 0) (by
      show cells.length ≤ _
      rw [hsz, ← hcl, hl]; exact Nat.mul_le_mul_right _ hc) (fun k v hkv => by
      obtain ⟨cv, q1, q2⟩ := VRs_get hv k v hkv
      refine ⟨cv, ?_, q2⟩
      have hk : k < vs.length := (List.getElem?_eq_some_iff.1 q1).1
      rw [Array.getElem?_append_left (by simpa using hk)]
      simpa using q1) (.inl rfl)
  refine ⟨_, g1, ?_, Env.le_push ρ _, ?_⟩
  · have := slice_here hH.drew ⟨w.drew.heap.size, (vs.toArray ++ Builtin.zeroCells zc zs).size, z⟩ mb need cap hc (by simp only [hsz]; exact Nat.le_refl _)
    exact this
  · have h0 : Frm ρ w ρ w.drew := (Frm.refl ρ w).drew
    exact h0.trans g2

/-- nothing was, and nothing is: no block at all -/
theorem HRel.virtual (hH : HRel C ρ H w) (z : Nat) : HRel C (ρ.push none) (H ++ [some ⟨z, []⟩]) w :=
  hH.more none ⟨z, []⟩ (fun e h => by simp at h) rfl (fun e h => by simp at h)

theorem Frm.push {ρ' : Env} {w' : World} (h : Frm ρ w ρ' w') (x : Option Ent) (hx : ∀ e, x = some e → (∃ (j : Nat) (e' : Ent), ρ.rw[j]? = some (some e') ∧ e'.blk = e.blk) ∨ w.heap.size ≤ e.blk) : Frm ρ w (ρ'.push x) w' :=
  ⟨h.os, h.tape, h.output, h.size, h.keep, fun i e he => by
    rcases push_get ρ' x i _ he with ⟨_, h1⟩ | ⟨_, h1⟩
    · exact h.news i e h1
    · exact hx e h1.symm, h.ro⟩

theorem append_ok (hH : HRel C ρ H w) {t u ty : TypeId} {du : TypeDesc} {s x v : AV} {cs cx : Value} {h : Hop} (hu : C.P.underlying u = some du) (hdu : (∃ e', du = .slice e') ∨ du = .string) (hs : VR ρ s cs) (hx : VR ρ x cx)
    (hA : appendA C H t s x = some (true, v, h)) : WOk C ρ H w (do pure (.value (← Builtin.append_ #[t, u] ty #[cs, cx]))) v h := by
  have wrap : ∀ {v h}, (∃ cv w' ρ', (Builtin.append_ #[t, u] ty #[cs, cx]).run C.P w = .ok cv w' ∧ HRel C ρ' (h.act H) w' ∧ VR ρ' v cv ∧ ρ.le ρ' ∧ Frm ρ w ρ' w') → WOk C ρ H w (do pure (.value (← Builtin.append_ #[t, u] ty #[cs, cx]))) v h := by
    rintro v h ⟨cv, w', ρ', h1, h2, h3, h4, h5⟩
    exact ⟨.value cv, cv, w', ρ', by simp [h1], .inl rfl, h2, h3, h4, h5⟩
  unfold appendA at hA
  split at hA
  · rename_i e ht
    split at hA
    · rename_i i zv hi hzv
      split at hA
      · rename_i c m xs hsrc
        obtain ⟨i', zval, hi', hz, rfl⟩ := zeroOf_some hzv
        obtain rfl : i' = i := by rw [hi] at hi'; simpa using hi'.symm
        have hcz : zval.cells.size = (cellsOf (ofValue zval)).length := by
          by_cases hu : ∃ cs, zval = .agg cs
          · obtain ⟨cs, rfl⟩ := hu; simp [Value.cells, ofValue, cellsOf]
          · have e1 : zval.cells = #[zval] := by cases zval <;> first | rfl | exact absurd ⟨_, rfl⟩ hu
            have e2 : cellsOf (ofValue zval) = [ofValue zval] := by
              cases zval <;> first | exact absurd ⟨_, rfl⟩ hu | (simp only [ofValue]; unfold ofCell; split <;> rfl)
            rw [e1, e2]; rfl
        split at hA
        · simp only [Option.some.injEq, Prod.mk.injEq, Bool.and_eq_true, decide_eq_true_eq, beq_iff_eq] at hA
          obtain ⟨⟨rfl, hby, hb1, hzl⟩, rfl, rfl⟩ := hA
          simp only [VR] at hs; subst hs
          obtain ⟨news, hnl, hnv, hall, hlen, hfirst⟩ := src_ok hH hx hsrc
          by_cases hm : m = 0
          · subst hm
            have hn0 : news = [] := List.eq_nil_of_length_eq_zero (by simpa using hnl)
            subst hn0
            have hx0 : xs = [] := List.eq_nil_of_length_eq_zero (by have := VRs_length hnv; simpa using this.symm)
            subst hx0
            refine wrap ⟨.slice none 0 0, w, ρ.push none, ?_, hH.virtual _, ?_, Env.le_push ρ _, (Frm.refl ρ w).push none fun e h => by simp at h⟩
            · exact append_room_run ht hu hdu hi none 0 0 cx 0 [] (hlen w) (hfirst w rfl) (Nat.le_refl _) (fun a h => by simp at h) fun _ => rfl
            · simp only [VR]; exact ⟨none, 0, rfl, Nat.le_refl _, .inl ⟨rfl, rfl, rfl⟩⟩
          · have hcap := grownCap_ge w (0 + m) 0 e
            obtain ⟨ρ', g1, g2, g3, g4⟩ := grow_ok (need := m) (cap := grownCap w (0 + m) 0 e) (zc := zval.cells) (ty := e) hH true hnv hnl (by omega) (by omega) rfl
            refine wrap ⟨_, _, ρ', append_grow_run ht hu hdu hi hz none 0 0 cx m [] news (hlen w) hfirst (fun w' _ => rfl) (by omega) (growslice_fits (by omega) (by rw [Nat.zero_add]; exact hby)) hb1, ?_, ?_, g3, ?_⟩
            · show HRel C ρ' (H ++ [_]) _
              simpa using g1
            · simpa using g2
            · simpa using g4
        · rename_i mb j n
          split at hA
          · rename_i b hbj
            simp only [Option.some.injEq, Prod.mk.injEq, Bool.and_eq_true, decide_eq_true_eq, beq_iff_eq] at hA
            obtain ⟨⟨rfl, hby, hb1, hzl, hesz, hbl⟩, rfl, rfl⟩ := hA
            obtain ⟨news, hnl, hnv, hall, hlen, hfirst⟩ := src_ok hH hx hsrc
            simp only [VR] at hs
            obtain ⟨ca, cap, rfl, hnc, hca⟩ := hs
            have hact : ∀ B, Hop.act H (.app j B) = H.set j none ++ [some B] := fun _ => rfl
            have hhere : here H = here (H.set j none) := by simp [here]
            -- the old cells, wherever they lie
            have hold : ∃ olds : List Value, olds.length = n * i'.size ∧ VRs ρ b.cells olds ∧ ∀ w' : World, w'.heap = w.heap → (Builtin.firstCells i'.size n (.slice ca n cap)).run C.P w' = .ok olds.toArray w' := by
              have hcs : cellsAt C H (.rw j) = some b.cells := by simp [cellsAt, hbj]
              by_cases h0 : n = 0
              · subst h0
                have hbn : b.cells = [] := List.eq_nil_of_length_eq_zero (by simpa using hbl)
                refine ⟨[], by simp, by rw [hbn]; simp [VRs], fun w' _ => ?_⟩
                cases ca with
                | none => rfl
                | some a => simp [Builtin.firstCells, loadCells, loadCellsFrom]
              · have hpt : ∃ a, ca = some a ∧ PtrR ρ (.rw j) 0 (.pointer (some a)) := by
                  rcases hca with ⟨_, h, _⟩ | ⟨_, h⟩ | ⟨e, he, rfl, _⟩
                  · omega
                  · omega
                  · exact ⟨_, rfl, e, he, rfl⟩
                obtain ⟨a, rfl, hpt⟩ := hpt
                obtain ⟨vs, hvl, _, h2, h3⟩ := cells_at (n := n * i'.size) hH hcs (.inr hpt) (by omega)
                refine ⟨vs, hvl, ?_, fun w' hw' => firstCells_some hvl fun k v hv => ?_⟩
                · have : (b.cells.drop 0).take (n * i'.size) = b.cells := by rw [← hbl]; simp
                  rw [this] at h2; exact h2
                · rw [World.cell?_of_block (w := w) (by rw [hw'])]
                  exact h3 k v hv
            obtain ⟨olds, hol, hov, hofirst⟩ := hold
            by_cases hroom : n + m ≤ cap
            · rcases hca with ⟨rfl, rfl, rfl⟩ | ⟨⟨a, rfl⟩, rfl⟩ | ⟨en, hen, rfl, hcap⟩
              · obtain ⟨rfl, rfl⟩ : n = 0 ∧ m = 0 := by omega
                have hn0 : news = [] := List.eq_nil_of_length_eq_zero (by simpa using hnl)
                subst hn0
                have hx0 : xs = [] := List.eq_nil_of_length_eq_zero (by have := VRs_length hnv; simpa using this.symm)
                have hb0 : b.cells = [] := List.eq_nil_of_length_eq_zero (by simpa using hbl)
                rw [hx0, hb0]
                refine wrap ⟨.slice none 0 0, w, ρ.push none, ?_, by rw [hact]; exact (hH.kill j).virtual _, ?_, Env.le_push ρ _, (Frm.refl ρ w).push none fun e h => by simp at h⟩
                · exact append_room_run ht hu hdu hi none 0 0 cx 0 [] (hlen w) (hfirst w rfl) (Nat.le_refl _) (fun a h => by simp at h) fun _ => rfl
                · simp only [VR]; exact ⟨none, 0, rfl, Nat.le_refl _, .inl ⟨rfl, rfl, rfl⟩⟩
              · obtain ⟨rfl, rfl⟩ : n = 0 ∧ m = 0 := by omega
                have hn0 : news = [] := List.eq_nil_of_length_eq_zero (by simpa using hnl)
                subst hn0
                have hx0 : xs = [] := List.eq_nil_of_length_eq_zero (by have := VRs_length hnv; simpa using this.symm)
                have hb0 : b.cells = [] := List.eq_nil_of_length_eq_zero (by simpa using hbl)
                rw [hx0, hb0]
                refine wrap ⟨.slice (some a) 0 0, w, ρ.push none, ?_, by rw [hact]; exact (hH.kill j).virtual _, ?_, Env.le_push ρ _, (Frm.refl ρ w).push none fun e h => by simp at h⟩
                · exact append_room_run ht hu hdu hi (some a) 0 0 cx 0 [] (hlen w) (hfirst w rfl) (Nat.le_refl _) (fun a h => by simp [storeCells]) fun h => by simp at h
                · simp only [VR]; exact ⟨some a, 0, rfl, Nat.le_refl _, .inr (.inl ⟨⟨a, rfl⟩, rfl⟩)⟩
              · have hlive := hH.live j b hbj
                rw [hen] at hlive
                obtain ⟨hez, lcs, _, _, _, hls, _⟩ := hlive
                have hxl := VRs_length hnv
                have hcapz : cap * en.esz ≤ en.size := hcap rfl
                rw [hez, hesz] at hcapz
                have hfits : (n + m) * i'.size ≤ en.size := Nat.le_trans (Nat.mul_le_mul_right _ hroom) hcapz
                rw [Nat.add_mul] at hfits
                obtain ⟨w', h1, h2, h3⟩ := store_cells hH hbj hen (n * i'.size) xs news hnv hall (by omega) (b' := ⟨i'.size, b.cells ++ xs⟩) hesz.symm (by simp only [List.length_append]; omega) (fun k v hkv => by
                  simp only at hkv
                  by_cases hk : k < b.cells.length
                  · rw [List.getElem?_append_left hk] at hkv; exact .inr ⟨by omega, hkv⟩
                  · rw [List.getElem?_append_right (by omega)] at hkv
                    have := (List.getElem?_eq_some_iff.1 hkv).1
                    exact .inl ⟨by omega, by omega, by rw [← hbl]; exact hkv⟩)
                have hjl : j < H.length := (List.getElem?_eq_some_iff.1 hbj).1
                have hself : (H.set j (some ⟨i'.size, b.cells ++ xs⟩))[j]? = some (some ⟨i'.size, b.cells ++ xs⟩) := by simp [hjl]
                have hkill := h2.kill j
                rw [List.set_set] at hkill
                have hmore := hkill.more (some en) ⟨i'.size, b.cells ++ xs⟩ (fun e he => by simp at he; subst he; exact h2.ents j en hen)
                  (by have := h2.live j _ hself; rw [hen] at this; exact this.mono (Env.le_push ρ _) fun _ _ => rfl)
                  (fun e he k b' e' hk he' hbb => by
                    simp at he; subst he
                    have hkj : k ≠ j := fun h => by subst h; simp [hjl] at hk
                    have hk2 : (H.set j (some ⟨i'.size, b.cells ++ xs⟩))[k]? = some (some b') := by
                      rw [List.getElem?_set, if_neg (fun h => hkj h.symm)] at hk ⊢; exact hk
                    exact hkj (h2.inj k j b' _ e' en hk2 hself he' hen hbb))
                refine wrap ⟨.slice (some ⟨en.blk, 0, none⟩) (n + m) cap, w', ρ.push (some en), ?_, by rw [hact]; exact hmore, ?_, Env.le_push ρ _, h3.push (some en) fun e he => by simp at he; subst he; exact .inl ⟨j, en, hen, rfl⟩⟩
                · refine append_room_run ht hu hdu hi (some ⟨en.blk, 0, none⟩) n cap cx m news (hlen w) (hfirst w rfl) hroom (fun a ha => ?_) fun h => by simp at h
                  simp at ha; subst ha
                  rw [add_mk, Nat.zero_add]
                  exact h1
                · rw [hhere]
                  exact slice_here hkill en mb (n + m) cap hroom (by rw [hez, hesz]; exact hcapz)
            · have hcap := grownCap_ge w (n + m) cap e
              obtain ⟨ρ', g1, g2, g3, g4⟩ := grow_ok (need := n + m) (cap := grownCap w (n + m) cap e) (zc := zval.cells) (ty := e) (hH.kill j) mb (VRs_append hov hnv) (by simp only [List.length_append]; rw [hol, hnl, Nat.add_mul]) hcap (by omega) rfl
              refine wrap ⟨_, _, ρ', append_grow_run ht hu hdu hi hz ca n cap cx m olds news (hlen w) hfirst hofirst (by omega) (growslice_fits (by omega) hby) hb1, by rw [hact]; exact g1, by rw [hhere]; exact g2, g3, g4⟩
          · simp at hA
        · simp at hA
      · simp at hA
    · simp at hA
  · simp at hA
/-- a string's bytes -/
theorem bytes_ok (hH : HRel C ρ H w) {s d : TypeId} {l : List UInt8} (hs : isStringT C.P s = true) (hd : isBytes C.P d = true) :
    WOk C ρ H w (do pure (.value (← convert s d (.string ⟨l.toArray⟩)))) (.slice false (here H) 0 l.length) (.new ⟨1, l.map fun b => .int .u8 b.toNat⟩) := by
  obtain ⟨e, hd, he⟩ := isBytes_some hd
  have hs := isStringT_some hs
  have es : (ByteArray.mk l.toArray).size = l.length := by show l.toArray.size = _; simp
  let cap := grownCap w l.length 0 e
  have hcap : l.length ≤ cap := grownCap_ge w l.length 0 e
  let cs : Array Value := (l.map fun b => Value.int .u8 b.toNat).toArray ++ Array.replicate (cap - l.length) (.int .u8 0)
  have hsz : cs.size = cap := by simp [cs]; omega
  obtain ⟨g1, g2⟩ := hH.drew.new ⟨1, l.map fun b => .int .u8 b.toNat⟩ cs e (cs.size, cs.size + 1) (by simp [hsz]; omega) (fun k v hkv => by
    simp only [List.getElem?_map, Option.map_eq_some_iff] at hkv
    obtain ⟨b, hb, rfl⟩ := hkv
    have hk : k < l.length := (List.getElem?_eq_some_iff.1 hb).1
    refine ⟨.int .u8 b.toNat, ?_, by simp only [VR]⟩
    simp only [cs]
    rw [Array.getElem?_append_left (by simpa using hk)]
    simp [hb]) (.inr (Nat.le_refl _))
  refine ⟨.value (.slice (some ⟨w.heap.size, 0, none⟩) l.length cap), _, _, _, ?_, .inl rfl, g1, slice_here hH.drew _ false _ _ hcap (by simp only [hsz]; omega), Env.le_push ρ _, ((Frm.refl ρ w).drew).trans g2⟩
  have hshape : ∀ o : Obj, ({ w.drew with heap := w.drew.heap.push o } : World).shape? w.drew.heap.size = (match o with | .cells c elem _ => some (elem, c.size) | _ => none) := fun o => by
    simp only [World.shape?]
    rw [Array.getElem?_push_size]
    cases o <;> rfl
  have ecs : (ByteArray.mk l.toArray).data.map (fun b => Value.int .u8 b.toNat) ++ Array.replicate (cap - l.length) (.int .u8 0) = cs := by
    simp [cs]
  unfold convert
  simp only [Sem.run_bind, run_underlying hs, run_underlying hd, Result.andThen_ok, run_underlying he]
  unfold Conv.stringToBytes
  simp only [Sem.run_bind, run_choose, es, Question.forced, Bool.false_eq_true, if_false, Result.andThen_ok, newRow, run_newObj, Sem.run_pure, markStringish]
  rw [show (Question.appendCap l.length 0 e).cut (w.tape w.drawn (Question.appendCap l.length 0 e)) = cap from rfl, ecs]
  have hsh := hshape (.cells cs e)
  simp only at hsh
  have hsh' : (World.shape? { ({ w with drawn := w.drawn + 1 } : World) with heap := w.heap.push (.cells cs e) } w.heap.size) = some (e, cs.size) := hsh
  simp only [run_shape, hsh', Result.andThen_ok, run_freeze]
  congr 1
  simp only [World.freeze]
  rw [if_neg (by omega)]
  simp only [World.alloc, World.drew]
  congr 1
  apply Array.ext_getElem?
  intro i
  rw [Array.getElem?_modify]
  by_cases hi : w.heap.size = i
  · subst hi
    rw [if_pos rfl, Array.getElem?_push_size, Array.getElem?_push_size]
    simp
  · rw [if_neg hi, Array.getElem?_push, Array.getElem?_push, if_neg (fun h => hi h.symm), if_neg (fun h => hi h.symm)]
/-- bytes that are marked as a text's -/
theorem mark_ok (hH : HRel C ρ H w) {s d : TypeId} (hs : isBytes C.P s = true) (hsd : s = d) {mb : Bool} {i off n : Nat} {b : Blk} (hi : H[i]? = some (some b)) (hn : 1 ≤ n) {cx : Value} (hx : VR ρ (.slice mb (.rw i) off n) cx) :
    WOk C ρ H w (do pure (Next.value (← convert s d cx))) (.slice mb (.rw i) off n) (.set i b) := by
  subst hsd
  obtain ⟨e, he, hu⟩ := isBytes_some hs
  have hx' := hx
  simp only [VR] at hx
  obtain ⟨ca, cap, rfl, hl, hc⟩ := hx
  have hc : ∃ en, ρ.rw[i]? = some (some en) ∧ ca = some ⟨en.blk, off, none⟩ := by
    rcases hc with ⟨_, h0, _⟩ | ⟨_, h0⟩ | ⟨en, h1, h2, _⟩
    · omega
    · omega
    · exact ⟨en, h1, h2⟩
  obtain ⟨en, hen, rfl⟩ := hc
  have hlive := hH.live i b hi
  rw [hen] at hlive
  obtain ⟨g0, cs, ty, fz, g1, g2, g3, g4, g5⟩ := hlive
  let fz' : Nat × Nat := if fz.1 == fz.2 then (cs.size, cs.size + 1) else (min fz.1 cs.size, max fz.2 (cs.size + 1))
  have hlt : en.blk < w.heap.size := (Array.getElem?_eq_some_iff.1 g1).1
  have hheap : ∀ k, (w.freeze ⟨en.blk, cs.size, none⟩ 1).heap[k]? = if k = en.blk then some (.cells cs ty fz') else w.heap[k]? := fun k => by
    unfold World.freeze
    rw [if_neg (by omega)]
    simp only [Array.getElem?_modify]
    by_cases hk : k = en.blk
    · subst hk
      rw [if_pos rfl, if_pos rfl, g1]
      obtain ⟨lo, hi'⟩ := fz
      rfl
    · rw [if_neg (fun h => hk h.symm), if_neg hk]
  have hz : fz'.1 = fz'.2 ∨ cs.size ≤ fz'.1 := by
    right
    simp only [fz']
    split
    · exact Nat.le_refl _
    · rename_i hne
      rcases g5 with h | h
      · rw [h] at hne; simp at hne
      · simp only; omega
  obtain ⟨q1, q2⟩ := hH.upd (b' := b) (w' := w.freeze ⟨en.blk, cs.size, none⟩ 1) hi hen (cs := cs) (ty := ty) (fz := fz') (by rw [hheap, if_pos rfl]) (by unfold World.freeze; rw [if_neg (by omega)]; simp) (fun k hk => by rw [hheap, if_neg hk]) (by unfold World.freeze; rw [if_neg (by omega)]; exact ⟨rfl, rfl, rfl⟩) g2 hz rfl g3 g4
  refine ⟨.value (.slice (some ⟨en.blk, off, none⟩) n cap), _, _, ρ, ?_, .inl rfl, q1, hx', Env.le_refl ρ, q2⟩
  unfold convert
  simp only [Sem.run_bind, run_underlying he, Result.andThen_ok, beq_self_eq_true, run_underlying hu, markStringish]
  have hsh : w.shape? en.blk = some (ty, cs.size) := by simp [World.shape?, g1]
  simp only [run_shape, hsh, Result.andThen_ok, run_freeze, Sem.run_pure]

/-- ALL WRITING OPERATIONS -/
theorem write_sound (hH : HRel C ρ H w) {F : Fr} {a : Act} (hF : FRel ρ F a) {o : Oper} {v : AV} {h : Hop} (hw : writeOp C F H o.op = some (true, v, h)) :
    WOk C ρ H w (execOp a.eval o) v h := by
  have E := fun x => ev_sound hF x
  obtain ⟨dst, op, type, pos, after, guard⟩ := o
  simp only at hw
  unfold writeOp at hw
  unfold execOp
  split at hw
  · rename_i t ad x
    split at hw
    · rename_i i off z hp hz
      split at hw
      · rename_i b hb
        simp only [Option.some.injEq, Prod.mk.injEq, Bool.and_eq_true, decide_eq_true_eq, beq_iff_eq] at hw
        obtain ⟨⟨h1, h2, h3⟩, rfl, rfl⟩ := hw
        have ha := E ad
        rw [hp] at ha
        exact store_ok hH (E x) ha hz hb h1 h2 h3
      · simp at hw
    · simp at hw
  · rename_i e
    split at hw
    · rename_i z hz
      simp only [Option.some.injEq, Prod.mk.injEq, true_and] at hw
      obtain ⟨rfl, rfl⟩ := hw
      exact alloc_ok hH hz
    · simp at hw
  · rename_i e x
    simp only [Option.some.injEq, Prod.mk.injEq] at hw
    obtain ⟨h1, rfl, rfl⟩ := hw
    exact box_ok hH (E x) h1
  · rename_i t n parts
    split at hw
    · rename_i e ht
      split at hw
      · rename_i z zv hz hzv
        split at hw
        · rename_i c cs hf
          simp only [Option.some.injEq, Prod.mk.injEq, Bool.and_eq_true, decide_eq_true_eq] at hw
          obtain ⟨⟨rfl, h1, h2⟩, rfl, rfl⟩ := hw
          refine buildSlice_ok hH ht hz hzv hf h1 h2 (by simp) fun j i v hj => ?_
          simp only [List.getElem?_map, Option.map_eq_some_iff, Prod.mk.injEq] at hj
          obtain ⟨p, hp, rfl, rfl⟩ := hj
          refine ⟨a.eval p.2, ?_, E _⟩
          simp only [Array.toList_map, List.getElem?_map, hp, Option.map_some]
        · simp at hw
      · simp at hw
    · simp at hw
  · rename_i t l c
    split at hw
    · rename_i e k l' k' c' ht hl hc
      split at hw
      · rename_i i zv hi hzv
        simp only [Option.some.injEq, Prod.mk.injEq, Bool.and_eq_true, decide_eq_true_eq] at hw
        obtain ⟨⟨h1, h2, h3, h4, h5, h6⟩, rfl, rfl⟩ := hw
        have el := E l
        have ec := E c
        rw [hl] at el
        rw [hc] at ec
        simp only [VR] at el ec
        have := makeSlice_ok (k := k) (k' := k') hH ht hi hzv h1 h2 h3 h4 h5 h6
        rw [← el, ← ec] at this
        exact this
      · simp at hw
    · simp at hw
  · rename_i s d x
    split at hw
    · rename_i l hb hx
      simp only [Bool.and_eq_true] at hb
      simp only [Option.some.injEq, Prod.mk.injEq, decide_eq_true_eq] at hw
      obtain ⟨h1, rfl, rfl⟩ := hw
      have ex := E x
      rw [hx] at ex
      simp only [VR] at ex
      have := bytes_ok (l := l) hH hb.1 hb.2
      rw [← ex] at this
      exact this
    · rename_i mb i off n hb hx
      split at hw
      · rename_i hsd
        split at hw
        · rename_i b hi
          simp only [Bool.and_eq_true] at hsd
          simp only [Option.some.injEq, Prod.mk.injEq] at hw
          obtain ⟨h1, rfl, rfl⟩ := hw
          have ex := E x
          rw [hx] at ex
          have := mark_ok hH hsd.1 (Nat.eq_of_beq_eq_true hsd.2) hi (Nat.le_of_ble_eq_true h1) ex
          exact this
        · simp at hw
      · simp at hw
    · simp at hw
  · rename_i args argTypes
    split at hw
    · rename_i s x t u hargs htys
      obtain rfl : args = #[s, x] := Array.toList_inj.1 (by simpa using hargs)
      obtain rfl : argTypes = #[t, u] := Array.toList_inj.1 (by simpa using htys)
      have key : ∀ {du}, C.P.underlying u = some du → ((∃ e', du = .slice e') ∨ du = .string) → appendA C H t (ev F s) (ev F x) = some (true, v, h) →
          WOk C ρ H w (do let d ← resolve a.eval { callee := .builtin .append, args := #[s, x], argTypes := #[t, u] } type; invoke d.target d.args) v h := by
        intro du hu hdu hA
        obtain ⟨nx, cv, w', ρ', h1, h2⟩ := append_ok (ty := type) hH hu hdu (E s) (E x) hA
        exact ⟨nx, cv, w', ρ', by simpa [resolve, invoke, builtin] using h1, h2⟩
      split at hw
      · rename_i e' hu
        exact key hu (.inl ⟨_, rfl⟩) hw
      · rename_i hu
        exact key hu (.inr rfl) hw
      · simp at hw
    · simp at hw
  · simp at hw
end
end Go.Am
