/-
  The writing operations of the abstract machine, against the model's.
-/
import Derived.Test.YtopenjkaifbnmaaAmRead
import Derived.Laws.IdiomCopy
namespace Go.Am
open Go.RowKit

section
variable {C : Ctx} {ρ : Env} {H : Hp} {w : World}

theorem BlkR.mono {ρ' : Env} (hle : ρ.le ρ') {b : Blk} {x : Option (Option Ent)} {w' : World} (h : BlkR ρ b x w)
    (hw : ∀ e, x = some (some e) → w'.heap[e.blk]? = w.heap[e.blk]?) : BlkR ρ' b x w' := by
  match x, h with
  | some (some e), h =>
    obtain ⟨h1, cs, ty, fz, h2, h3, h4, h5, h6⟩ := h
    exact ⟨h1, cs, ty, fz, (hw e rfl).trans h2, h3, h4, fun k v hv => by obtain ⟨cv, g1, g2⟩ := h5 k v hv; exact ⟨cv, g1, VR.mono hle v cv g2⟩, h6⟩
  | some none, h => exact h
  | none, h => exact h.elim

def Env.push (ρ : Env) (e : Option Ent) : Env := ⟨ρ.rw ++ [e], ρ.ro⟩

theorem Env.le_push (ρ : Env) (e : Option Ent) : ρ.le (ρ.push e) :=
  ⟨fun i x hx => by
    show (ρ.rw ++ [e])[i]? = _
    have hi : i < ρ.rw.length := (List.getElem?_eq_some_iff.1 hx).1
    rw [List.getElem?_append_left hi]; exact hx, rfl⟩

theorem push_get (ρ : Env) (e : Option Ent) (i : Nat) (x : Option Ent) (h : (ρ.push e).rw[i]? = some x) : (i < ρ.rw.length ∧ ρ.rw[i]? = some x) ∨ (i = ρ.rw.length ∧ x = e) := by
  change (ρ.rw ++ [e])[i]? = _ at h
  by_cases hi : i < ρ.rw.length
  · rw [List.getElem?_append_left hi] at h; exact .inl ⟨hi, h⟩
  · rw [List.getElem?_append_right (by omega)] at h
    have h0 : i - ρ.rw.length = 0 := by
      by_cases h0 : i - ρ.rw.length = 0
      · exact h0
      · rw [List.getElem?_eq_none (by simp; omega)] at h; simp at h
    rw [h0] at h
    simp at h
    exact .inr ⟨by omega, h.symm⟩

theorem hp_get (H : Hp) (b : Blk) (i : Nat) (x : Blk) (h : (H ++ [some b])[i]? = some (some x)) : (i < H.length ∧ H[i]? = some (some x)) ∨ (i = H.length ∧ x = b) := by
  by_cases hi : i < H.length
  · rw [List.getElem?_append_left hi] at h; exact .inl ⟨hi, h⟩
  · rw [List.getElem?_append_right (by omega)] at h
    have h0 : i - H.length = 0 := by
      by_cases h0 : i - H.length = 0
      · exact h0
      · rw [List.getElem?_eq_none (by simp; omega)] at h; simp at h
    rw [h0] at h
    simp at h
    exact .inr ⟨by omega, h.symm⟩

/-- one index more, whose block the world holds already -/
theorem HRel.more (hH : HRel C ρ H w) (x : Option Ent) (b : Blk) (he : ∀ e, x = some e → C.B ≤ e.blk ∧ e.blk < w.heap.size) (hb : BlkR (ρ.push x) b (some x) w)
    (hn : ∀ e, x = some e → ∀ (i : Nat) b' e', H[i]? = some (some b') → ρ.rw[i]? = some (some e') → e'.blk ≠ e.blk) : HRel C (ρ.push x) (H ++ [some b]) w where
  len := by simp [Env.push, hH.len]
  base := hH.base
  ents i e h := by
    rcases push_get ρ x i _ h with ⟨_, h⟩ | ⟨_, h⟩
    · exact hH.ents i e h
    · exact he e h.symm
  live i b' h := by
    rcases hp_get H b i b' h with ⟨hi, h⟩ | ⟨rfl, rfl⟩
    · have : (ρ.push x).rw[i]? = ρ.rw[i]? := by show (ρ.rw ++ [x])[i]? = _; rw [List.getElem?_append_left (by rw [hH.len]; exact hi)]
      rw [this]
      exact (hH.live i b' h).mono (Env.le_push ρ x) fun _ _ => rfl
    · have : (ρ.push x).rw[H.length]? = some x := by show (ρ.rw ++ [x])[H.length]? = _; rw [← hH.len]; simp
      rw [this]
      exact hb
  inj i j b1 b2 e e' h1 h2 h3 h4 h5 := by
    have low : ∀ {k : Nat} {e1 : Ent}, k < H.length → (ρ.push x).rw[k]? = some (some e1) → ρ.rw[k]? = some (some e1) := fun {k} {e1} hk h => by
      rcases push_get ρ x k _ h with ⟨_, h⟩ | ⟨hk', _⟩
      · exact h
      · rw [hH.len] at hk'; omega
    have top : ∀ {e1 : Ent}, (ρ.push x).rw[H.length]? = some (some e1) → x = some e1 := fun {e1} h => by
      rcases push_get ρ x _ _ h with ⟨hl, _⟩ | ⟨_, h⟩
      · rw [hH.len] at hl; omega
      · exact h.symm
    rcases hp_get H b i b1 h1 with ⟨hi, g1⟩ | ⟨hi, _⟩
    · rcases hp_get H b j b2 h2 with ⟨hj, g2⟩ | ⟨hj, _⟩
      · exact hH.inj i j b1 b2 e e' g1 g2 (low hi h3) (low hj h4) h5
      · subst hj
        exact absurd h5 (hn e' (top h4) i b1 e g1 (low hi h3))
    · subst hi
      rcases hp_get H b j b2 h2 with ⟨hj, g2⟩ | ⟨hj, _⟩
      · exact absurd h5.symm (hn e (top h3) j b2 e' g2 (low hj h4))
      · exact hj.symm
  ro := hH.ro

theorem HRel.kill (hH : HRel C ρ H w) (j : Nat) : HRel C ρ (H.set j none) w := by
  have key : ∀ (i : Nat) b, (H.set j none)[i]? = some (some b) → H[i]? = some (some b) := fun i b h => by
    rw [List.getElem?_set] at h
    split at h
    · split at h <;> simp at h
    · exact h
  exact ⟨by simp [hH.len], hH.base, hH.ents, fun i b h => hH.live i b (key i b h), fun i j b b' e e' h1 h2 => hH.inj i j b b' e e' (key _ _ h1) (key _ _ h2), hH.ro⟩

/-- a new block in the world, of which nobody speaks yet -/
theorem HRel.alloc (hH : HRel C ρ H w) (o : Obj) : HRel C ρ H (w.alloc o) where
  len := hH.len
  base := by have := hH.base; simp; omega
  ents i e h := by have := hH.ents i e h; simp; omega
  live i b h := (hH.live i b h).mono (Env.le_refl ρ) fun e he => by
    have := (hH.ents i e he).2
    exact Below.heap_alloc w o _ this
  inj := hH.inj
  ro i k v h := by
    obtain ⟨b, d, cv, h1, h2, h3, h4⟩ := hH.ro i k v h
    refine ⟨b, d, cv, h1, h2, ?_, h4⟩
    rw [World.cell?_of_block (w := w) (Below.heap_alloc w o b (Nat.lt_of_lt_of_le h2 hH.base))]
    exact h3

theorem Frm.alloc {ρ' : Env} {w' : World} (h : Frm ρ w ρ' w') (o : Obj) : Frm ρ w ρ' (w'.alloc o) where
  os := h.os
  tape := h.tape
  output := h.output
  size := by have := h.size; simp; omega
  keep b hb hn := (Below.heap_alloc w' o b (Nat.lt_of_lt_of_le hb h.size)).trans (h.keep b hb hn)
  news := h.news
  ro := h.ro

/-- a new block, with its index -/
theorem HRel.new (hH : HRel C ρ H w) (b : Blk) (cs : Array Value) (ty : TypeId) (fz : Nat × Nat) (hl : b.cells.length ≤ cs.size) (hc : ∀ (k : Nat) v, b.cells[k]? = some v → ∃ cv, cs[k]? = some cv ∧ VR ρ v cv)
    (hz : fz.1 = fz.2 ∨ cs.size ≤ fz.1) :
    HRel C (ρ.push (some ⟨w.heap.size, cs.size, b.esz⟩)) (H ++ [some b]) (w.alloc (.cells cs ty fz)) ∧ Frm ρ w (ρ.push (some ⟨w.heap.size, cs.size, b.esz⟩)) (w.alloc (.cells cs ty fz)) := by
  refine ⟨(hH.alloc _).more _ b ?_ ?_ ?_, ?_⟩
  · intro e he
    simp at he; subst he
    exact ⟨hH.base, by simp⟩
  · refine ⟨rfl, cs, ty, fz, ?_, rfl, hl, fun k v hv => ?_, hz⟩
    · show (w.heap.push _)[w.heap.size]? = _; simp
    · obtain ⟨cv, h1, h2⟩ := hc k v hv
      exact ⟨cv, h1, VR.mono (Env.le_push ρ _) v cv h2⟩
  · intro e he i b' e' h1 h2
    simp at he; subst he
    have := (hH.ents i e' h2).2
    show e'.blk ≠ w.heap.size
    omega
  · have := (Frm.refl ρ w).alloc (.cells cs ty fz)
    refine ⟨this.os, this.tape, this.output, this.size, this.keep, fun i e he => ?_, rfl⟩
    rcases push_get ρ _ i _ he with ⟨_, h⟩ | ⟨_, h⟩
    · exact .inl ⟨i, e, h, rfl⟩
    · simp at h; subst h; exact .inr (Nat.le_refl _)

/-- a block of the heap is written -/
theorem HRel.upd (hH : HRel C ρ H w) {i : Nat} {b b' : Blk} {e : Ent} (hi : H[i]? = some (some b)) (he : ρ.rw[i]? = some (some e)) {w' : World} {cs : Array Value} {ty : TypeId} {fz : Nat × Nat}
    (hw : w'.heap[e.blk]? = some (.cells cs ty fz)) (hs : w'.heap.size = w.heap.size) (hk : ∀ k, k ≠ e.blk → w'.heap[k]? = w.heap[k]?) (hos : w'.os = w.os ∧ w'.tape = w.tape ∧ w'.output = w.output)
    (hsz : cs.size = e.size) (hz : fz.1 = fz.2 ∨ cs.size ≤ fz.1) (hb : b'.esz = b.esz) (hl : b'.cells.length ≤ cs.size)
    (hc : ∀ (k : Nat) v, b'.cells[k]? = some v → ∃ cv, cs[k]? = some cv ∧ VR ρ v cv) :
    HRel C ρ (H.set i (some b')) w' ∧ Frm ρ w ρ w' := by
  have hlt : i < H.length := (List.getElem?_eq_some_iff.1 hi).1
  have key : ∀ (j : Nat) x, (H.set i (some b'))[j]? = some (some x) → (j = i ∧ x = b') ∨ (j ≠ i ∧ H[j]? = some (some x)) := fun j x h => by
    rw [List.getElem?_set] at h
    by_cases hji : i = j
    · subst hji; rw [if_pos rfl, if_pos hlt] at h; simp at h; exact .inl ⟨rfl, h.symm⟩
    · rw [if_neg hji] at h; exact .inr ⟨fun h => hji h.symm, h⟩
  have hesz : e.esz = b.esz := by have := hH.live i b hi; rw [he] at this; exact this.1
  refine ⟨⟨by simp [hH.len], by rw [hs]; exact hH.base, fun j x h => by rw [hs]; exact hH.ents j x h, ?_, ?_, ?_⟩, ?_⟩
  · intro j x h
    rcases key j x h with ⟨rfl, rfl⟩ | ⟨hj, h⟩
    · rw [he]
      exact ⟨by rw [hesz, hb], cs, ty, fz, hw, hsz, hl, hc, hz⟩
    · refine (hH.live j x h).mono (Env.le_refl ρ) fun e' he' => hk _ fun hbb => hj (hH.inj j i x b e' e h hi he' he hbb)
  · intro j k x y e1 e2 h1 h2 h3 h4 h5
    have g1 : ∃ x', H[j]? = some (some x') := by
      rcases key j x h1 with ⟨rfl, _⟩ | ⟨_, h⟩
      · exact ⟨b, hi⟩
      · exact ⟨x, h⟩
    have g2 : ∃ x', H[k]? = some (some x') := by
      rcases key k y h2 with ⟨rfl, _⟩ | ⟨_, h⟩
      · exact ⟨b, hi⟩
      · exact ⟨y, h⟩
    obtain ⟨x', g1⟩ := g1
    obtain ⟨y', g2⟩ := g2
    exact hH.inj j k x' y' e1 e2 g1 g2 h3 h4 h5
  · intro j k v hv
    obtain ⟨b1, d, cv, h1, h2, h3, h4⟩ := hH.ro j k v hv
    refine ⟨b1, d, cv, h1, h2, ?_, h4⟩
    have hne : b1 ≠ e.blk := by have := (hH.ents i e he).1; omega
    rw [World.cell?_of_block (w := w) (hk b1 hne)]
    exact h3
  · exact ⟨hos.1, hos.2.1, hos.2.2, by omega, fun k _ hn => hk k fun h => hn i e he h.symm, fun j x h => .inl ⟨j, x, h, rfl⟩, rfl⟩

theorem cells_all_one {cs : List AV} {vs : List Value} (hv : VRs ρ cs vs) (h : cs.all isCell = true) : ∀ v ∈ vs, v.oneCell' = true := by
  induction cs generalizing vs with
  | nil => simp only [VRs] at hv; subst hv; simp
  | cons c cs ih =>
    simp only [VRs] at hv
    obtain ⟨v, vs', rfl, h1, h2⟩ := hv
    simp only [List.all_cons, Bool.and_eq_true] at h
    intro x hx
    rcases List.mem_cons.1 hx with rfl | hx
    · have hc := h.1
      cases c with
      | undef => simp [isCell] at hc
      | agg _ => simp [isCell] at hc
      | tup _ => simp [isCell] at hc
      | ptr r off =>
        simp only [VR] at h1
        cases r with
        | rw i => obtain ⟨_, _, rfl⟩ := h1; rfl
        | ro i => obtain ⟨_, _, _, rfl⟩ := h1; rfl
      | slice mb r off len => simp only [VR] at h1; obtain ⟨_, _, rfl, _⟩ := h1; rfl
      | func f c => simp only [VR] at h1; obtain ⟨_, rfl, _⟩ := h1; rfl
      | bool b => simp only [VR] at h1; subst h1; rfl
      | int k n => simp only [VR] at h1; subst h1; rfl
      | str s => simp only [VR] at h1; subst h1; rfl
      | nilp => simp only [VR] at h1; subst h1; rfl
      | nils => simp only [VR] at h1; subst h1; rfl
      | nilf => simp only [VR] at h1; subst h1; rfl
    · exact ih h2 h.2 x hx

theorem setCells_facts (b : Nat) : ∀ (vs : List Value) (o : Nat) (w : World) (cs : Array Value) (ty : TypeId) (fz : Nat × Nat), w.heap[b]? = some (.cells cs ty fz) → o + vs.length ≤ cs.size →
    ∃ cs' : Array Value, (w.setCells b o vs).heap[b]? = some (.cells cs' ty fz) ∧ cs'.size = cs.size ∧ (∀ i, cs'[i]? = if o ≤ i ∧ i < o + vs.length then vs[i - o]? else cs[i]?) ∧
      (w.setCells b o vs).heap.size = w.heap.size ∧ (∀ k, k ≠ b → (w.setCells b o vs).heap[k]? = w.heap[k]?) ∧ (w.setCells b o vs).os = w.os ∧ (w.setCells b o vs).tape = w.tape ∧ (w.setCells b o vs).output = w.output
  | [], o, w, cs, ty, fz, h, _ => ⟨cs, h, rfl, fun i => by rw [if_neg (by simp)], rfl, fun _ _ => rfl, rfl, rfl, rfl⟩
  | v :: vs, o, w, cs, ty, fz, h, hl => by
    have h1 : (w.setCell ⟨b, o, none⟩ v).heap[b]? = some (.cells (cs.setIfInBounds o v) ty fz) := by
      simp only [World.setCell, Array.getElem?_modify, if_true, h, Option.map_some]
      rfl
    simp only [List.length_cons] at hl
    obtain ⟨cs', g1, g2, g3, g4, g5, g6⟩ := setCells_facts b vs (o + 1) (w.setCell ⟨b, o, none⟩ v) (cs.setIfInBounds o v) ty fz h1 (by simp; omega)
    refine ⟨cs', g1, by simpa using g2, fun i => ?_, ?_, fun k hk => ?_, g6.1, g6.2.1, g6.2.2⟩
    · rw [g3 i, Array.getElem?_setIfInBounds]
      simp only [List.length_cons]
      by_cases hi : o = i
      · subst hi
        rw [if_neg (by omega), if_pos rfl, if_pos (by omega), if_pos (by omega)]; simp
      · by_cases hr : o ≤ i ∧ i < o + (vs.length + 1)
        · rw [if_pos (by omega), if_pos hr, show i - o = (i - (o + 1)) + 1 by omega]; simp
        · rw [if_neg (by omega), if_neg hi, if_neg hr]
    · refine g4.trans ?_
      simp [World.setCell]
    · exact (g5 k hk).trans (Below.heap_setCell w _ _ k hk)

/-- cells written into a block of the heap -/
theorem store_cells (hH : HRel C ρ H w) {i : Nat} {b b' : Blk} {e : Ent} (hi : H[i]? = some (some b)) (he : ρ.rw[i]? = some (some e)) (o : Nat) (xs : List AV) (vs : List Value) (hv : VRs ρ xs vs) (h1 : xs.all isCell = true)
    (hfit : o + xs.length ≤ e.size) (hb : b'.esz = b.esz) (hl : b'.cells.length ≤ e.size)
    (hget : ∀ (k : Nat) v, b'.cells[k]? = some v → (o ≤ k ∧ k < o + xs.length ∧ xs[k - o]? = some v) ∨ (¬ (o ≤ k ∧ k < o + xs.length) ∧ b.cells[k]? = some v)) :
    ∃ w', (storeCells ⟨e.blk, o, none⟩ vs).run C.P w = .ok () w' ∧ HRel C ρ (H.set i (some b')) w' ∧ Frm ρ w ρ w' := by
  have hlive := hH.live i b hi
  rw [he] at hlive
  obtain ⟨_, cs, ty, fz, g1, g2, g3, g4, g5⟩ := hlive
  have hvl := VRs_length hv
  obtain ⟨cs', f1, f2, f3, f4, f5, f6⟩ := setCells_facts e.blk vs o w cs ty fz g1 (by omega)
  refine ⟨w.setCells e.blk o vs, ?_, ?_⟩
  · have := run_storeCells_cells (P := C.P) e.blk o vs 0 w (fun j hj => ?_) (fun j hj => ?_) (cells_all_one hv h1)
    · simpa using this
    · simp only [World.cell?, g1]
      simp; omega
    · simp only [World.frozen?, g1]
      have hj' : o + 0 + j < cs.size := by omega
      have : ¬ (fz.1 ≤ o + 0 + j ∧ o + 0 + j < fz.2) := by omega
      simpa using this
  · refine hH.upd hi he f1 f4 f5 f6 (f2.trans g2) (by rw [f2]; exact g5) hb (by omega) fun k v hkv => ?_
    rw [f3 k, hvl]
    rcases hget k v hkv with ⟨h1, h2, h3⟩ | ⟨h1, h2⟩
    · rw [if_pos ⟨h1, h2⟩]; exact VRs_get hv _ v h3
    · rw [if_neg h1]; exact g4 k v h2

end
end Go.Am
