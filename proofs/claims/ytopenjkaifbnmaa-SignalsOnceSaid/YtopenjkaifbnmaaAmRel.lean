/-
  The abstract machine's relation to the model's worlds.
-/
import Derived.Test.YtopenjkaifbnmaaAmCore
import Derived.WalkKit
import Derived.Laws.StructEq
namespace Go.Am
open Go.RowKit

structure Ent where
  blk : Nat
  size : Nat
  esz : Nat

structure Env where
  rw : List (Option Ent)
  ro : Nat → Option (Nat × Nat)

def PtrR (ρ : Env) (r : Ref) (off : Nat) (v : Value) : Prop :=
  match r with
  | .rw i => ∃ e, ρ.rw[i]? = some (some e) ∧ v = .pointer (some ⟨e.blk, off, none⟩)
  | .ro i => ∃ b d, ρ.ro i = some (b, d) ∧ v = .pointer (some ⟨b, d + off, none⟩)

def SliceR (ρ : Env) (mb : Bool) (r : Ref) (off len : Nat) (v : Value) : Prop :=
  ∃ ca cap, v = .slice ca len cap ∧ len ≤ cap ∧
    ((ca = none ∧ cap = 0 ∧ mb = true) ∨ ((∃ x, ca = some x) ∧ cap = 0) ∨
      (match r with
       | .rw i => ∃ e, ρ.rw[i]? = some (some e) ∧ ca = some ⟨e.blk, off, none⟩ ∧ (off = 0 → cap * e.esz ≤ e.size)
       | .ro i => ∃ b d, ρ.ro i = some (b, d) ∧ ca = some ⟨b, d + off, none⟩))

mutual
def VR (ρ : Env) : AV → Value → Prop
  | .undef, _ => True
  | .bool b, v => v = .bool b
  | .int k n, v => v = .int k n
  | .str s, v => v = .string ⟨s.toArray⟩
  | .nilp, v => v = .pointer none
  | .ptr r off, v => PtrR ρ r off v
  | .nils, v => v = .slice none 0 0
  | .slice mb r off len, v => SliceR ρ mb r off len v
  | .nilf, v => v = .nilFunc
  | .func f cap, v => ∃ cs : Array Value, v = .func (.func f) #[] cs ∧ VRs ρ cap cs.toList
  | .agg cs, v => ∃ vs : Array Value, v = .agg vs ∧ VRs ρ cs vs.toList
  | .tup cs, v => ∃ vs : Array Value, v = .tuple vs ∧ VRs ρ cs vs.toList
def VRs (ρ : Env) : List AV → List Value → Prop
  | [], vs => vs = []
  | a :: as, vs => ∃ v vs', vs = v :: vs' ∧ VR ρ a v ∧ VRs ρ as vs'
end

def Env.le (ρ ρ' : Env) : Prop := (∀ (i : Nat) x, ρ.rw[i]? = some x → ρ'.rw[i]? = some x) ∧ ρ'.ro = ρ.ro

theorem Env.le_refl (ρ : Env) : ρ.le ρ := ⟨fun _ _ h => h, rfl⟩
theorem Env.le_trans {a b c : Env} (h : a.le b) (k : b.le c) : a.le c := ⟨fun i x hx => k.1 i x (h.1 i x hx), k.2.trans h.2⟩

theorem PtrR.mono {ρ ρ' : Env} (h : ρ.le ρ') {r : Ref} {off : Nat} {v : Value} (p : PtrR ρ r off v) : PtrR ρ' r off v := by
  cases r with
  | rw i => obtain ⟨e, he, hv⟩ := p; exact ⟨e, h.1 _ _ he, hv⟩
  | ro i => obtain ⟨b, d, he, hv⟩ := p; exact ⟨b, d, by rw [h.2]; exact he, hv⟩

theorem SliceR.mono {ρ ρ' : Env} (h : ρ.le ρ') {mb : Bool} {r : Ref} {off len : Nat} {v : Value} (p : SliceR ρ mb r off len v) : SliceR ρ' mb r off len v := by
  obtain ⟨ca, cap, hv, hl, hc⟩ := p
  refine ⟨ca, cap, hv, hl, ?_⟩
  rcases hc with hc | hc | hc
  · exact .inl hc
  · exact .inr (.inl hc)
  · refine .inr (.inr ?_)
    cases r with
    | rw i => obtain ⟨e, he, h2⟩ := hc; exact ⟨e, h.1 _ _ he, h2⟩
    | ro i => obtain ⟨b, d, he, h2⟩ := hc; exact ⟨b, d, by rw [h.2]; exact he, h2⟩

mutual
theorem VR.mono {ρ ρ' : Env} (h : ρ.le ρ') : ∀ (a : AV) (v : Value), VR ρ a v → VR ρ' a v
  | .undef, v, hv => by simp only [VR] at *
  | .bool b, v, hv => by simpa only [VR] using hv
  | .int k n, v, hv => by simpa only [VR] using hv
  | .str s, v, hv => by simpa only [VR] using hv
  | .nilp, v, hv => by simpa only [VR] using hv
  | .ptr r off, v, hv => by simp only [VR] at *; exact hv.mono h
  | .nils, v, hv => by simpa only [VR] using hv
  | .slice mb r off len, v, hv => by simp only [VR] at *; exact hv.mono h
  | .nilf, v, hv => by simpa only [VR] using hv
  | .func f cap, v, hv => by
    simp only [VR] at *
    obtain ⟨cs, e, hs⟩ := hv
    exact ⟨cs, e, VRs.mono h cap _ hs⟩
  | .agg cs, v, hv => by
    simp only [VR] at *
    obtain ⟨vs, e, hs⟩ := hv
    exact ⟨vs, e, VRs.mono h cs _ hs⟩
  | .tup cs, v, hv => by
    simp only [VR] at *
    obtain ⟨vs, e, hs⟩ := hv
    exact ⟨vs, e, VRs.mono h cs _ hs⟩
theorem VRs.mono {ρ ρ' : Env} (h : ρ.le ρ') : ∀ (as : List AV) (vs : List Value), VRs ρ as vs → VRs ρ' as vs
  | [], vs, hv => by simpa only [VRs] using hv
  | a :: as, vs, hv => by
    simp only [VRs] at *
    obtain ⟨v, vs', e, h1, h2⟩ := hv
    exact ⟨v, vs', e, VR.mono h a v h1, VRs.mono h as vs' h2⟩
end

theorem VRs_length {ρ : Env} : ∀ {as : List AV} {vs : List Value}, VRs ρ as vs → vs.length = as.length
  | [], vs, h => by simp only [VRs] at h; simp [h]
  | a :: as, vs, h => by
    simp only [VRs] at h
    obtain ⟨v, vs', e, _, h2⟩ := h
    simp [e, VRs_length h2]

theorem VRs_get {ρ : Env} : ∀ {as : List AV} {vs : List Value}, VRs ρ as vs → ∀ (i : Nat) (a : AV), as[i]? = some a → ∃ v, vs[i]? = some v ∧ VR ρ a v
  | [], vs, h, i, a, ha => by simp at ha
  | x :: as, vs, h, i, a, ha => by
    simp only [VRs] at h
    obtain ⟨v, vs', e, h1, h2⟩ := h
    subst e
    cases i with
    | zero => simp at ha; subst ha; exact ⟨v, rfl, h1⟩
    | succ i => simpa using VRs_get h2 i a (by simpa using ha)

theorem VRs_of {ρ : Env} : ∀ {as : List AV} {vs : List Value}, vs.length = as.length → (∀ (i : Nat) (a : AV), as[i]? = some a → ∃ v, vs[i]? = some v ∧ VR ρ a v) → VRs ρ as vs
  | [], vs, hl, h => by simp only [VRs]; exact List.eq_nil_of_length_eq_zero (by simpa using hl)
  | x :: as, vs, hl, h => by
    cases vs with
    | nil => simp at hl
    | cons v vs =>
      simp only [VRs]
      obtain ⟨v', hv', h1⟩ := h 0 x rfl
      simp at hv'
      subst hv'
      exact ⟨_, vs, rfl, h1, VRs_of (by simpa using hl) fun i a ha => by simpa using h (i + 1) a (by simpa using ha)⟩

theorem VRs_append {ρ : Env} {as bs : List AV} {vs ws : List Value} (h : VRs ρ as vs) (k : VRs ρ bs ws) : VRs ρ (as ++ bs) (vs ++ ws) := by
  have h1 := VRs_length h
  have h2 := VRs_length k
  refine VRs_of (by simp [h1, h2]) fun i a ha => ?_
  by_cases hi : i < as.length
  · rw [List.getElem?_append_left hi] at ha
    rw [List.getElem?_append_left (by omega)]
    exact VRs_get h i a ha
  · rw [List.getElem?_append_right (by omega)] at ha
    rw [List.getElem?_append_right (by omega), h1]
    exact VRs_get k _ a ha

theorem VRs_take {ρ : Env} {as : List AV} {vs : List Value} (h : VRs ρ as vs) (n : Nat) : VRs ρ (as.take n) (vs.take n) := by
  have h1 := VRs_length h
  refine VRs_of (by simp [h1]) fun i a ha => ?_
  rw [List.getElem?_take] at ha ⊢
  split at ha
  · rename_i hi; rw [if_pos hi]; exact VRs_get h i a ha
  · simp at ha

theorem VRs_drop {ρ : Env} {as : List AV} {vs : List Value} (h : VRs ρ as vs) (n : Nat) : VRs ρ (as.drop n) (vs.drop n) := by
  have h1 := VRs_length h
  refine VRs_of (by simp [h1]) fun i a ha => ?_
  rw [List.getElem?_drop] at ha ⊢
  exact VRs_get h _ a ha

theorem VRs_map {ρ : Env} {α : Type} (l : List α) (f : α → AV) (g : α → Value) (h : ∀ x ∈ l, VR ρ (f x) (g x)) : VRs ρ (l.map f) (l.map g) := by
  induction l with
  | nil => simp [VRs]
  | cons x l ih =>
    simp only [List.map_cons, VRs]
    exact ⟨_, _, rfl, h x (by simp), ih fun y hy => h y (by simp [hy])⟩

/-- a block of the heap against its cells in the world -/
def BlkR (ρ : Env) (b : Blk) (x : Option (Option Ent)) (w : World) : Prop :=
  match x with
  | some (some e) => e.esz = b.esz ∧ ∃ (cs : Array Value) (ty : TypeId) (fz : Nat × Nat), w.heap[e.blk]? = some (.cells cs ty fz) ∧ cs.size = e.size ∧ b.cells.length ≤ cs.size ∧
      (∀ (k : Nat) v, b.cells[k]? = some v → ∃ cv, cs[k]? = some cv ∧ VR ρ v cv) ∧ (fz.1 = fz.2 ∨ cs.size ≤ fz.1)
  | some none => b.cells = []
  | none => False

structure HRel (C : Ctx) (ρ : Env) (H : Hp) (w : World) : Prop where
  len : ρ.rw.length = H.length
  base : C.B ≤ w.heap.size
  ents : ∀ (i : Nat) e, ρ.rw[i]? = some (some e) → C.B ≤ e.blk ∧ e.blk < w.heap.size
  live : ∀ (i : Nat) b, H[i]? = some (some b) → BlkR ρ b (ρ.rw[i]?) w
  inj : ∀ (i j : Nat) b b' e e', H[i]? = some (some b) → H[j]? = some (some b') → ρ.rw[i]? = some (some e) → ρ.rw[j]? = some (some e') → e.blk = e'.blk → i = j
  ro : ∀ (i k : Nat) v, (C.G i)[k]? = some v → ∃ b d cv, ρ.ro i = some (b, d) ∧ b < C.B ∧ w.cell? ⟨b, d + k, none⟩ = some cv ∧ VR ⟨[], ρ.ro⟩ v cv

structure FRel (ρ : Env) (F : Fr) (a : Act) : Prop where
  nod : a.defers = []
  len : F.length = a.tmps.size
  val : ∀ (i : Nat) v, F[i]? = some v → VR ρ v (a.tmps.getD i undef)

/-- what of a world's older blocks stays -/
structure Frm (ρ : Env) (w : World) (ρ' : Env) (w' : World) : Prop where
  os : w'.os = w.os
  tape : w'.tape = w.tape
  output : w'.output = w.output
  size : w.heap.size ≤ w'.heap.size
  keep : ∀ b, b < w.heap.size → (∀ (i : Nat) e, ρ.rw[i]? = some (some e) → e.blk ≠ b) → w'.heap[b]? = w.heap[b]?
  news : ∀ (i : Nat) e, ρ'.rw[i]? = some (some e) → (∃ (j : Nat) (e' : Ent), ρ.rw[j]? = some (some e') ∧ e'.blk = e.blk) ∨ w.heap.size ≤ e.blk
  ro : ρ'.ro = ρ.ro

theorem Frm.refl (ρ : Env) (w : World) : Frm ρ w ρ w := ⟨rfl, rfl, rfl, Nat.le_refl _, fun _ _ _ => rfl, fun i e h => .inl ⟨i, e, h, rfl⟩, rfl⟩

theorem Frm.trans {ρ ρ' ρ'' : Env} {w w' w'' : World} (h : Frm ρ w ρ' w') (k : Frm ρ' w' ρ'' w'') : Frm ρ w ρ'' w'' where
  os := k.os.trans h.os
  tape := k.tape.trans h.tape
  output := k.output.trans h.output
  size := Nat.le_trans h.size k.size
  keep b hb hn := (k.keep b (Nat.lt_of_lt_of_le hb h.size) fun i e he hbe => by
    rcases h.news i e he with ⟨j, e', hj, hje⟩ | hge
    · exact hn j e' hj (hje.trans hbe)
    · omega).trans (h.keep b hb hn)
  news i e he := by
    rcases k.news i e he with ⟨j, e', hj, hje⟩ | hge
    · rcases h.news j e' hj with ⟨l, e2, hl, hle⟩ | hge
      · exact .inl ⟨l, e2, hl, hle.trans hje⟩
      · exact .inr (by omega)
    · exact .inr (Nat.le_trans h.size hge)
  ro := k.ro.trans h.ro

theorem Frm.drew {ρ ρ' : Env} {w w' : World} (h : Frm ρ w ρ' w') : Frm ρ w ρ' w'.drew := ⟨h.os, h.tape, h.output, h.size, h.keep, h.news, h.ro⟩

theorem HRel.drew {C : Ctx} {ρ : Env} {H : Hp} {w : World} (h : HRel C ρ H w) : HRel C ρ H w.drew := ⟨h.len, h.base, h.ents, h.live, h.inj, h.ro⟩

theorem FRel.mono {ρ ρ' : Env} {F : Fr} {a : Act} (h : FRel ρ F a) (hl : ρ.le ρ') : FRel ρ' F a := ⟨h.nod, h.len, fun i v hv => VR.mono hl v _ (h.val i v hv)⟩

theorem FRel.put {ρ : Env} {F : Fr} {a : Act} (h : FRel ρ F a) (d : Option Tmp) (v : AV) (cv : Value) (hv : VR ρ v cv) : FRel ρ (put F d v) (a.put d cv) := by
  cases d with
  | none => exact h
  | some d =>
    refine ⟨h.nod, by simp [Am.put, Act.put, h.len], fun i x hx => ?_⟩
    simp only [Am.put, List.getElem?_set] at hx
    simp only [Act.put, Array.getD_eq_getD_getElem?, Array.getElem?_setIfInBounds]
    by_cases hi : d = i
    · subst hi
      simp only [if_true] at hx ⊢
      split at hx
      · rename_i hlt
        rw [if_pos (by rw [← h.len]; exact hlt)]
        simp at hx; subst hx; simpa using hv
      · simp at hx
    · simp only [hi, if_false] at hx ⊢
      have := h.val i x hx
      simpa [Array.getD_eq_getD_getElem?] using this

theorem FRel.at {ρ : Env} {F : Fr} {a : Act} (h : FRel ρ F a) (t : Tmp) : VR ρ (F.getD t .undef) (a.tmps.getD t Go.undef) := by
  by_cases ht : t < F.length
  · have := h.val t (F[t]) (by simp [ht])
    simpa [List.getD, ht] using this
  · simp [List.getD, ht, VR]

theorem VR_ofCell (ρ : Env) (v : Value) : VR ρ (ofCell v) v := by
  unfold ofCell
  split <;> simp [VR]

theorem VRs_ofCells (ρ : Env) (l : List Value) : VRs ρ (l.map ofCell) l := by
  induction l with
  | nil => simp [VRs]
  | cons v l ih => simp only [List.map_cons, VRs]; exact ⟨v, l, rfl, VR_ofCell ρ v, ih⟩

theorem VR_ofValue (ρ : Env) (v : Value) : VR ρ (ofValue v) v := by
  unfold ofValue
  split
  · rename_i cs; simp only [VR]; exact ⟨cs, rfl, VRs_ofCells ρ _⟩
  · exact VR_ofCell ρ _

theorem ev_sound {ρ : Env} {F : Fr} {a : Act} (h : FRel ρ F a) (x : Operand) : VR ρ (ev F x) (a.eval x) := by
  cases x with
  | tmp t => exact h.at t
  | const v => exact VR_ofValue ρ v
  | global g => simp [ev, VR]
  | func f => simp only [ev, VR, Act.eval]; exact ⟨#[], rfl, by simp [VRs]⟩

theorem chk_elim {c : Bool} {K : Prop} (h : chk c K) : c = true ∧ K := by
  cases c with
  | true => exact ⟨rfl, h⟩
  | false => exact h.elim
theorem chk_intro {c : Bool} {K : Prop} (h : c = true) (k : K) : chk c K := by subst h; exact k
theorem tst_elim {b : Bool} {A B : Prop} (h : tst b A B) : (b = true ∧ A) ∨ (b = false ∧ B) := by
  cases b with
  | true => exact .inl ⟨rfl, h⟩
  | false => exact .inr ⟨rfl, h⟩
theorem tstH_pt {h : Option Bool} {b : Bool} {A B : Prop} (k : tstH h b A B) : (b = true ∧ A ∧ ∀ A' B' : Prop, A' → tstH h b A' B') ∨ (b = false ∧ B ∧ ∀ A' B' : Prop, B' → tstH h b A' B') := by
  cases h with
  | none => cases b with
    | true => exact .inl ⟨rfl, k, fun _ _ h => h⟩
    | false => exact .inr ⟨rfl, k, fun _ _ h => h⟩
  | some c => cases c with
    | true => cases b with
      | true => exact .inl ⟨rfl, k, fun _ _ h => h⟩
      | false => exact k.elim
    | false => cases b with
      | true => exact k.elim
      | false => exact .inr ⟨rfl, k, fun _ _ h => h⟩
theorem tstH_elim {h : Option Bool} {b : Bool} {A B : Prop} (k : tstH h b A B) : (b = true ∧ A) ∨ (b = false ∧ B) := by
  rcases tstH_pt k with ⟨h1, h2, _⟩ | ⟨h1, h2, _⟩
  · exact .inl ⟨h1, h2⟩
  · exact .inr ⟨h1, h2⟩
theorem opc_elim {o : Option (Bool × AV)} {K : AV → Prop} (h : opc o K) : ∃ v, o = some (true, v) ∧ K v := by
  unfold opc at h
  split at h
  · rename_i c v; obtain ⟨rfl, hk⟩ := chk_elim h; exact ⟨v, rfl, hk⟩
  · exact h.elim
theorem wrc_elim {o : Option (Bool × AV × Hop)} {K : AV → Hop → Prop} (h : wrc o K) : ∃ v x, o = some (true, v, x) ∧ K v x := by
  unfold wrc at h
  split at h
  · rename_i c v x; obtain ⟨rfl, hk⟩ := chk_elim h; exact ⟨v, x, rfl, hk⟩
  · exact h.elim
theorem smc_elim {o : Option (Bool × AV × List Hop)} {K : AV → List Hop → Prop} (h : smc o K) : ∃ v x, o = some (true, v, x) ∧ K v x := by
  unfold smc at h
  split at h
  · rename_i c v x; obtain ⟨rfl, hk⟩ := chk_elim h; exact ⟨v, x, rfl, hk⟩
  · exact h.elim
theorem lpc_elim {o : Option (Bool × Ex × Fr × Hp)} {K : Ex → Fr → Hp → Prop} (h : lpc o K) : ∃ e F H, o = some (true, e, F, H) ∧ K e F H := by
  unfold lpc at h
  split at h
  · rename_i c e F H; obtain ⟨rfl, hk⟩ := chk_elim h; exact ⟨e, F, H, rfl, hk⟩
  · exact h.elim

theorem frcN_elim {n : Nat} {k : Nat → Prop} (h : frcN n k) : k n := by unfold frcN at h; split at h <;> exact h
theorem frcI_elim {n : Int} {k : Int → Prop} (h : frcI n k) : k n := by
  unfold frcI at h; split at h <;> exact frcN_elim h
theorem frcR_elim {n : Ref} {k : Ref → Prop} (h : frcR n k) : k n := by
  unfold frcR at h; split at h <;> exact frcN_elim h
theorem frcC_elim {v : AV} {k : AV → Prop} (h : frcC v k) : k v := by
  unfold frcC at h
  split at h
  all_goals first
    | exact h
    | (split at h <;> exact h)
    | exact frcI_elim h
    | exact frcN_elim (frcR_elim h)
    | exact frcN_elim (frcN_elim (frcR_elim h))
theorem frcL_elim : ∀ {l : List AV} {k : List AV → Prop}, frcL l k → k l
  | [], _, h => h
  | x :: xs, k, h => frcL_elim (l := xs) (k := fun ys => k (x :: ys)) (frcC_elim (v := x) (k := fun x => frcL xs fun ys => k (x :: ys)) h)
theorem frcV_elim {v : AV} {k : AV → Prop} (h : frcV v k) : k v := by
  unfold frcV at h
  split at h
  · exact frcL_elim h
  · exact frcL_elim h
  · exact frcL_elim h
  · exact frcC_elim h
theorem setK_elim {α : Type} : ∀ {F : List α} {d : Nat} {v : α} {k : List α → Prop}, setK F d v k → k (F.set d v)
  | [], _, _, _, h => h
  | _ :: _, 0, _, _, h => h
  | x :: xs, d + 1, v, k, h => setK_elim (F := xs) (k := fun ys => k (x :: ys)) h
theorem pushK_elim {α : Type} : ∀ {F : List α} {v : α} {k : List α → Prop}, pushK F v k → k (F ++ [v])
  | [], _, _, h => h
  | x :: xs, v, k, h => pushK_elim (F := xs) (k := fun ys => k (x :: ys)) h
theorem frcH_elim {v : AV} {k : AV → Prop} (h : frcH v k) : k v := by
  unfold frcH at h
  split at h <;> exact h
theorem frcHs_elim : ∀ {l : List AV} {k : List AV → Prop}, frcHs l k → k l
  | [], _, h => h
  | x :: xs, k, h => frcHs_elim (l := xs) (k := fun ys => k (x :: ys)) (frcH_elim (v := x) (k := fun x => frcHs xs fun ys => k (x :: ys)) h)
theorem frcT_elim {v : AV} {k : AV → Prop} (h : frcT v k) : k v := by
  unfold frcT at h
  split at h
  · exact frcHs_elim h
  · exact frcH_elim h
theorem putK_elim {s : Md} {F : Fr} {d : Option Tmp} {v : AV} {k : Fr → Prop} (h : putK s F d v k) : k (put F d v) := by
  unfold putK at h
  split at h
  · exact h
  · split at h
    · exact setK_elim (frcT_elim h)
    · exact h
  · split at h
    · exact setK_elim (frcV_elim h)
    · exact h
theorem frcB_elim {b : Blk} {k : Blk → Prop} (h : frcB b k) : k b := by
  unfold frcB at h
  exact frcL_elim h
theorem namG_elim : ∀ {args : List AV} {k : List AV → Prop}, namG args k → k args
  | [], k, h => h
  | .int t e :: l, k, h => namG_elim (args := l) (k := fun l' => k (.int t e :: l')) (h e rfl)
  | .undef :: l, k, h => namG_elim (args := l) (k := fun l' => k (.undef :: l')) h
  | .bool b :: l, k, h => namG_elim (args := l) (k := fun l' => k (.bool b :: l')) h
  | .str b :: l, k, h => namG_elim (args := l) (k := fun l' => k (.str b :: l')) h
  | .nilp :: l, k, h => namG_elim (args := l) (k := fun l' => k (.nilp :: l')) h
  | .ptr a b :: l, k, h => namG_elim (args := l) (k := fun l' => k (.ptr a b :: l')) h
  | .nils :: l, k, h => namG_elim (args := l) (k := fun l' => k (.nils :: l')) h
  | .slice a b c d :: l, k, h => namG_elim (args := l) (k := fun l' => k (.slice a b c d :: l')) h
  | .nilf :: l, k, h => namG_elim (args := l) (k := fun l' => k (.nilf :: l')) h
  | .func a b :: l, k, h => namG_elim (args := l) (k := fun l' => k (.func a b :: l')) h
  | .agg a :: l, k, h => namG_elim (args := l) (k := fun l' => k (.agg a :: l')) h
  | .tup a :: l, k, h => namG_elim (args := l) (k := fun l' => k (.tup a :: l')) h
theorem namL_elim {nm : Bool} {args : List AV} {k : List AV → Prop} (h : namL nm args k) : k args := by
  cases nm
  · exact h
  · exact namG_elim h
theorem putN_elim {nm : Bool} {s : Md} {F : Fr} {d : Option Tmp} {v : AV} {k : Fr → Prop} (h : putN nm s F d v k) : k (put F d v) := by
  unfold putN at h
  split at h
  · exact putK_elim h
  · split at h
    · exact putK_elim (h _ rfl)
    · exact putK_elim h
theorem putS_elim {sp nm : Bool} {s : Md} {F : Fr} {d : Option Tmp} {v : AV} {k : Fr → Prop} (h : putS sp nm s F d v k) : k (put F d v) := by
  unfold putS at h
  split at h
  · exact putN_elim h
  · split at h
    · rcases tst_elim h with ⟨rfl, h⟩ | ⟨rfl, h⟩ <;> exact putK_elim h
    · exact putN_elim h
theorem hopK_elim {s : Md} {H : Hp} {o : Hop} {k : Hp → Prop} (h : hopK s H o k) : k (o.act H) := by
  unfold hopK at h
  split at h
  · exact h
  · split at h
    · exact setK_elim h
    · exact pushK_elim h
    · exact pushK_elim (setK_elim h)
  · split at h
    · exact setK_elim (frcB_elim h)
    · exact pushK_elim (frcB_elim h)
    · exact pushK_elim (setK_elim (frcB_elim h))
theorem hopsK_elim : ∀ {s : Md} {o : List Hop} {H : Hp} {k : Hp → Prop}, hopsK s H o k → k (acts H o)
  | _, [], _, _, h => h
  | s, o :: hs, H, k, h => hopsK_elim (s := s) (o := hs) (H := o.act H) (hopK_elim (k := fun H => hopsK s H hs k) h)

end Go.Am
