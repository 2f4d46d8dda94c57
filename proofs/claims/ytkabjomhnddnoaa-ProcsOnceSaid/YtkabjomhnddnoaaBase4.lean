/-
  The law's own call: its arguments, as they are read.
  Numbers in a row of cells.
  A law's statement, out of its call in the abstract machine.
  Functions that are called in a heap: loops with blocks that stay where they are.
-/
import Derived.Test.YtkabjomhnddnoaaBase3
import Derived.ProofKit
import Derived.OpenShut
import Derived.Carry
import Derived.JoinedCond
import Derived.SizedLaws
import Derived.IntWalk
namespace Go.Am
open Go.ChangeShapes Go.WideShapes Go.ChangeAt Go.RowKit
structure RoE where
  b : Nat
  d : Nat
  cells : List AV

def roL (w : World) (L : List RoE) (k b d : Nat) : Prop := b < w.heap.size ∧ ∃ e, L[k]? = some e ∧ e.b = b ∧ e.d = d
def GL (L : List RoE) (k : Nat) : List AV := match L[k]? with | some e => e.cells | none => []

def RoLe (ro ro' : Nat → Nat → Nat → Prop) : Prop := ∀ k b d, ro k b d → ro' k b d

mutual
theorem VR_ro {ro ro' : Nat → Nat → Nat → Prop} (h : RoLe ro ro') : ∀ (a : AV) (v : Value), VR ⟨[], ro, []⟩ a v → VR ⟨[], ro', []⟩ a v
  | .undef, v, hv => by simp only [VR] at *
  | .bool b, v, hv => by simpa only [VR] using hv
  | .int k n, v, hv => by simpa only [VR] using hv
  | .str s, v, hv => by simpa only [VR] using hv
  | .nilp, v, hv => by simpa only [VR] using hv
  | .ptr (.rw i) off, v, hv => by
    simp only [VR, PtrR] at *
    obtain ⟨e, he, _⟩ := hv
    simp at he
  | .ptr (.ro i) off, v, hv => by
    simp only [VR, PtrR] at *
    obtain ⟨b, d, he, hv⟩ := hv
    exact ⟨b, d, h _ _ _ he, hv⟩
  | .nils, v, hv => by simpa only [VR] using hv
  | .slice mb (.rw i) off len, v, hv => by
    simp only [VR, SliceR] at *
    obtain ⟨ca, cap, e, hl, hc⟩ := hv
    refine ⟨ca, cap, e, hl, ?_⟩
    rcases hc with hc | hc | ⟨e, he, _⟩
    · exact .inl hc
    · exact .inr (.inl hc)
    · simp at he
  | .slice mb (.ro i) off len, v, hv => by
    simp only [VR, SliceR] at *
    obtain ⟨ca, cap, e, hl, hc⟩ := hv
    refine ⟨ca, cap, e, hl, ?_⟩
    rcases hc with hc | hc | ⟨b, d, he, h2⟩
    · exact .inl hc
    · exact .inr (.inl hc)
    · exact .inr (.inr ⟨b, d, h _ _ _ he, h2⟩)
  | .nilf, v, hv => by simpa only [VR] using hv
  | .func f cap, v, hv => by
    simp only [VR] at *
    obtain ⟨cs, e, hs⟩ := hv
    exact ⟨cs, e, VRs_ro h cap _ hs⟩
  | .agg cs, v, hv => by
    simp only [VR] at *
    obtain ⟨vs, e, hs⟩ := hv
    exact ⟨vs, e, VRs_ro h cs _ hs⟩
  | .tup cs, v, hv => by
    simp only [VR] at *
    obtain ⟨vs, e, hs⟩ := hv
    exact ⟨vs, e, VRs_ro h cs _ hs⟩
theorem VRs_ro {ro ro' : Nat → Nat → Nat → Prop} (h : RoLe ro ro') : ∀ (as : List AV) (vs : List Value), VRs ⟨[], ro, []⟩ as vs → VRs ⟨[], ro', []⟩ as vs
  | [], vs, hv => by simpa only [VRs] using hv
  | a :: as, vs, hv => by
    simp only [VRs] at *
    obtain ⟨v, vs', e, h1, h2⟩ := hv
    exact ⟨v, vs', e, VR_ro h a v h1, VRs_ro h as vs' h2⟩
end
theorem roLe_append (w : World) (L M : List RoE) : RoLe (roL w L) (roL w (L ++ M)) := by
  rintro k b d ⟨h0, e, h1, h2⟩
  exact ⟨h0, e, by rw [List.getElem?_append_left (List.getElem?_eq_some_iff.1 h1).1]; exact h1, h2⟩

def rowOk : Nat → List (Nat × Nat) → Nat → Bool
  | acc, [], tot => acc == tot
  | acc, (o, z) :: r, tot => o == acc && rowOk (acc + z) r tot

def plainT (P : Program) : Nat → TypeId → Bool
  | 0, _ => false
  | n + 1, t =>
    match P.underlying t with
    | some .bool => true
    | some (.int _) => true
    | some .string => true
    | some (.slice e) => decide (0 < P.cellsOf e) && plainT P n e
    | some (.struct fs) => rowOk 0 (fs.toList.map fun f => (f.offset, P.cellsOf f.type)) (P.cellsOf t) && fs.toList.all fun f => plainT P n f.type
    | some (.array m e) => m * P.cellsOf e == P.cellsOf t && plainT P n e
    | _ => false

def TyD {H : Type} (P : Program) (L : List RoE) : Nat → TypeId → List AV → DataW H → Prop
  | 0, _, _, _ => False
  | n + 1, t, cs, d =>
    match P.underlying t with
    | some .bool => ∃ b, cs = [.bool b] ∧ d = .lit (.bool b)
    | some (.int k) => ∃ i, cs = [.int k i] ∧ (Lit.int k i).wf = true ∧ d = .lit (.int k i)
    | some .string => ∃ s, cs = [.str s] ∧ s.length ≤ maxLen ∧ d = .lit (.string s)
    | some (.slice e) => (cs = [.nils] ∧ d = .nil) ∨ ∃ (k : Nat) (ds sp : List (DataW H)) (en : RoE), cs = [.slice false (.ro k) 0 ds.length] ∧ d = .slice ds sp ∧ L[k]? = some en ∧
        en.cells.length = ds.length * P.cellsOf e ∧ ds.length + sp.length ≤ maxLen ∧ ∀ (i : Nat) x, ds[i]? = some x → TyD P L n e ((en.cells.drop (i * P.cellsOf e)).take (P.cellsOf e)) x
    | some (.struct fs) => cs.length = P.cellsOf t ∧ ∃ ds, d = .agg ds ∧ ds.length = fs.size ∧ ∀ (i : Nat) f x, fs[i]? = some f → ds[i]? = some x → TyD P L n f.type ((cs.drop f.offset).take (P.cellsOf f.type)) x
    | some (.array m e) => cs.length = P.cellsOf t ∧ ∃ ds, d = .agg ds ∧ ds.length = m ∧ ∀ (i : Nat) x, ds[i]? = some x → TyD P L n e ((cs.drop (i * P.cellsOf e)).take (P.cellsOf e)) x
    | _ => False

theorem TyD.mono {H : Type} {P : Program} {L : List RoE} (M : List RoE) : ∀ {n : Nat} {t : TypeId} {cs : List AV} {d : DataW H}, TyD P L n t cs d → TyD P (L ++ M) n t cs d
  | 0, _, _, _, h => h.elim
  | n + 1, t, cs, d, h => by
    unfold TyD at h ⊢
    split at h
    · exact h
    · exact h
    · exact h
    · rcases h with h | ⟨k, ds, sp, en, h1, h2, h3, h4, h5, h6⟩
      · exact .inl h
      · exact .inr ⟨k, ds, sp, en, h1, h2, by rw [List.getElem?_append_left (List.getElem?_eq_some_iff.1 h3).1]; exact h3, h4, h5, fun i x hx => (h6 i x hx).mono M⟩
    · obtain ⟨h1, ds, h2, h3, h4⟩ := h
      exact ⟨h1, ds, h2, h3, fun i f x h5 h6 => (h4 i f x h5 h6).mono M⟩
    · obtain ⟨h1, ds, h2, h3, h4⟩ := h
      exact ⟨h1, ds, h2, h3, fun i x h6 => (h4 i x h6).mono M⟩
    · exact h.elim

def RoInv (w : World) (L : List RoE) : Prop := ∀ (k : Nat) e, L[k]? = some e → ∀ (j : Nat) v, e.cells[j]? = some v → norw v = true ∧ ∃ cv, w.cell? ⟨e.b, e.d + j, none⟩ = some cv ∧ VR ⟨[], roL w L, []⟩ v cv

def sumLen {α : Type} (l : List (List α)) : Nat := (l.map List.length).sum

theorem flat_part {α : Type} : ∀ (css : List (List α)) (i : Nat) (cs : List α), css[i]? = some cs → (css.flatten.drop (sumLen (css.take i))).take cs.length = cs
  | [], i, cs, h => by simp at h
  | c :: css, 0, cs, h => by
    simp at h; subst h
    simp [sumLen]
  | c :: css, i + 1, cs, h => by
    have := flat_part css i cs (by simpa using h)
    simp only [List.flatten_cons, List.take_succ_cons, sumLen, List.map_cons, List.sum_cons]
    rw [List.drop_append, List.drop_eq_nil_of_le (by omega), List.nil_append, show c.length + (List.map List.length (List.take i css)).sum - c.length = sumLen (css.take i) by unfold sumLen; omega]
    exact this

theorem flat_vrs {ρ : Env} : ∀ {css : List (List AV)} {vss : List (List Value)}, css.length = vss.length → (∀ (i : Nat) cs vs, css[i]? = some cs → vss[i]? = some vs → VRs ρ cs vs) → VRs ρ css.flatten vss.flatten
  | [], [], _, _ => by simp [VRs]
  | c :: css, v :: vss, hl, h => by
    simp only [List.flatten_cons]
    exact VRs_append (h 0 c v rfl rfl) (flat_vrs (by simpa using hl) fun i cs vs h1 h2 => h (i + 1) cs vs (by simpa using h1) (by simpa using h2))
  | [], _ :: _, hl, _ => by simp at hl
  | _ :: _, [], hl, _ => by simp at hl

theorem row_flat {α : Type} {vs : List α} {tot : Nat} (hv : vs.length = tot) : ∀ {os : List (Nat × Nat)} {acc : Nat}, rowOk acc os tot = true → acc ≤ tot → (os.map fun p => (vs.drop p.1).take p.2).flatten = vs.drop acc
  | [], acc, h, _ => by simp [rowOk] at h; simp; omega
  | (o, z) :: os, acc, h, ha => by
    simp only [rowOk, Bool.and_eq_true, beq_iff_eq] at h
    obtain ⟨rfl, h⟩ := h
    have le : ∀ {os : List (Nat × Nat)} {a : Nat}, rowOk a os tot = true → a ≤ tot := by
      intro os
      induction os with
      | nil => intro a h; simp [rowOk] at h; omega
      | cons p os ih => intro a h; obtain ⟨x, y⟩ := p; simp only [rowOk, Bool.and_eq_true] at h; have := ih h.2; omega
    have ih := row_flat (vs := vs) hv h (le h)
    simp only [List.map_cons, List.flatten_cons, ih]
    rw [← List.drop_drop]
    exact List.take_append_drop _ _

theorem row_off {tot : Nat} : ∀ {os : List (Nat × Nat)} {acc : Nat}, rowOk acc os tot = true → ∀ (i : Nat) p, os[i]? = some p → p.1 = acc + ((os.take i).map (·.2)).sum
  | [], acc, _, i, p, h => by simp at h
  | (o, z) :: os, acc, h, i, p, hp => by
    simp only [rowOk, Bool.and_eq_true, beq_iff_eq] at h
    cases i with
    | zero => simp at hp; subst hp; simp; exact h.1
    | succ i =>
      have := row_off h.2 i p (by simpa using hp)
      simp only [List.take_succ_cons, List.map_cons, List.sum_cons]; omega

theorem row_len {α : Type} {vs : List α} {tot : Nat} (hv : vs.length = tot) : ∀ {os : List (Nat × Nat)} {acc : Nat}, rowOk acc os tot = true → ∀ p ∈ os, ((vs.drop p.1).take p.2).length = p.2
  | [], acc, _, p, h => by simp at h
  | (o, z) :: os, acc, h, p, hp => by
    simp only [rowOk, Bool.and_eq_true, beq_iff_eq] at h
    have le : ∀ {os : List (Nat × Nat)} {a : Nat}, rowOk a os tot = true → a ≤ tot := by
      intro os
      induction os with
      | nil => intro a h; simp [rowOk] at h; omega
      | cons p os ih => intro a h; obtain ⟨x, y⟩ := p; simp only [rowOk, Bool.and_eq_true] at h; have := ih h.2; omega
    rcases List.mem_cons.1 hp with rfl | hp
    · have := le h.2
      simp; omega
    · exact row_len hv h.2 p hp

theorem rowOk_range (z : Nat) : ∀ (m a : Nat), rowOk (a * z) ((List.range' a m).map fun i => (i * z, z)) ((a + m) * z) = true
  | 0, a => by simp [rowOk]
  | m + 1, a => by
    simp only [List.range'_succ, List.map_cons, rowOk, beq_self_eq_true, Bool.true_and]
    have := rowOk_range z m (a + 1)
    rw [show a * z + z = (a + 1) * z by rw [Nat.add_mul, Nat.one_mul], show a + (m + 1) = a + 1 + m by omega]
    exact this

section
variable {H : Type} {enc : TypeId × Value → H} {P : Program} {w : World}
abbrev Rd (enc : TypeId × Value → H) (P : Program) (w : World) (fuel : Nat) (t : TypeId) (vs : List Value) : Option (DataW H × List MemPlace) := DataW.trod enc P w 0 (fun _ => true) true fuel t vs

def OpenAt (enc : TypeId × Value → H) (P : Program) (w : World) (n : Nat) : Prop :=
  ∀ (fuel : Nat) (t : TypeId) (vs : List Value) (x : DataW H × List MemPlace) (L : List RoE), plainT P n t = true → RoInv w L → Rd enc P w fuel t vs = some x →
    ∃ M cs, RoInv w (L ++ M) ∧ VRs ⟨[], roL w (L ++ M), []⟩ cs vs ∧ TyD P (L ++ M) n t cs x.1 ∧ norws cs = true

theorem open_list {n : Nat} (ih : OpenAt enc P w n) : ∀ (jobs : List (TypeId × List Value × DataW H)) (L : List RoE), (∀ j ∈ jobs, plainT P n j.1 = true ∧ ∃ fuel ps, Rd enc P w fuel j.1 j.2.1 = some (j.2.2, ps)) → RoInv w L →
    ∃ (M : List RoE) (css : List (List AV)), RoInv w (L ++ M) ∧ css.length = jobs.length ∧ ∀ (i : Nat) j cs, jobs[i]? = some j → css[i]? = some cs → VRs ⟨[], roL w (L ++ M), []⟩ cs j.2.1 ∧ TyD P (L ++ M) n j.1 cs j.2.2 ∧ norws cs = true
  | [], L, _, hL => ⟨[], [], by simpa using hL, rfl, fun i j cs h => by simp at h⟩
  | j :: jobs, L, hj, hL => by
    obtain ⟨h1, fuel, ps, h2⟩ := hj j (by simp)
    obtain ⟨M, cs, g1, g2, g3, g4⟩ := ih fuel j.1 j.2.1 _ L h1 hL h2
    obtain ⟨M', css, q1, q2, q3⟩ := open_list ih jobs (L ++ M) (fun x hx => hj x (by simp [hx])) g1
    refine ⟨M ++ M', cs :: css, by rw [← List.append_assoc]; exact q1, by simp [q2], fun i x c hx hc => ?_⟩
    rw [← List.append_assoc]
    cases i with
    | zero =>
      simp at hx hc; subst hx hc
      exact ⟨VRs_ro (roLe_append _ _ _) _ _ g2, g3.mono M', g4⟩
    | succ i => exact q3 i x c (by simpa using hx) (by simpa using hc)

theorem flat_norws {css : List (List AV)} (h : ∀ cs ∈ css, norws cs = true) : norws css.flatten = true := by
  rw [norws_eq, List.all_eq_true]
  intro v hv
  obtain ⟨cs, h1, h2⟩ := List.mem_flatten.1 hv
  have := h cs h1
  rw [norws_eq, List.all_eq_true] at this
  exact this v h2

theorem open_row {n : Nat} (ih : OpenAt enc P w n) {vs : List Value} {tot : Nat} (hv : vs.length = tot) (items : List (TypeId × Nat × DataW H)) (hrow : rowOk 0 (items.map fun x => (x.2.1, P.cellsOf x.1)) tot = true) (L : List RoE)
    (hi : ∀ x ∈ items, plainT P n x.1 = true ∧ ∃ fuel ps, Rd enc P w fuel x.1 ((vs.drop x.2.1).take (P.cellsOf x.1)) = some (x.2.2, ps)) (hL : RoInv w L) :
    ∃ M cs, RoInv w (L ++ M) ∧ VRs ⟨[], roL w (L ++ M), []⟩ cs vs ∧ norws cs = true ∧ ∀ (i : Nat) x, items[i]? = some x → TyD P (L ++ M) n x.1 ((cs.drop x.2.1).take (P.cellsOf x.1)) x.2.2 := by
  obtain ⟨M, css, h1, h2, h3⟩ := open_list ih (items.map fun x => (x.1, (vs.drop x.2.1).take (P.cellsOf x.1), x.2.2)) L (fun j hj => by
    obtain ⟨x, hx, rfl⟩ := List.mem_map.1 hj
    exact hi x hx) hL
  simp only [List.length_map] at h2
  have key : ∀ (i : Nat) x cs, items[i]? = some x → css[i]? = some cs → VRs ⟨[], roL w (L ++ M), []⟩ cs ((vs.drop x.2.1).take (P.cellsOf x.1)) ∧ TyD P (L ++ M) n x.1 cs x.2.2 ∧ norws cs = true := fun i x cs hx hc =>
    h3 i (x.1, (vs.drop x.2.1).take (P.cellsOf x.1), x.2.2) cs (by simp only [List.getElem?_map, hx, Option.map_some]) hc
  have hlen : ∀ (i : Nat) x cs, items[i]? = some x → css[i]? = some cs → cs.length = P.cellsOf x.1 := fun i x cs hx hc => by
    have := VRs_length (key i x cs hx hc).1
    rw [← this]
    have hm : (x.2.1, P.cellsOf x.1) ∈ items.map fun x => (x.2.1, P.cellsOf x.1) := List.mem_map.2 ⟨x, List.mem_of_getElem? hx, rfl⟩
    exact row_len hv hrow _ hm
  refine ⟨M, css.flatten, h1, ?_, flat_norws fun cs hcs => ?_, fun i x hx => ?_⟩
  rotate_left
  · obtain ⟨i, hi⟩ := List.getElem?_of_mem hcs
    have hil : i < items.length := by rw [← h2]; exact (List.getElem?_eq_some_iff.1 hi).1
    exact (key i _ cs (List.getElem?_eq_getElem hil) hi).2.2
  rotate_left
  · have := flat_vrs (ρ := ⟨[], roL w (L ++ M), []⟩) (css := css) (vss := items.map fun x => (vs.drop x.2.1).take (P.cellsOf x.1)) (by simp [h2]) fun i cs v hc hv' => by
      simp only [List.getElem?_map, Option.map_eq_some_iff] at hv'
      obtain ⟨x, hx, rfl⟩ := hv'
      exact (key i x cs hx hc).1
    have hf := row_flat (vs := vs) hv hrow (Nat.zero_le _)
    rw [List.map_map] at hf
    simp only [List.drop_zero] at hf
    rw [← hf]
    exact this
  · have hil : i < css.length := by rw [h2]; exact (List.getElem?_eq_some_iff.1 hx).1
    obtain ⟨cs, hc⟩ : ∃ cs, css[i]? = some cs := ⟨_, List.getElem?_eq_getElem hil⟩
    have e1 := flat_part css i cs hc
    have e2 : sumLen (css.take i) = x.2.1 := by
      have ho := row_off hrow i (x.2.1, P.cellsOf x.1) (by simp only [List.getElem?_map, hx, Option.map_some])
      simp only [Nat.zero_add] at ho
      rw [ho]
      unfold sumLen
      congr 1
      rw [List.map_take, List.map_take, List.map_map]
      apply List.ext_getElem?
      intro k
      simp only [List.getElem?_take, List.getElem?_map]
      split
      · have hk : k < css.length := by omega
        have hk2 : k < items.length := by omega
        have a1 : css[k]? = some css[k] := List.getElem?_eq_getElem hk
        have a2 : items[k]? = some items[k] := List.getElem?_eq_getElem hk2
        rw [a1, a2]
        simp only [Option.map_some, Function.comp]
        rw [hlen k _ _ a2 a1]
      · rfl
    rw [e2, hlen i x cs hx hc] at e1
    rw [e1]
    exact (key i x cs hx hc).2.1

theorem cells?_get {a : Addr} {n : Nat} {cs : List Value} (h : w.cells? 0 a n = some cs) : cs.length = n ∧ ∀ (j : Nat) v, cs[j]? = some v → w.cell? (a.add j) = some v := by
  unfold World.cells? at h
  rw [if_pos (Nat.zero_le _)] at h
  have hl := mapM_some_length h
  simp only [List.length_range] at hl
  refine ⟨hl, fun j v hv => ?_⟩
  have hj : j < n := by rw [← hl]; exact (List.getElem?_eq_some_iff.1 hv).1
  have := mapM_some_get h j j (by simp [hj])
  rw [this]; exact hv

theorem cell_spot {b o : Nat} {sp : Option Nat} {v : Value} (h : w.cell? ⟨b, o, sp⟩ = some v) : sp = none := by
  unfold World.cell? at h
  split at h
  · split at h
    · simp at h
    · rename_i hs; simpa using hs
  · simp at h

theorem cell_add {a : Addr} {x y : Nat} {v : Value} (h : w.cell? ((a.add x).add y) = some v) : w.cell? ⟨a.block, a.off + (x + y), none⟩ = some v := by
  obtain ⟨b, o, s⟩ := a
  by_cases hx : x = 0 <;> by_cases hy : y = 0 <;> simp only [Addr.add, hx, hy, if_true, if_false] at h ⊢
  · have := cell_spot h
    subst this
    simpa using h
  · simpa using h
  · simpa using h
  · simpa [Nat.add_assoc] using h

theorem open_at : ∀ n, OpenAt enc P w n
  | 0 => fun fuel t vs x L hp => by simp [plainT] at hp
  | n + 1 => by
    have ih := open_at n
    intro fuel t vs x L hp hL hd
    unfold plainT at hp
    unfold TyD
    split at hp
    · rename_i hu
      cases fuel with
      | zero => simp [Rd, DataW.trod] at hd
      | succ fuel =>
        simp only [Rd] at hd
        unfold DataW.trod at hd
        rw [hu] at hd
        split at hd <;> first | (simp_all; done) | skip
        rename_i b _
        simp only [Option.some.injEq] at hd
        subst hd
        refine ⟨[], [.bool b], by simpa using hL, ?_, ⟨b, rfl, rfl⟩, by simp [norws, norw]⟩
        simp only [VRs, VR]
        exact ⟨_, _, rfl, rfl, rfl⟩
    · rename_i k hu
      obtain ⟨i, rfl, rfl, hw⟩ := DataW.trod_int hu hd
      refine ⟨[], [.int k i], by simpa using hL, ?_, ?_, by simp [norws, norw]⟩
      · simp only [VRs, VR]; exact ⟨_, _, rfl, rfl, rfl⟩
      · exact ⟨i, rfl, hw, rfl⟩
    · rename_i hu
      obtain ⟨s, rfl, rfl, hw⟩ := DataW.trod_string hu hd
      refine ⟨[], [.str s.data.toList], by simpa using hL, ?_, ?_, by simp [norws, norw]⟩
      · simp only [VRs, VR]; exact ⟨_, _, rfl, by simp, rfl⟩
      · exact ⟨_, rfl, by rw [Array.length_toList]; exact hw, rfl⟩
    · rename_i e hu
      simp only [Bool.and_eq_true, decide_eq_true_eq] at hp
      rcases DataW.trod_slice hu hd with ⟨rfl, rfl⟩ | ⟨a, len, cap, elems, rest, m, rfl, rfl, rfl, hb, hl, hm, hlen, hel, hsp, hns⟩
      · refine ⟨[], [.nils], by simpa using hL, ?_, ?_, by simp [norws, norw]⟩
        · simp only [VRs, VR]; exact ⟨_, _, rfl, rfl, rfl⟩
        · exact .inl ⟨rfl, rfl⟩
      · -- the elements
        have hcell : ∀ i, i < len → ∃ cs y, w.cells? 0 (a.add (i * P.cellsOf e)) (P.cellsOf e) = some cs ∧ Rd enc P w m e cs = some y ∧ elems[i]? = some y := fun i hi => by
          have h1 := hel i hi
          have : i < elems.length := by omega
          rw [List.getElem?_eq_getElem this] at h1
          obtain ⟨cs, h2, h3⟩ := Option.bind_eq_some_iff.1 h1
          exact ⟨cs, _, h2, h3, List.getElem?_eq_getElem this⟩
        let vsAt : Nat → List Value := fun i => (w.cells? 0 (a.add (i * P.cellsOf e)) (P.cellsOf e)).getD []
        obtain ⟨M, css, h1, h2, h3⟩ := open_list ih ((List.range len).map fun i => (e, vsAt i, ((elems[i]?).map (·.1)).getD .nil)) L (by
          intro j hj
          simp only [List.mem_map, List.mem_range] at hj
          obtain ⟨i, hi, rfl⟩ := hj
          obtain ⟨cs, y, q1, q2, q3⟩ := hcell i hi
          refine ⟨hp.2, m, y.2, ?_⟩
          simp only [vsAt, q1, q3, Option.getD_some, Option.map_some]
          exact q2) hL
        simp only [List.length_map, List.length_range] at h2
        have key : ∀ (i : Nat) cs, i < len → css[i]? = some cs → VRs ⟨[], roL w (L ++ M), []⟩ cs (vsAt i) ∧ TyD P (L ++ M) n e cs (((elems[i]?).map (·.1)).getD .nil) ∧ norws cs = true := fun i cs hi hc =>
          h3 i _ cs (by rw [List.getElem?_map, List.getElem?_range hi]; rfl) hc
        have vlen : ∀ i, i < len → (vsAt i).length = P.cellsOf e := fun i hi => by
          obtain ⟨cs, y, q1, _, _⟩ := hcell i hi
          simp only [vsAt, q1, Option.getD_some]
          exact (cells?_get q1).1
        have clen : ∀ (i : Nat) cs, css[i]? = some cs → cs.length = P.cellsOf e := fun i cs hc => by
          have hi : i < len := by rw [← h2]; exact (List.getElem?_eq_some_iff.1 hc).1
          rw [← VRs_length (key i cs hi hc).1, vlen i hi]
        have hsum : ∀ (i : Nat), i ≤ css.length → sumLen (css.take i) = i * P.cellsOf e := by
          intro i
          induction i with
          | zero => intro _; simp [sumLen]
          | succ i ihi =>
            intro hi
            have hil : i < css.length := by omega
            have : css.take (i + 1) = css.take i ++ [css[i]] := by simp
            rw [this]
            have e1 : sumLen (css.take i ++ [css[i]]) = sumLen (css.take i) + css[i].length := by unfold sumLen; rw [List.map_append, List.sum_append]; simp only [List.map_cons, List.map_nil, List.sum_cons, List.sum_nil, Nat.add_zero]
            rw [e1, ihi (by omega), clen i _ (List.getElem?_eq_getElem hil), Nat.add_mul, Nat.one_mul]
        have flen : css.flatten.length = len * P.cellsOf e := by
          have := hsum css.length (Nat.le_refl _)
          rw [List.take_length, h2] at this
          rw [List.length_flatten]
          exact this
        let en : RoE := ⟨a.block, a.off, css.flatten⟩
        have hvf : VRs ⟨[], roL w (L ++ M), []⟩ css.flatten ((List.range len).map vsAt).flatten := flat_vrs (by simp [h2]) fun i cs v hc hv => by
          have hi : i < len := by rw [← h2]; exact (List.getElem?_eq_some_iff.1 hc).1
          rw [List.getElem?_map, List.getElem?_range hi] at hv
          simp at hv; subst hv
          exact (key i cs hi hc).1
        have hcells : ∀ (vss : List (List Value)) (k : Nat), (∀ (i : Nat) vs, vss[i]? = some vs → vs.length = P.cellsOf e ∧ ∀ (r : Nat) v, vs[r]? = some v → w.cell? ⟨a.block, a.off + (k + (i * P.cellsOf e + r)), none⟩ = some v) →
            ∀ (j : Nat) v, vss.flatten[j]? = some v → w.cell? ⟨a.block, a.off + (k + j), none⟩ = some v := by
          intro vss
          induction vss with
          | nil => intro k _ j v hv; simp at hv
          | cons vs vss ihv =>
            intro k hk j v hv
            obtain ⟨hl0, hr0⟩ := hk 0 vs rfl
            simp only [List.flatten_cons] at hv
            by_cases hj : j < vs.length
            · rw [List.getElem?_append_left hj] at hv
              have := hr0 j v hv
              simpa using this
            · rw [List.getElem?_append_right (by omega)] at hv
              have := ihv (k + P.cellsOf e) (fun i vs' hvs => by
                obtain ⟨g1, g2⟩ := hk (i + 1) vs' (by simpa using hvs)
                refine ⟨g1, fun r v hr => ?_⟩
                have := g2 r v hr
                rw [Nat.add_mul, Nat.one_mul] at this
                rw [show k + P.cellsOf e + (i * P.cellsOf e + r) = k + (i * P.cellsOf e + P.cellsOf e + r) by omega]
                exact this) _ v hv
              rw [show k + P.cellsOf e + (j - vs.length) = k + j by omega] at this
              exact this
        have hmem := hcells ((List.range len).map vsAt) 0 (fun i vs hvs => by
          have hi : i < len := by have := (List.getElem?_eq_some_iff.1 hvs).1; simpa using this
          rw [List.getElem?_map, List.getElem?_range hi] at hvs
          simp at hvs; subst hvs
          refine ⟨vlen i hi, fun r v hr => ?_⟩
          obtain ⟨cs, y, q1, _, _⟩ := hcell i hi
          simp only [vsAt, q1, Option.getD_some] at hr
          rw [Nat.zero_add]
          exact cell_add ((cells?_get q1).2 r v hr))
        have hL' : RoInv w (L ++ M ++ [en]) := by
          intro k e' hk j v hv
          by_cases hkl : k < (L ++ M).length
          · rw [List.getElem?_append_left hkl] at hk
            obtain ⟨g0, cv, g1, g2⟩ := h1 k e' hk j v hv
            exact ⟨g0, cv, g1, VR_ro (roLe_append _ _ _) _ _ g2⟩
          · rw [List.getElem?_append_right (by omega)] at hk
            have : e' = en := by
              cases hkk : k - (L ++ M).length with
              | zero => rw [hkk] at hk; simp at hk; exact hk.symm
              | succ q => rw [hkk] at hk; simp at hk
            subst this
            obtain ⟨cv, g1, g2⟩ := VRs_get hvf j v hv
            have hnw : norws css.flatten = true := flat_norws fun cs hcs => by
              obtain ⟨i, hi⟩ := List.getElem?_of_mem hcs
              exact (key i cs (by rw [← h2]; exact (List.getElem?_eq_some_iff.1 hi).1) hi).2.2
            rw [norws_eq, List.all_eq_true] at hnw
            refine ⟨hnw v (List.mem_of_getElem? hv), cv, ?_, VR_ro (roLe_append _ _ _) _ _ g2⟩
            have := hmem j cv g1
            simpa using this
        refine ⟨M ++ [en], [.slice false (.ro (L ++ M).length) 0 len], by rw [← List.append_assoc]; exact hL', ?_, ?_, by simp [norws, norw]⟩
        · simp only [VRs, VR]
          refine ⟨_, _, rfl, ⟨some a, cap, rfl, hl, ?_⟩, rfl⟩
          by_cases hc0 : cap = 0
          · exact .inr (.inl ⟨⟨a, rfl⟩, hc0⟩)
          · refine .inr (.inr ?_)
            have hspot : ∃ v, w.cell? a = some v := by
              have pos := hp.1
              by_cases hl0 : len = 0
              · obtain ⟨hr1, hr2⟩ := hsp rfl
                have h0 := hr2 0 (by omega)
                have hr0 : 0 < rest.length := by omega
                rw [List.getElem?_eq_getElem hr0] at h0
                obtain ⟨cs, q1, _⟩ := Option.bind_eq_some_iff.1 h0
                obtain ⟨g1, g2⟩ := cells?_get q1
                have hcs : 0 < cs.length := by omega
                have := g2 0 cs[0] (List.getElem?_eq_getElem hcs)
                refine ⟨cs[0], ?_⟩
                simpa [hl0, Addr.add] using this
              · obtain ⟨cs, y, q1, _, _⟩ := hcell 0 (by omega)
                obtain ⟨g1, g2⟩ := cells?_get q1
                have hcs : 0 < cs.length := by omega
                have := g2 0 cs[0] (List.getElem?_eq_getElem hcs)
                refine ⟨cs[0], ?_⟩
                simpa [Addr.add] using this
            obtain ⟨v, hv⟩ := hspot
            have hs : a.spot = none := by
              unfold World.cell? at hv
              split at hv
              · split at hv
                · simp at hv
                · rename_i hs; simpa using hs
              · simp at hv
            have hlt : a.block < w.heap.size := by
              unfold World.cell? at hv
              split at hv
              · rename_i hc
                exact (Array.getElem?_eq_some_iff.1 hc).1
              · simp at hv
            refine ⟨a.block, a.off, ⟨hlt, en, by rw [← List.append_assoc]; simp, rfl, rfl⟩, ?_⟩
            obtain ⟨ab, ao, as⟩ := a
            simp only at hs
            subst hs
            rfl
        · refine .inr ⟨(L ++ M).length, elems.map (·.1), rest.map (·.1), en, by simp [hlen], rfl, by rw [← List.append_assoc]; simp, ?_, ?_, fun i x hx => ?_⟩
          · show css.flatten.length = _
            rw [flen]; simp [hlen]
          · have := (hsp rfl).1
            simp; omega
          · have hi : i < len := by have := (List.getElem?_eq_some_iff.1 hx).1; simpa [hlen] using this
            have hil : i < css.length := by omega
            have hc : css[i]? = some css[i] := List.getElem?_eq_getElem hil
            have e1 := flat_part css i _ hc
            rw [hsum i (by omega), clen i _ hc] at e1
            show TyD P _ n e ((css.flatten.drop (i * P.cellsOf e)).take (P.cellsOf e)) x
            rw [e1, ← List.append_assoc]
            refine TyD.mono [en] ?_
            have := (key i _ hi hc).2.1
            rw [List.getElem?_map] at hx
            obtain ⟨y, q1, q2⟩ := Option.map_eq_some_iff.1 hx
            rw [q1] at this
            simp only [Option.map_some, Option.getD_some] at this
            rw [q2] at this
            exact this
    · rename_i fs hu
      simp only [Bool.and_eq_true, List.all_eq_true] at hp
      obtain ⟨xs, m, rfl, rfl, hl, hlen, hf⟩ := DataW.trod_struct hu hd
      have hget : ∀ (i : Nat) f, fs[i]? = some f → ∃ y, xs[i]? = some y ∧ Rd enc P w m f.type ((vs.drop f.offset).take (P.cellsOf f.type)) = some y := fun i f h => by
        have hi : i < xs.length := by rw [hlen]; exact (Array.getElem?_eq_some_iff.1 h).1
        refine ⟨xs[i], List.getElem?_eq_getElem hi, ?_⟩
        rw [← List.getElem?_eq_getElem hi]
        exact hf i f h
      let items : List (TypeId × Nat × DataW H) := (List.range fs.size).map fun i => (((fs[i]?).map (·.type)).getD 0, ((fs[i]?).map (·.offset)).getD 0, ((xs[i]?).map (·.1)).getD .nil)
      have hitem : ∀ (i : Nat) f y, fs[i]? = some f → xs[i]? = some y → items[i]? = some (f.type, f.offset, y.1) := fun i f y h1 h2 => by
        have hi : i < fs.size := (Array.getElem?_eq_some_iff.1 h1).1
        simp only [items, List.getElem?_map, List.getElem?_range hi, Option.map_some, h1, h2, Option.getD_some]
      have hrow : rowOk 0 (items.map fun x => (x.2.1, P.cellsOf x.1)) (P.cellsOf t) = true := by
        have : (items.map fun x => (x.2.1, P.cellsOf x.1)) = fs.toList.map fun f => (f.offset, P.cellsOf f.type) := by
          apply List.ext_getElem?
          intro i
          simp only [List.getElem?_map]
          by_cases hi : i < fs.size
          · have h1 : fs[i]? = some fs[i] := Array.getElem?_eq_getElem hi
            obtain ⟨y, h2, _⟩ := hget i _ h1
            rw [hitem i _ y h1 h2]
            simp [hi]
          · have : items.length = fs.size := by simp [items]
            rw [List.getElem?_eq_none (by omega), List.getElem?_eq_none (by simp; omega)]
            rfl
        rw [this]; exact hp.1
      obtain ⟨M, cs, h1, h2, hnw, h3⟩ := open_row ih hl items hrow L (fun x hx => by
        obtain ⟨i, hi⟩ := List.getElem?_of_mem hx
        have hil : i < fs.size := by have := (List.getElem?_eq_some_iff.1 hi).1; simpa [items] using this
        have q1 : fs[i]? = some fs[i] := Array.getElem?_eq_getElem hil
        obtain ⟨y, q2, q3⟩ := hget i _ q1
        rw [hitem i _ y q1 q2] at hi
        simp at hi; subst hi
        exact ⟨hp.2 _ (by simp), m, y.2, q3⟩) hL
      refine ⟨M, cs, h1, h2, ?_, hnw⟩
      refine ⟨by rw [← VRs_length h2, hl], xs.map (·.1), rfl, by simp [hlen], fun i f x hi hx => ?_⟩
      rw [List.getElem?_map] at hx
      obtain ⟨y, q1, q2⟩ := Option.map_eq_some_iff.1 hx
      have := h3 i _ (hitem i f y hi q1)
      rw [q2] at this
      exact this
    · rename_i k e hu
      simp only [Bool.and_eq_true, beq_iff_eq] at hp
      obtain ⟨xs, m, rfl, rfl, hl, hlen, hf⟩ := DataW.trod_array hu hd
      let items : List (TypeId × Nat × DataW H) := (List.range k).map fun i => (e, i * P.cellsOf e, ((xs[i]?).map (·.1)).getD .nil)
      have hitem : ∀ (i : Nat) y, xs[i]? = some y → items[i]? = some (e, i * P.cellsOf e, y.1) := fun i y h2 => by
        have hi : i < k := by rw [← hlen]; exact (List.getElem?_eq_some_iff.1 h2).1
        simp only [items, List.getElem?_map, List.getElem?_range hi, Option.map_some, h2, Option.getD_some]
      have hrow : rowOk 0 (items.map fun x => (x.2.1, P.cellsOf x.1)) (P.cellsOf t) = true := by
        have := rowOk_range (P.cellsOf e) k 0
        rw [Nat.zero_mul, Nat.zero_add, hp.1] at this
        simp only [items, List.map_map, List.range_eq_range']
        exact this
      obtain ⟨M, cs, h1, h2, hnw, h3⟩ := open_row ih hl items hrow L (fun x hx => by
        obtain ⟨i, hi⟩ := List.getElem?_of_mem hx
        have hil : i < k := by have := (List.getElem?_eq_some_iff.1 hi).1; simpa [items] using this
        have q2 : xs[i]? = some xs[i] := List.getElem?_eq_getElem (by omega)
        rw [hitem i _ q2] at hi
        simp at hi; subst hi
        refine ⟨hp.2, m, (xs[i]).2, ?_⟩
        have := hf i hil
        rw [q2] at this
        exact this) hL
      refine ⟨M, cs, h1, h2, ?_, hnw⟩
      refine ⟨by rw [← VRs_length h2, hl], xs.map (·.1), rfl, by simp [hlen], fun i x hx => ?_⟩
      rw [List.getElem?_map] at hx
      obtain ⟨y, q1, q2⟩ := Option.map_eq_some_iff.1 hx
      have := h3 i _ (hitem i y q1)
      rw [q2] at this
      exact this
    · simp at hp
end
end Go.Am
namespace Go.Am
def okI (k : IntKind) (cs : List AV) (off n : Nat) : Bool := (List.range n).all fun j => isI k cs (off + j)
theorem okI_get {k : IntKind} {cs : List AV} {off n j : Nat} (h : okI k cs off n = true) (hj : j < n) : isI k cs (off + j) = true := by
  simp only [okI, List.all_eq_true, List.mem_range] at h
  exact h j hj
theorem okI_of {k : IntKind} {cs : List AV} {off n : Nat} (h : ∀ j, j < n → isI k cs (off + j) = true) : okI k cs off n = true := by
  simp only [okI, List.all_eq_true, List.mem_range]; exact h
theorem i64_in {n : Int} (h : -9223372036854775808 ≤ n ∧ n ≤ 9223372036854775807) : IntKind.i64.wrap n = n := IntWalk.i64_in n h

def fill (a : List AV) (g : Nat → AV) (i : Nat) : List AV := (List.range a.length).map fun k => if k < i then g k else a.getD k .undef
def flat (v : AV) : Bool := bnd 0 v && noro v
theorem wk_length : ∀ {a b : List AV}, wk a b → a.length = b.length
  | [], [], _ => rfl
  | [], _ :: _, h => by simp [wk] at h
  | x :: a, [], h => by cases x <;> simp [wk] at h
  | x :: a, y :: b, h => by
    have : wk a b := by cases x <;> simp only [wk] at h <;> first | exact h | exact h.2
    simp [wk_length this]
def blks (θ : List Nat) (H' : Hp) (n : Nat) : List Nat → Hp → Prop
  | [], [] => True
  | j :: js, none :: H => j < H'.length ∧ blks θ H' n js H
  | j :: js, some b :: H => (bnds n b.cells = true ∧ H'[j]? = some (some ⟨b.esz, rens θ b.cells⟩)) ∧ blks θ H' n js H
  | _, _ => False
theorem blks_len {θ : List Nat} {H' : Hp} {n : Nat} : ∀ {js : List Nat} {H : Hp}, blks θ H' n js H → js.length = H.length
  | [], [], _ => rfl
  | [], _ :: _, h => h.elim
  | _ :: _, [], h => by simp [blks] at h
  | j :: js, none :: H, h => by simp [blks_len h.2]
  | j :: js, some b :: H, h => by simp [blks_len h.2]
theorem blks_get {θ : List Nat} {H' : Hp} {n : Nat} : ∀ {js : List Nat} {H : Hp}, blks θ H' n js H → ∀ (i : Nat), i < js.length → js.getD i 0 < H'.length ∧ ∀ b, H[i]? = some (some b) → bnds n b.cells = true ∧ H'[js.getD i 0]? = some (some ⟨b.esz, rens θ b.cells⟩)
  | [], [], _, i, hi => by simp at hi
  | [], _ :: _, h, _, _ => h.elim
  | _ :: _, [], h, _, _ => by simp [blks] at h
  | j :: js, none :: H, h, i, hi => by
    cases i with
    | zero => exact ⟨h.1, fun b hb => by simp at hb⟩
    | succ i => simpa using blks_get h.2 i (by simpa using hi)
  | j :: js, some b :: H, h, i, hi => by
    cases i with
    | zero => exact ⟨(List.getElem?_eq_some_iff.1 h.1.2).1, fun b' hb => by simp at hb; subst hb; exact h.1⟩
    | succ i => simpa using blks_get h.2 i (by simpa using hi)
theorem View.ren {θ : List Nat} {F F' : Fr} {H H' : Hp} (hnd : θ.Nodup) (hb : blks θ H' H.length θ H) (hF : bnds H.length F = true) (hF' : wk (rens θ F) F') : View 0 F H F' H' := by
  have hl := blks_len hb
  have hg := blks_get hb
  refine ⟨θ, hl, Nat.zero_le _, fun i hi => by omega, fun i hi => (hg i hi).1, fun i j b b' h1 h2 he => ?_, fun i b h => ?_, by rw [← wk_length hF', rens_eq]; simp, fun k v hk => ?_⟩
  · have hi : i < θ.length := by rw [hl]; exact (List.getElem?_eq_some_iff.1 h1).1
    have hj : j < θ.length := by rw [hl]; exact (List.getElem?_eq_some_iff.1 h2).1
    simp only [List.getD, List.getElem?_eq_getElem hi, List.getElem?_eq_getElem hj, Option.getD_some] at he
    exact (List.getElem_inj hnd).1 he
  · have hi : i < θ.length := by rw [hl]; exact (List.getElem?_eq_some_iff.1 h).1
    obtain ⟨g1, g2⟩ := (hg i hi).2 b h
    refine ⟨_, g2, by rw [rens_eq]; simp, rfl, fun k v hk => ?_, fun _ => ⟨by rw [rens_eq]; simp, by rw [rens_eq]; simp⟩⟩
    rw [bnds_eq, List.all_eq_true] at g1
    refine ⟨by rw [hl]; exact g1 v (List.mem_of_getElem? hk), .inr ?_⟩
    rw [rens_eq]; simp [hk]
  · rw [bnds_eq, List.all_eq_true] at hF
    refine ⟨by rw [hl]; exact hF v (List.mem_of_getElem? hk), ?_⟩
    rcases wk_get hF' k (Go.Am.ren θ v) (by rw [rens_eq]; simp [hk]) with h | h
    · left
      cases v with
      | undef => rfl
      | ptr r o => cases r <;> simp [Go.Am.ren] at h
      | slice m r o n => cases r <;> simp [Go.Am.ren] at h
      | _ => simp [Go.Am.ren] at h
    · exact .inr h

abbrev Sum1 := List AV → Hp → Option (Bool × AV × List Hop)
def sums : List (FuncId × Sum1) → Sums
  | [], _, _, _ => none
  | (g, s) :: l, f, args, H => match Nat.beq f g with
    | true => s args H
    | false => sums l f args H
def SumOk (C : Ctx) (f : FuncId) (s : Sum1) : Prop := ∀ args H v hs, s args H = some (true, v, hs) → ACalls C f args H fun v' H' => v' = v ∧ H' = acts H hs
def lps (e : Nat) (a b : Loops) : Loops := fun c F H => match exOf c with
  | some i => match Nat.beq i e with
    | true => a c F H
    | false => b c F H
  | none => none
def LoopOk (C : Ctx) (c : Code) (l : Loops) : Prop := ∀ F H e F' H', l c F H = some (true, e, F', H') → AWp C 0 (.loop c) F H fun e' F'' H'' => e' = e ∧ F'' = F' ∧ H'' = H'
theorem LoopOk.left {C : Ctx} {c : Code} {e : Nat} {a b : Loops} (he : exOf c = some e) (h : LoopOk C c a) : LoopOk C c (lps e a b) := by
  intro F H e' F' H' h'
  simp only [lps, he, Nat.beq_refl] at h'
  exact h F H e' F' H' h'
theorem LoopOk.right {C : Ctx} {c : Code} {e i : Nat} {a b : Loops} (he : exOf c = some i) (hi : Nat.beq i e = false) (h : LoopOk C c b) : LoopOk C c (lps e a b) := by
  intro F H e' F' H' h'
  simp only [lps, he, hi] at h'
  exact h F H e' F' H' h'
theorem LoopsOk.nil {C : Ctx} {l : Loops} : LoopsOk C [] l := fun c F H e F' H' h => by simp at h
theorem LoopsOk.cons {C : Ctx} {c : Code} {cs : List Code} {l : Loops} (h1 : LoopOk C c l) (h2 : LoopsOk C cs l) : LoopsOk C (c :: cs) l := by
  intro c' F H e F' H' h h'
  rcases List.mem_cons.1 h with rfl | h
  · exact h1 F H e F' H' h'
  · exact h2 c' F H e F' H' h h'
theorem LoopsOk.cast {C : Ctx} {cs ds : List Code} {l : Loops} (h : LoopsOk C ds l) (e : cs = ds) : LoopsOk C cs l := by rw [e]; exact h
end Go.Am
namespace Go.Am
open Go.ChangeShapes Go.WideShapes Go.ChangeAt Go.RowKit
def ArgD {H : Type} (P : Program) (L : List RoE) (n : Nat) (t : TypeId) (a : AV) (d : DataW H) : Prop :=
  match P.underlying t with
  | some (.struct _) => ∃ cs, a = .agg cs ∧ TyD P L n t cs d
  | some (.array _ _) => ∃ cs, a = .agg cs ∧ TyD P L n t cs d
  | _ => TyD P L n t [a] d

def ArgDs {H : Type} (P : Program) (L : List RoE) (n : Nat) : List TypeId → List AV → List (DataW H) → Prop
  | [], [], [] => True
  | t :: ts, a :: as, d :: ds => ArgD P L n t a d ∧ ArgDs P L n ts as ds
  | _, _, _ => False

theorem ArgD.mono {H : Type} {P : Program} {L : List RoE} (M : List RoE) {n : Nat} {t : TypeId} {a : AV} {d : DataW H} (h : ArgD P L n t a d) : ArgD P (L ++ M) n t a d := by
  unfold ArgD at h ⊢
  split at h
  · obtain ⟨cs, h1, h2⟩ := h; exact ⟨cs, h1, h2.mono M⟩
  · obtain ⟨cs, h1, h2⟩ := h; exact ⟨cs, h1, h2.mono M⟩
  · exact TyD.mono M h

section
variable {H : Type} {enc : TypeId × Value → H} {P : Program} {w : World}
theorem one_cell {n : Nat} {t : TypeId} {d : DataW H} {L : List RoE} {cs : List AV} (h : TyD P L n t cs d) (hs : ∀ fs, P.underlying t ≠ some (.struct fs)) (ha : ∀ m e, P.underlying t ≠ some (.array m e)) : ∃ a, cs = [a] := by
  cases n with
  | zero => exact h.elim
  | succ n =>
    unfold TyD at h
    split at h
    · obtain ⟨b, h, _⟩ := h; exact ⟨_, h⟩
    · obtain ⟨b, h, _⟩ := h; exact ⟨_, h⟩
    · obtain ⟨b, h, _⟩ := h; exact ⟨_, h⟩
    · rcases h with ⟨h, _⟩ | ⟨_, _, _, _, h, _⟩
      · exact ⟨_, h⟩
      · exact ⟨_, h⟩
    · rename_i hu; exact absurd hu (hs _)
    · rename_i hu; exact absurd hu (ha _ _)
    · exact h.elim

theorem cells_self {t : TypeId} {v : Value} {r : Reach} {b0 n : Nat} (hp : plainT P n t = true) (hval : Value.okWide P w r b0 t v) (hs : ∀ fs, P.underlying t ≠ some (.struct fs)) (ha : ∀ m e, P.underlying t ≠ some (.array m e)) : v.cells.toList = [v] := by
  cases n with
  | zero => simp [plainT] at hp
  | succ n =>
    unfold plainT at hp
    unfold Value.okWide at hval
    split at hp
    all_goals first
      | (rename_i hu; rw [hu] at hval; simp only [Cell.okWide, hu, Cell.ok] at hval; cases v <;> first | (simp at hval; done) | rfl)
      | (rename_i hu; exact absurd hu (hs _))
      | (rename_i hu; exact absurd hu (ha _ _))
      | simp at hp

theorem open_arg {n : Nat} {t : TypeId} {v : Value} {r : Reach} {b0 : Nat} {d : DataW H} {ps : List MemPlace} (L : List RoE) (hp : plainT P n t = true) (hval : Value.okWide P w r b0 t v) (hL : RoInv w L) (hd : DataW.Trod enc P w 0 (fun _ => true) true t v d ps) :
    ∃ M a, RoInv w (L ++ M) ∧ VR ⟨[], roL w (L ++ M), []⟩ a v ∧ ArgD P (L ++ M) n t a d := by
  obtain ⟨fuel, hd⟩ := hd
  obtain ⟨M, cs, h1, h2, h3, _⟩ := open_at n fuel t _ _ L hp hL hd
  have agg : ∀ ca, v = .agg ca → VR ⟨[], roL w (L ++ M), []⟩ (.agg cs) v := fun ca hca => by
    subst hca
    simp only [VR]
    exact ⟨ca, rfl, by simpa [Value.cells] using h2⟩
  by_cases hs : ∃ fs, P.underlying t = some (.struct fs)
  · obtain ⟨fs, hu⟩ := hs
    unfold Value.okWide at hval
    rw [hu] at hval
    obtain ⟨ca, hca, _⟩ := hval
    refine ⟨M, .agg cs, h1, agg ca hca, ?_⟩
    unfold ArgD; rw [hu]; exact ⟨cs, rfl, h3⟩
  by_cases ha : ∃ m e, P.underlying t = some (.array m e)
  · obtain ⟨m, e, hu⟩ := ha
    unfold Value.okWide at hval
    rw [hu] at hval
    obtain ⟨ca, hca, _⟩ := hval
    refine ⟨M, .agg cs, h1, agg ca hca, ?_⟩
    unfold ArgD; rw [hu]; exact ⟨cs, rfl, h3⟩
  have hs' : ∀ fs, P.underlying t ≠ some (.struct fs) := fun fs h => hs ⟨fs, h⟩
  have ha' : ∀ m e, P.underlying t ≠ some (.array m e) := fun m e h => ha ⟨m, e, h⟩
  obtain ⟨a, rfl⟩ := one_cell h3 hs' ha'
  rw [cells_self hp hval hs' ha'] at h2
  simp only [VRs] at h2
  obtain ⟨x, xs, e, g1, g2⟩ := h2
  simp at e
  obtain ⟨rfl, _⟩ := e
  refine ⟨M, a, h1, g1, ?_⟩
  unfold ArgD
  split
  · rename_i hu; exact absurd hu (hs' _)
  · rename_i hu; exact absurd hu (ha' _ _)
  · exact h3

theorem open_args {n : Nat} {r : Reach} {b0 : Nat} : ∀ (ts : List TypeId) (vs : List Value) (ds : List (DataW H)) (ps : List MemPlace) (L : List RoE), (∀ t ∈ ts, plainT P n t = true) → (∀ (j : Nat) t v, ts[j]? = some t → vs[j]? = some v → Value.okWide P w r b0 t v) →
    RoInv w L → DataW.TrodAll enc P w 0 (fun _ => true) true ts vs ds ps → ∃ M as, RoInv w (L ++ M) ∧ VRs ⟨[], roL w (L ++ M), []⟩ as vs ∧ ArgDs P (L ++ M) n ts as ds
  | [], vs, ds, ps, L, _, _, hL, h => by
    obtain ⟨rfl, rfl, rfl⟩ := trodAll_nil h
    exact ⟨[], [], by simpa using hL, by simp [VRs], trivial⟩
  | t :: ts, vs, ds, ps, L, hp, hv, hL, h => by
    obtain ⟨v, vs, d, ds, p, q, rfl, rfl, rfl, h1, h2⟩ := trodAll_cons h
    obtain ⟨M, a, g1, g2, g3⟩ := open_arg L (hp t (by simp)) (hv 0 t v rfl rfl) hL h1
    obtain ⟨M', as, q1, q2, q3⟩ := open_args ts vs ds q (L ++ M) (fun x hx => hp x (by simp [hx])) (fun j x y hx hy => hv (j + 1) x y (by simpa using hx) (by simpa using hy)) g1 h2
    refine ⟨M ++ M', a :: as, by rw [← List.append_assoc]; exact q1, ?_, ?_⟩
    · rw [← List.append_assoc]
      simp only [VRs]
      exact ⟨v, vs, rfl, VR_ro (roLe_append _ _ _) _ _ g2, q2⟩
    · rw [← List.append_assoc]
      exact ⟨g3.mono M', q3⟩

theorem stays_args (hl : laidOutB P = true) {W W' : World} (hb : Below W.heap.size W W') {sp : Nat → Bool} : ∀ (ts : List TypeId) (vs : List Value) (ds : List (DataW H)) (ps : List MemPlace), (∀ t ∈ ts, P.readableRec t = true ∧ t < P.types.size) → (∀ p ∈ ps, p.block < W.heap.size ∧ sp p.block = true) →
    DataW.TrodAll enc P W 0 (fun _ => true) true ts vs ds ps → DataW.TrodAll enc P W' 0 sp true ts vs ds ps
  | [], vs, ds, ps, _, _, h => by
    obtain ⟨rfl, rfl, rfl⟩ := trodAll_nil h
    exact trodAll_mk0
  | t :: ts, vs, ds, ps, hp, hq, h => by
    obtain ⟨v, vs, d, ds, p, q, rfl, rfl, rfl, h1, h2⟩ := trodAll_cons h
    obtain ⟨r1, r2⟩ := hp t (by simp)
    refine trodAll_cons_mk (WideElems.Trod_stays hl r1 r2 h1 (fun x hx => hb.same (hq x (by simp [hx])).1) fun x hx => (hq x (by simp [hx])).2) ?_
    exact stays_args hl hb ts vs ds q (fun x hx => hp x (by simp [hx])) (fun x hx => hq x (by simp [hx])) h2

theorem law_contractX {f : FuncId} {fn : Func} {s : ChangeSpec} {fresh handsOn : Bool} {n : Nat} {tb : TypeId} (hl : laidOutB P = true) (hts : ∀ t ∈ fn.params.toList, plainT P n t = true ∧ P.readableRec t = true ∧ t < P.types.size) (hr : fn.resultTypes = #[tb]) (hb : P.underlying tb = some .bool)
    (hvars : s.vars = []) {W : World} {base : Nat} {args : Array Value} {ds gs : List (DataW H)} {before : List MemPlace} (hval : ∀ (j : Nat) t v, fn.params[j]? = some t → args[j]? = some v → Value.okWide P W .any base t v)
    (hW : DataW.Whole enc P fn.params.toList s.vars false W args.toList ds gs before) (hfn : s.fn H ds = { results := [.lit (.bool true)], args := ds })
    (main : ∀ (L : List RoE) (B : Nat) (as : List AV), (∀ k, (GL L k).all norw = true) → ArgDs P L n fn.params.toList as ds → ∃ G, (∀ k, k < L.length → G k = GL L k) ∧ ACalls ⟨P, G, B⟩ f as [] fun v _ => v = .bool true) :
    Calls P f args W fun e W' => ∃ v, e = .returned v ∧ s.post enc P fn false fresh handsOn false W args v W' := by
  have hlt := hW.lt
  have hW' := hW
  obtain ⟨p, q, hA, hV, rfl, hfz, hnd⟩ := hW
  rw [hvars] at hV
  obtain ⟨rfl, rfl⟩ := trodVars_none hV
  obtain ⟨M, as, g1, g2, g3⟩ := open_args (n := n) fn.params.toList args.toList ds p [] (fun t ht => (hts t ht).1) (fun j t v h1 h2 => hval j t v (by simpa using h1) (by simpa using h2)) (fun k e h => by simp at h) hA
  simp only [List.nil_append] at g1 g2 g3
  have hnw : ∀ k, (GL M k).all norw = true := fun k => by
    unfold GL
    split
    · rename_i e he
      rw [List.all_eq_true]
      intro v hv
      obtain ⟨j, hj⟩ := List.getElem?_of_mem hv
      exact (g1 k e he j v hj).1
    · rfl
  obtain ⟨G, hG, hcall⟩ := main M W.heap.size as hnw g3
  have := law_call (C := ⟨P, G, W.heap.size⟩) (ro := roL W M) (W := W) (cargs := args) rfl (fun i b d hr => ⟨hr.1, fun k v hv => by
    obtain ⟨_, e, he, rfl, rfl⟩ := hr
    simp only at hv
    rw [hG i (List.getElem?_eq_some_iff.1 he).1] at hv
    simp only [GL, he] at hv
    obtain ⟨_, cv, h1, h2⟩ := g1 i e he k v hv
    exact ⟨cv, h1, h2⟩⟩) g2 hcall
  refine this.mono fun e W' ⟨he, hbl⟩ => ⟨.bool true, he, ?_⟩
  have hfn' : s.fn H (ds ++ []) = { results := [.lit (.bool true)], args := ds } := by rw [List.append_nil]; exact hfn
  simp only [List.append_nil] at hlt
  refine ⟨ds, [], p ++ [], [], p, [], hW', ?_, ?_, ?_, hbl.frame _, fun h => by cases h⟩
  · rw [hfn', hr]
    exact trodAll_cons_mk (shut_bool hb true) trodAll_mk0
  · rw [hfn']
    exact stays_args hl hbl _ _ _ _ (fun t ht => (hts t ht).2) (fun x hx => ⟨hlt x hx, by simpa using hlt x hx⟩) hA
  · rw [hfn', hvars]
    rfl
theorem law_contract {f : FuncId} {fn : Func} {s : ChangeSpec} {fresh handsOn : Bool} {n : Nat} {tb : TypeId} (hl : laidOutB P = true) (hts : ∀ t ∈ fn.params.toList, plainT P n t = true ∧ P.readableRec t = true ∧ t < P.types.size) (hr : fn.resultTypes = #[tb]) (hb : P.underlying tb = some .bool)
    (hvars : s.vars = []) {W : World} {base : Nat} {args : Array Value} {ds gs : List (DataW H)} {before : List MemPlace} (hval : ∀ (j : Nat) t v, fn.params[j]? = some t → args[j]? = some v → Value.okWide P W .any base t v)
    (hW : DataW.Whole enc P fn.params.toList s.vars false W args.toList ds gs before) (hfn : s.fn H ds = { results := [.lit (.bool true)], args := ds })
    (main : ∀ (L : List RoE) (B : Nat) (as : List AV), (∀ k, (GL L k).all norw = true) → ArgDs P L n fn.params.toList as ds → ACalls ⟨P, GL L, B⟩ f as [] fun v _ => v = .bool true) :
    Calls P f args W fun e W' => ∃ v, e = .returned v ∧ s.post enc P fn false fresh handsOn false W args v W' :=
  law_contractX hl hts hr hb hvars hval hW hfn fun L B as h1 h2 => ⟨GL L, fun _ _ => rfl, main L B as h1 h2⟩

end
abbrev Kc (C : Ctx) : Cfg := { C := C, inl := fun _ => true, strict := .full, unr := true, sum := noSum, loop := noLoop, M := 0, cmp := true }
def isT : AV → Bool
  | .bool b => b
  | _ => false
theorem goodc {C : Ctx} (hm : C.P.follows .mixedOrders = true) : Good (Kc C) [] := ⟨hm, noSum_ok C, fun m c F H e F' H' _ h => by simp at h⟩
theorem closed_run {C : Ctx} (hm : C.P.follows .mixedOrders = true) {f : FuncId} {fn : Func} (hf : C.P.funcs[f]? = some fn) (hb : fn.body.isSome = true) (hn : (fn.name == "runtime.NumGoroutine") = false) (n : Nat) {args : List AV}
    (h : vc (Kc C) n 0 (.code (bodyOf fn)) (frame0 fn args) [] (retK C fn fun v _ => chk (isT v) True) = True) : ACalls C f args [] fun v _ => v = .bool true := by
  obtain ⟨c, hc⟩ := Option.isSome_iff_exists.1 hb
  have e : bodyOf fn = c := by simp [bodyOf, hc]
  rw [e] at h
  have := call_of_vc (K := Kc C) (H := []) (goodc hm) (fun h => by cases h) n hf hc hn (fun h => by cases h) (of_eq_true h)
  refine ⟨this.1, fun ρ w cargs hH hv => (this.2 ρ w cargs hH hv).mono ?_⟩
  rintro e w' ⟨v, cv, ρ', H', h1, h2, h3⟩
  refine ⟨v, cv, ρ', H', h1, ?_, h3⟩
  obtain ⟨h4, _⟩ := chk_true h2
  cases v with
  | bool b => simp only [isT] at h4; rw [h4]
  | _ => simp [isT] at h4

def has (l : List Nat) (f : Nat) : Bool := match l with
  | [] => false
  | x :: l => match Nat.beq x f with
    | true => true
    | false => has l f
theorem has_mem : ∀ {l : List Nat} {f : Nat}, has l f = true → f ∈ l
  | [], f, h => by simp [has] at h
  | x :: l, f, h => by
    simp only [has] at h
    split at h
    · rename_i hx; rw [Nat.eq_of_beq_eq_true hx]; simp
    · exact List.mem_cons.2 (.inr (has_mem h))
def plainFs (P : Program) (l : List Nat) : Bool := l.all fun f => match P.funcs[f]? with
  | some fn => (loopsOf (bodyOf fn)).isEmpty
  | none => true
theorem plain_inl {P : Program} {l : List Nat} {lps : List Code} (h : plainFs P l = true) : ∀ f fn c, has l f = true → P.funcs[f]? = some fn → fn.body = some c → ∀ b ∈ loopsOf c, b ∈ lps := by
  intro f fn c hf hfn hc b hb
  simp only [plainFs, List.all_eq_true] at h
  have := h f (has_mem hf)
  simp only [hfn] at this
  have e : bodyOf fn = c := by simp [bodyOf, hc]
  rw [e, List.isEmpty_iff] at this
  rw [this] at hb
  simp at hb
section
variable {C : Ctx} {sum : Sums} {loop : Loops} {l : List Nat}
end
theorem ACalls.monoK {C : Ctx} {f : FuncId} {args : List AV} {H : Hp} {K K' : AV → Hp → Prop} (h : ACalls C f args H K) (hk : ∀ v H', K v H' → K' v H') : ACalls C f args H K' :=
  ⟨h.1, fun ρ w cargs hH hv => (h.2 ρ w cargs hH hv).mono fun e w' ⟨v, cv, ρ', H', h1, h2, h3⟩ => ⟨v, cv, ρ', H', h1, hk v H' h2, h3⟩⟩
theorem ACalls.weaken {C : Ctx} {f : FuncId} {args args' : List AV} {H : Hp} {K : AV → Hp → Prop} (h : ACalls C f args' H K) (hw : ∀ ρ vs, VRs ρ args vs → VRs ρ args' vs) : ACalls C f args H K :=
  ⟨h.1, fun ρ w cargs hH hv => h.2 ρ w cargs hH (hw ρ cargs hv)⟩
end Go.Am
namespace Go.Am
open Go.RowKit
def LoopOkM (C : Ctx) (M : Nat) (c : Code) (l : Loops) : Prop := ∀ m F H e F' H', m ≤ M → l c F H = some (true, e, F', H') → AWp C m (.loop c) F H fun e' F'' H'' => e' = e ∧ F'' = F' ∧ H'' = H'
def LoopsOkM (C : Ctx) (M : Nat) (cs : List Code) (l : Loops) : Prop := ∀ m c F H e F' H', m ≤ M → c ∈ cs → l c F H = some (true, e, F', H') → AWp C m (.loop c) F H fun e' F'' H'' => e' = e ∧ F'' = F' ∧ H'' = H'
section
variable {C : Ctx} {M : Nat} {sum : Sums} {loop : Loops} {l : List Nat}
theorem LoopsOkM.nil : LoopsOkM C M [] loop := fun m c F H e F' H' _ h => by simp at h
theorem LoopsOkM.cons {c : Code} {cs : List Code} (h1 : LoopOkM C M c loop) (h2 : LoopsOkM C M cs loop) : LoopsOkM C M (c :: cs) loop := by
  intro m c' F H e F' H' hm h h'
  rcases List.mem_cons.1 h with rfl | h
  · exact h1 m F H e F' H' hm h'
  · exact h2 m c' F H e F' H' hm h h'
theorem LoopsOkM.cast {cs ds : List Code} (h : LoopsOkM C M ds loop) (e : cs = ds) : LoopsOkM C M cs loop := by rw [e]; exact h
theorem LoopOkM.left {c : Code} {e : Nat} {a b : Loops} (he : exOf c = some e) (h : LoopOkM C M c a) : LoopOkM C M c (lps e a b) := by
  intro m F H e' F' H' hm h'
  simp only [lps, he, Nat.beq_refl] at h'
  exact h m F H e' F' H' hm h'
theorem LoopOkM.right {c : Code} {e i : Nat} {a b : Loops} (he : exOf c = some i) (hi : Nat.beq i e = false) (h : LoopOkM C M c b) : LoopOkM C M c (lps e a b) := by
  intro m F H e' F' H' hm h'
  simp only [lps, he, hi] at h'
  exact h m F H e' F' H' hm h'
end
end Go.Am
