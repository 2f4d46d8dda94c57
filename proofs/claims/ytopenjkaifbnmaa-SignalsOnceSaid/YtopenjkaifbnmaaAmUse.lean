/-
  Everyday forms: frames by their live slots, heaps trimmed, calls seen through a view, the law's own call.
-/
import Derived.Test.YtopenjkaifbnmaaAmFrame
namespace Go.Am
open Go.RowKit

/-- a frame of n slots by its live ones -/
def fr (n : Nat) (l : List (Nat × AV)) : Fr := (List.range n).map fun i => ((l.find? fun p => Nat.beq p.1 i).map (·.2)).getD .undef

def bodyOf (fn : Func) : Code := match fn.body with | some c => c | none => .skip
def loopN (fn : Func) (i : Nat) : Code := (loopsOf (bodyOf fn)).getD i .skip

mutual
theorem ren_range {n : Nat} : ∀ v, bnd n v = true → ren (List.range n) v = v
  | .undef, _ => by simp [ren]
  | .bool _, _ => by simp [ren]
  | .int _ _, _ => by simp [ren]
  | .str _, _ => by simp [ren]
  | .nilp, _ => by simp [ren]
  | .nils, _ => by simp [ren]
  | .nilf, _ => by simp [ren]
  | .ptr (.rw i) off, h => by simp only [bnd, decide_eq_true_eq] at h; simp [ren, List.getD, h]
  | .ptr (.ro i) off, _ => by simp [ren]
  | .slice mb (.rw i) off len, h => by simp only [bnd, decide_eq_true_eq] at h; simp [ren, List.getD, h]
  | .slice mb (.ro i) off len, _ => by simp [ren]
  | .func f cap, h => by simp only [bnd] at h; simp only [ren, rens_range cap h]
  | .agg cs, h => by simp only [bnd] at h; simp only [ren, rens_range cs h]
  | .tup cs, h => by simp only [bnd] at h; simp only [ren, rens_range cs h]
theorem rens_range {n : Nat} : ∀ l, bnds n l = true → rens (List.range n) l = l
  | [], _ => by simp [rens]
  | v :: l, h => by
    simp only [bnds, Bool.and_eq_true] at h
    simp only [rens, ren_range v h.1, rens_range l h.2]
end

/-- the new frame's live slots are the old one's -/
def fv (n : Nat) : Fr → Fr → Prop
  | [], [] => True
  | .undef :: a, _ :: b => fv n a b
  | v :: a, v' :: b => (bnd n v = true ∧ v' = v) ∧ fv n a b
  | _, _ => False

theorem fv_spec {n : Nat} : ∀ (F F' : Fr), fv n F F' → F.length = F'.length ∧ ∀ (k : Nat) v, F[k]? = some v → bnd n v = true ∧ (v = .undef ∨ F'[k]? = some v)
  | [], [], _ => ⟨rfl, fun k v h => by simp at h⟩
  | [], _ :: _, h => by simp [fv] at h
  | x :: F, [], h => by cases x <;> simp [fv] at h
  | x :: F, y :: F', h => by
    have key : fv n F F' ∧ (x = .undef ∨ (bnd n x = true ∧ y = x)) := by
      cases x <;> simp only [fv] at h <;> first | exact ⟨h, .inl rfl⟩ | exact ⟨h.2, .inr h.1⟩
    obtain ⟨h1, h2⟩ := fv_spec F F' key.1
    refine ⟨by simp [h1], fun k v hk => ?_⟩
    cases k with
    | zero =>
      simp at hk; subst hk
      rcases key.2 with h0 | ⟨h0, h3⟩
      · subst h0; exact ⟨by simp [bnd], .inl rfl⟩
      · exact ⟨h0, .inr (by simp [h3])⟩
    | succ k => simpa using h2 k v (by simpa using hk)

def hpB (n : Nat) : Hp → Bool
  | [] => true
  | none :: H => hpB n H
  | some b :: H => bnds n b.cells && hpB n H

theorem hpB_spec {n : Nat} : ∀ (H : Hp), hpB n H = true → ∀ (i : Nat) b, H[i]? = some (some b) → bnds n b.cells = true
  | [], _, i, b, h => by simp at h
  | none :: H, hb, i, b, h => by
    cases i with
    | zero => simp at h
    | succ i => exact hpB_spec H hb i b (by simpa using h)
  | some x :: H, hb, i, b, h => by
    simp only [hpB, Bool.and_eq_true] at hb
    cases i with
    | zero => simp at h; subst h; exact hb.1
    | succ i => exact hpB_spec H hb.2 i b (by simpa using h)

/-- what was laid behind is forgotten -/
theorem View.same {m : Nat} {F F' : Fr} {H G : Hp} (hm : m ≤ H.length) (hb : hpB H.length H = true) (hf : fv H.length F F') : View m F H F' (H ++ G) := by
  have hg : ∀ i, i < H.length → (List.range H.length).getD i 0 = i := fun i hi => by simp [List.getD, hi]
  obtain ⟨h1, h2⟩ := fv_spec F F' hf
  have hbs := hpB_spec H hb
  refine ⟨List.range H.length, by simp, hm, fun i hi => hg i (by omega), fun i hi => ?_, fun i j b b' h3 h4 he => ?_, fun i b h3 => ?_, h1, fun k v hk => ?_⟩
  · simp at hi; rw [hg i hi]; simp; omega
  · rwa [hg i (List.getElem?_eq_some_iff.1 h3).1, hg j (List.getElem?_eq_some_iff.1 h4).1] at he
  · have hi := (List.getElem?_eq_some_iff.1 h3).1
    refine ⟨b, by rw [hg i hi, List.getElem?_append_left hi]; exact h3, Nat.le_refl _, rfl, fun k v hk => ?_⟩
    have hbv : bnd H.length v = true := by
      have := hbs i b h3
      rw [bnds_eq, List.all_eq_true] at this
      exact this v (List.mem_of_getElem? hk)
    refine ⟨by simpa using hbv, .inr ?_⟩
    rw [ren_range v hbv]; exact hk
  · obtain ⟨g1, g2⟩ := h2 k v hk
    refine ⟨by simpa using g1, ?_⟩
    rw [ren_range v g1]; exact g2

theorem View.refl {m : Nat} {F F' : Fr} {H : Hp} (hm : m ≤ H.length) (hb : hpB H.length H = true) (hf : fv H.length F F') : View m F H F' H := by
  have := View.same (G := []) hm hb hf
  simpa using this

/-- ahead of a piece of code, too -/
theorem AWp.pre {C : Ctx} {m : Nat} {c : Code} {F F' : Fr} {H H' : Hp} {Q : Post} (h : AWp C m c F H Q) (hv : View m F H F' H') : AWp C m c F' H' Q := by
  intro ρ a w hH hF
  obtain ⟨ρ1, h1, h2, h3, h4⟩ := hv.use hH hF
  exact Code.wp_mono (fun e a w h => AP.link h3 h4 h) (h ρ1 a w h1 h2)

/-- a call's result through a view -/
theorem ACalls.view {C : Ctx} {f : FuncId} {args : List AV} {H : Hp} {K K' : AV → Hp → Prop} (h : ACalls C f args H K) (hk : ∀ v H', K v H' → ∃ v' H'', K' v' H'' ∧ View H.length [v'] H'' [v] H') : ACalls C f args H K' := by
  refine ⟨h.1, fun ρ w cargs hH hv => (h.2 ρ w cargs hH hv).mono ?_⟩
  rintro e w' ⟨v, cv, ρ', H', rfl, h2, h3, h4, h5, h6⟩
  obtain ⟨v', H'', g1, g2⟩ := hk v H' h2
  obtain ⟨ρ2, q1, q2, q3, q4⟩ := g2.use (a := ⟨#[cv], []⟩) h4 ⟨rfl, rfl, fun i x hx => by
    cases i with
    | zero => simp at hx; subst hx; simpa using h5
    | succ i => simp at hx⟩
  refine ⟨v', cv, ρ2, H'', rfl, g1, ?_, q1, by have := q2.val 0 v' rfl; simpa using this, h6.trans q4⟩
  refine ⟨fun i x hx => ?_, ?_⟩
  · have hi : i < ρ.rw.length := (List.getElem?_eq_some_iff.1 hx).1
    rw [q3 i (by rw [← hH.len]; exact hi)]
    exact h3.1 i x hx
  · exact q4.ro.trans h3.2

/-- a call whose result is one value, and behind which the heap stands as it stood, garbage aside -/
theorem ACalls.trim {C : Ctx} {f : FuncId} {args : List AV} {H : Hp} {v0 : AV} (hb : hpB H.length H = true) (hv : bnd H.length v0 = true) (hu : v0 ≠ .undef) (h : ACalls C f args H fun v H' => v = v0 ∧ ∃ G, H' = H ++ G) :
    ACalls C f args H fun v H' => v = v0 ∧ H' = H :=
  h.view fun v H' ⟨h1, G, h2⟩ => ⟨v0, H, ⟨rfl, rfl⟩, by
    subst h1 h2
    refine View.same (Nat.le_refl _) hb ?_
    cases v <;> first | exact absurd rfl hu | exact ⟨⟨hv, rfl⟩, trivial⟩⟩

/-- THE LAW's OWN CALL: the heap is empty, nothing that was there is turned. -/
theorem law_call {C : Ctx} {f : FuncId} {args : List AV} {ro : Nat → Option (Nat × Nat)} {W : World} {cargs : Array Value} (hB : C.B = W.heap.size)
    (hro : ∀ (i k : Nat) v, (C.G i)[k]? = some v → ∃ b d cv, ro i = some (b, d) ∧ b < C.B ∧ W.cell? ⟨b, d + k, none⟩ = some cv ∧ VR ⟨[], ro⟩ v cv)
    (hv : VRs ⟨[], ro⟩ args cargs.toList) (h : ACalls C f args [] fun v _ => v = .bool true) :
    Calls C.P f cargs W fun e w' => e = .returned (.bool true) ∧ Below W.heap.size W w' := by
  have hH : HRel C ⟨[], ro⟩ [] W := ⟨rfl, by omega, fun i e h => by simp at h, fun i b h => by simp at h, fun i j b b' e e' h => by simp at h, hro⟩
  have := h.2 ⟨[], ro⟩ W cargs.toList hH hv
  simp only [Array.toArray_toList] at this
  refine this.mono ?_
  rintro e w' ⟨v, cv, ρ', H', rfl, rfl, _, _, h5, h6⟩
  simp only [VR] at h5
  subst h5
  exact ⟨rfl, h6.os, h6.tape, h6.output, h6.size, fun k hk => h6.keep k hk fun i e h => by simp at h⟩

end Go.Am
