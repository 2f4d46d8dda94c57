/-
  A call that only reads what was there: proved over read-only blocks and an empty heap, it holds in every heap.
-/
import Derived.Test.YtopenjkaifbnmaaAmUse
namespace Go.Am
open Go.RowKit

/-- where the read-only blocks of a proof stand -/
abbrev Sig := Nat → Ref × Nat

mutual
def sb (σ : Sig) (n : Nat) : AV → AV
  | .ptr (.ro k) o => .ptr (σ k).1 ((σ k).2 + o)
  | .ptr (.rw i) o => .ptr (.rw (n + i)) o
  | .slice mb (.ro k) o len => .slice mb (σ k).1 ((σ k).2 + o) len
  | .slice mb (.rw i) o len => .slice mb (.rw (n + i)) o len
  | .func f cap => .func f (sbs σ n cap)
  | .agg cs => .agg (sbs σ n cs)
  | .tup vs => .tup (sbs σ n vs)
  | v => v
def sbs (σ : Sig) (n : Nat) : List AV → List AV
  | [] => []
  | v :: vs => sb σ n v :: sbs σ n vs
end

theorem sbs_eq (σ : Sig) (n : Nat) : ∀ l, sbs σ n l = l.map (sb σ n)
  | [] => by simp [sbs]
  | v :: l => by simp [sbs, sbs_eq σ n l]

mutual
/-- no block of the call's own -/
def norw : AV → Bool
  | .ptr (.rw _) _ => false
  | .slice _ (.rw _) _ _ => false
  | .func _ cap => norws cap
  | .agg cs => norws cs
  | .tup vs => norws vs
  | _ => true
def norws : List AV → Bool
  | [] => true
  | v :: vs => norw v && norws vs
end
mutual
/-- nothing of what was there -/
def noro : AV → Bool
  | .ptr (.ro _) _ => false
  | .slice _ (.ro _) _ _ => false
  | .func _ cap => noros cap
  | .agg cs => noros cs
  | .tup vs => noros vs
  | _ => true
def noros : List AV → Bool
  | [] => true
  | v :: vs => noro v && noros vs
end
theorem norws_eq : ∀ l, norws l = l.all norw
  | [] => by simp [norws]
  | v :: l => by simp [norws, norws_eq l]
theorem noros_eq : ∀ l, noros l = l.all noro
  | [] => by simp [noros]
  | v :: l => by simp [noros, noros_eq l]

def roOf (σ : Sig) (ρ : Env) (k : Nat) : Option (Nat × Nat) :=
  match (σ k).1 with
  | .rw i => match ρ.rw[i]? with
    | some (some e) => some (e.blk, (σ k).2)
    | _ => none
  | .ro i => match ρ.ro i with
    | some (b, d) => some (b, d + (σ k).2)
    | none => none

theorem PtrR_in {σ : Sig} {ρ : Env} {k o : Nat} {v : Value} (h : PtrR ρ (σ k).1 ((σ k).2 + o) v) : PtrR ⟨[], roOf σ ρ⟩ (.ro k) o v := by
  unfold PtrR at h ⊢
  simp only [roOf]
  revert h
  cases (σ k).1 with
  | rw i =>
    rintro ⟨e, h1, h2⟩
    exact ⟨e.blk, (σ k).2, by simp [h1], h2⟩
  | ro i =>
    rintro ⟨b, d, h1, h2⟩
    exact ⟨b, d + (σ k).2, by simp [h1], by rw [h2, Nat.add_assoc]⟩

theorem SliceR_in {σ : Sig} {ρ : Env} {mb : Bool} {k o len : Nat} {v : Value} (h : SliceR ρ mb (σ k).1 ((σ k).2 + o) len v) : SliceR ⟨[], roOf σ ρ⟩ mb (.ro k) o len v := by
  obtain ⟨ca, cap, hv, hl, hc⟩ := h
  refine ⟨ca, cap, hv, hl, ?_⟩
  rcases hc with hc | hc | hc
  · exact .inl hc
  · exact .inr (.inl hc)
  · refine .inr (.inr ?_)
    simp only [roOf]
    revert hc
    cases (σ k).1 with
    | rw i =>
      rintro ⟨e, h1, h2, _⟩
      exact ⟨e.blk, (σ k).2, by simp [h1], h2⟩
    | ro i =>
      rintro ⟨b, d, h1, h2⟩
      exact ⟨b, d + (σ k).2, by simp [h1], by rw [h2, Nat.add_assoc]⟩

mutual
theorem VR_in {σ : Sig} {n : Nat} {ρ : Env} : ∀ (v : AV) (cv : Value), norw v = true → VR ρ (sb σ n v) cv → VR ⟨[], roOf σ ρ⟩ v cv
  | .undef, _, _, _ => by simp [VR]
  | .bool _, _, _, h => by simpa [sb, VR] using h
  | .int _ _, _, _, h => by simpa [sb, VR] using h
  | .str _, _, _, h => by simpa [sb, VR] using h
  | .nilp, _, _, h => by simpa [sb, VR] using h
  | .nils, _, _, h => by simpa [sb, VR] using h
  | .nilf, _, _, h => by simpa [sb, VR] using h
  | .ptr (.rw i) off, _, hb, _ => by simp [norw] at hb
  | .ptr (.ro i) off, cv, _, h => by simp only [sb, VR] at h ⊢; exact PtrR_in h
  | .slice mb (.rw i) off len, _, hb, _ => by simp [norw] at hb
  | .slice mb (.ro i) off len, cv, _, h => by simp only [sb, VR] at h ⊢; exact SliceR_in h
  | .func f cap, cv, hb, h => by
    simp only [norw] at hb
    simp only [sb, VR] at h ⊢
    obtain ⟨cs, e, hs⟩ := h
    exact ⟨cs, e, VRs_in cap _ hb hs⟩
  | .agg cap, cv, hb, h => by
    simp only [norw] at hb
    simp only [sb, VR] at h ⊢
    obtain ⟨cs, e, hs⟩ := h
    exact ⟨cs, e, VRs_in cap _ hb hs⟩
  | .tup cap, cv, hb, h => by
    simp only [norw] at hb
    simp only [sb, VR] at h ⊢
    obtain ⟨cs, e, hs⟩ := h
    exact ⟨cs, e, VRs_in cap _ hb hs⟩
theorem VRs_in {σ : Sig} {n : Nat} {ρ : Env} : ∀ (l : List AV) (cl : List Value), norws l = true → VRs ρ (sbs σ n l) cl → VRs ⟨[], roOf σ ρ⟩ l cl
  | [], _, _, h => by simpa [sbs, VRs] using h
  | v :: l, cl, hb, h => by
    simp only [norws, Bool.and_eq_true] at hb
    simp only [sbs, VRs] at h ⊢
    obtain ⟨x, xs, e, h1, h2⟩ := h
    exact ⟨x, xs, e, VR_in v x hb.1 h1, VRs_in l xs hb.2 h2⟩
end

mutual
theorem VR_out {σ : Sig} {n : Nat} {ρ0 ρ : Env} (h : ∀ (i : Nat) e, ρ0.rw[i]? = some e → ρ.rw[n + i]? = some e) : ∀ (v : AV) (cv : Value), noro v = true → VR ρ0 v cv → VR ρ (sb σ n v) cv
  | .undef, _, _, _ => by simp [sb, VR]
  | .bool _, _, _, h => by simpa [sb, VR] using h
  | .int _ _, _, _, h => by simpa [sb, VR] using h
  | .str _, _, _, h => by simpa [sb, VR] using h
  | .nilp, _, _, h => by simpa [sb, VR] using h
  | .nils, _, _, h => by simpa [sb, VR] using h
  | .nilf, _, _, h => by simpa [sb, VR] using h
  | .ptr (.ro i) off, _, hb, _ => by simp [noro] at hb
  | .ptr (.rw i) off, cv, _, hv => by
    simp only [sb, VR] at hv ⊢
    obtain ⟨e, h1, h2⟩ := hv
    exact ⟨e, h i _ h1, h2⟩
  | .slice mb (.ro i) off len, _, hb, _ => by simp [noro] at hb
  | .slice mb (.rw i) off len, cv, _, hv => by
    simp only [sb, VR] at hv ⊢
    obtain ⟨ca, cap, hv, hl, hc⟩ := hv
    refine ⟨ca, cap, hv, hl, ?_⟩
    rcases hc with hc | hc | ⟨e, h1, h2⟩
    · exact .inl hc
    · exact .inr (.inl hc)
    · exact .inr (.inr ⟨e, h i _ h1, h2⟩)
  | .func f cap, cv, hb, hv => by
    simp only [noro] at hb
    simp only [sb, VR] at hv ⊢
    obtain ⟨cs, e, hs⟩ := hv
    exact ⟨cs, e, VRs_out h cap _ hb hs⟩
  | .agg cap, cv, hb, hv => by
    simp only [noro] at hb
    simp only [sb, VR] at hv ⊢
    obtain ⟨cs, e, hs⟩ := hv
    exact ⟨cs, e, VRs_out h cap _ hb hs⟩
  | .tup cap, cv, hb, hv => by
    simp only [noro] at hb
    simp only [sb, VR] at hv ⊢
    obtain ⟨cs, e, hs⟩ := hv
    exact ⟨cs, e, VRs_out h cap _ hb hs⟩
theorem VRs_out {σ : Sig} {n : Nat} {ρ0 ρ : Env} (h : ∀ (i : Nat) e, ρ0.rw[i]? = some e → ρ.rw[n + i]? = some e) : ∀ (l : List AV) (cl : List Value), noros l = true → VRs ρ0 l cl → VRs ρ (sbs σ n l) cl
  | [], _, _, h => by simpa [sbs, VRs] using h
  | v :: l, cl, hb, hv => by
    simp only [noros, Bool.and_eq_true] at hb
    simp only [sbs, VRs] at hv ⊢
    obtain ⟨x, xs, e, h1, h2⟩ := hv
    exact ⟨x, xs, e, VR_out h v x hb.1 h1, VRs_out h l xs hb.2 h2⟩
end

/-- the read-only blocks of a proof are blocks that stand there -/
def Sees (C : Ctx) (H : Hp) (σ : Sig) (G : Nat → List AV) : Prop :=
  ∀ k, G k = [] ∨ ∃ cs, cellsAt C H (σ k).1 = some cs ∧ ∀ (j : Nat) v, (G k)[j]? = some v → norw v = true ∧ cs[(σ k).2 + j]? = some (sb σ 0 v)

theorem enter_ro {C : Ctx} {H : Hp} {σ : Sig} {G : Nat → List AV} (hs : Sees C H σ G) {ρ : Env} {w : World} (hH : HRel C ρ H w) : HRel ⟨C.P, G, w.heap.size⟩ ⟨[], roOf σ ρ⟩ [] w := by
  refine ⟨rfl, Nat.le_refl _, fun i e h => by simp at h, fun i b h => by simp at h, fun i j b b' e e' h => by simp at h, fun i k v hv => ?_⟩
  rcases hs i with h0 | ⟨cs, h1, h2⟩
  · have hv' : (G i)[k]? = some v := hv
    rw [h0] at hv'; simp at hv'
  · obtain ⟨h3, h4⟩ := h2 k v hv
    have key : ∃ b d, roOf σ ρ i = some (b, d) ∧ b < w.heap.size ∧ PtrR ρ (σ i).1 (σ i).2 (.pointer (some ⟨b, d, none⟩)) := by
      simp only [roOf, PtrR]
      revert h1
      cases (σ i).1 with
      | rw j =>
        intro h1
        simp only [cellsAt] at h1
        split at h1
        · rename_i b hb
          simp at h1; subst h1
          have hl := hH.live j b hb
          cases he : ρ.rw[j]? with
          | none => rw [he] at hl; exact hl.elim
          | some o =>
            cases o with
            | none =>
              rw [he] at hl
              have hl : b.cells = [] := hl
              rw [hl] at h4; simp at h4
            | some e => exact ⟨e.blk, (σ i).2, by simp [he], (hH.ents j e he).2, e, he, rfl⟩
        · simp at h1
      | ro j =>
        intro h1
        simp only [cellsAt] at h1
        simp at h1; subst h1
        obtain ⟨b, d, cv, g1, g2, _⟩ := hH.ro j _ _ h4
        exact ⟨b, d + (σ i).2, by simp [g1], Nat.lt_of_lt_of_le g2 hH.base, b, d, g1, rfl⟩
    obtain ⟨b, d, g1, g2, g3⟩ := key
    obtain ⟨cv, q1, q2⟩ := cell_at hH h1 g3 h4
    exact ⟨b, d, cv, g1, g2, by rw [← q1]; congr 1; by_cases hk : k = 0 <;> simp [Addr.add, hk], VR_in (n := 0) v cv h3 q2⟩

mutual
theorem sb_flat {σ : Sig} : ∀ v, noro v = true → sb σ 0 v = v
  | .undef, _ => by simp [sb]
  | .bool _, _ => by simp [sb]
  | .int _ _, _ => by simp [sb]
  | .str _, _ => by simp [sb]
  | .nilp, _ => by simp [sb]
  | .nils, _ => by simp [sb]
  | .nilf, _ => by simp [sb]
  | .ptr (.ro i) off, h => by simp [noro] at h
  | .ptr (.rw i) off, _ => by simp [sb]
  | .slice mb (.ro i) off len, h => by simp [noro] at h
  | .slice mb (.rw i) off len, _ => by simp [sb]
  | .func f cap, h => by simp only [noro] at h; simp only [sb, sbs_flat cap h]
  | .agg cs, h => by simp only [noro] at h; simp only [sb, sbs_flat cs h]
  | .tup cs, h => by simp only [noro] at h; simp only [sb, sbs_flat cs h]
theorem sbs_flat {σ : Sig} : ∀ l, noros l = true → sbs σ 0 l = l
  | [], _ => by simp [sbs]
  | v :: l, h => by
    simp only [noros, Bool.and_eq_true] at h
    simp only [sbs, sb_flat v h.1, sbs_flat l h.2]
end

/-- a plain value stands in every environment -/
theorem VR_flat {v : AV} {cv : Value} (hb : bnd 0 v = true) (hn : noro v = true) {ρ ρ' : Env} (hv : VR ρ v cv) : VR ρ' v cv := by
  have h1 := (VR_ren (θ := []) (ρ0 := ⟨[], ρ.ro⟩) (ρ := ρ) ⟨fun i hi => by simp at hi, rfl⟩ v cv hb).1 (by rw [ren_flat [] v hb]; exact hv)
  have h2 := VR_out (σ := fun _ => (.rw 0, 0)) (n := 0) (ρ0 := ⟨[], ρ.ro⟩) (ρ := ⟨[], ρ'.ro⟩) (fun i e he => by simp at he) v cv hn h1
  have h3 := (VR_ren (θ := []) (ρ0 := ⟨[], ρ'.ro⟩) (ρ := ρ') ⟨fun i hi => by simp at hi, rfl⟩ v cv hb).2
  rw [ren_flat [] v hb] at h3
  rw [sb_flat v hn] at h2
  exact h3 h2

/-- THE READING CALL whose result is plain: in every heap, which stays. -/
theorem ro_flat {C : Ctx} {H : Hp} {σ : Sig} {G : Nat → List AV} {f : FuncId} {args0 args : List AV} {R : AV → Prop} (hs : Sees C H σ G) (h : ∀ B, ACalls ⟨C.P, G, B⟩ f args0 [] fun v _ => R v)
    (ha : norws args0 = true) (he : args = sbs σ 0 args0) (hR : ∀ v, R v → bnd 0 v = true ∧ noro v = true) : ACalls C f args H fun v H' => R v ∧ H' = H := by
  refine ⟨(h 0).1, fun ρ w cargs hH hv => ?_⟩
  subst he
  refine ((h w.heap.size).2 ⟨[], roOf σ ρ⟩ w cargs (enter_ro hs hH) (VRs_in args0 cargs ha hv)).mono ?_
  rintro e w' ⟨v, cv, ρ', H', rfl, h2, h3, h4, h5, h6⟩
  obtain ⟨hb, hn⟩ := hR v h2
  have hkeep : ∀ b, b < w.heap.size → w'.heap[b]? = w.heap[b]? := fun b hb => h6.keep b hb fun i e h => by simp at h
  refine ⟨v, cv, ρ, H, rfl, ⟨h2, rfl⟩, Env.le_refl ρ, ?_, ?_, ?_⟩
  · refine ⟨hH.len, Nat.le_trans hH.base h6.size, fun i e he => ⟨(hH.ents i e he).1, Nat.lt_of_lt_of_le (hH.ents i e he).2 h6.size⟩, fun i b hb => ?_, hH.inj, fun i k v hv => ?_⟩
    · have hl := hH.live i b hb
      cases he : ρ.rw[i]? with
      | none => rw [he] at hl; exact hl.elim
      | some o =>
        rw [he] at hl
        cases o with
        | none => exact hl
        | some e =>
          obtain ⟨g1, cs, ty, fz, g2, g3⟩ := hl
          exact ⟨g1, cs, ty, fz, by rw [hkeep _ (hH.ents i e he).2]; exact g2, g3⟩
    · obtain ⟨b, d, cv, g1, g2, g3, g4⟩ := hH.ro i k v hv
      refine ⟨b, d, cv, g1, g2, ?_, g4⟩
      rw [← g3]
      simp only [World.cell?, hkeep b (Nat.lt_of_lt_of_le g2 hH.base)]
  · exact VR_flat hb hn h5
  · exact ⟨h6.os, h6.tape, h6.output, h6.size, fun b hb _ => hkeep b hb, fun i e he => .inl ⟨i, e, he, rfl⟩, rfl⟩

def sh (n : Nat) (v : AV) : AV := sb (fun _ => (.rw 0, 0)) n v
def shB (n : Nat) (b : Option Blk) : Option Blk := match b with
  | some b => some ⟨b.esz, b.cells.map (sh n)⟩
  | none => none

/-- THE READING CALL that lays new blocks: in every heap, behind which they then stand. -/
theorem ro_new {C : Ctx} {H : Hp} {σ : Sig} {G : Nat → List AV} {f : FuncId} {args0 args : List AV} {K0 : AV → Hp → Prop} (hs : Sees C H σ G) (h : ∀ B, ACalls ⟨C.P, G, B⟩ f args0 [] K0)
    (ha : norws args0 = true) (he : args = sbs σ 0 args0) (hR : ∀ v H', K0 v H' → noro v = true ∧ ∀ (i : Nat) b, H'[i]? = some (some b) → noros b.cells = true) :
    ACalls C f args H fun v H' => ∃ v0 H0, K0 v0 H0 ∧ v = sh H.length v0 ∧ H' = H ++ H0.map (shB H.length) := by
  refine ⟨(h 0).1, fun ρ w cargs hH hv => ?_⟩
  subst he
  refine ((h w.heap.size).2 ⟨[], roOf σ ρ⟩ w cargs (enter_ro hs hH) (VRs_in args0 cargs ha hv)).mono ?_
  rintro e w' ⟨v, cv, ρ0, H0, rfl, h2, h3, h4, h5, h6⟩
  obtain ⟨hb, hn⟩ := hR v H0 h2
  have hkeep : ∀ b, b < w.heap.size → w'.heap[b]? = w.heap[b]? := fun b hb => h6.keep b hb fun i e h => by simp at h
  let ρ' : Env := ⟨ρ.rw ++ ρ0.rw, ρ.ro⟩
  have lenρ : ρ.rw.length = H.length := hH.len
  have low : ∀ i, i < H.length → ρ'.rw[i]? = ρ.rw[i]? := fun i hi => by
    show (ρ.rw ++ ρ0.rw)[i]? = _
    rw [List.getElem?_append_left (by omega)]
  have high : ∀ i, ρ'.rw[H.length + i]? = ρ0.rw[i]? := fun i => by
    show (ρ.rw ++ ρ0.rw)[H.length + i]? = _
    rw [List.getElem?_append_right (by omega), lenρ, Nat.add_sub_cancel_left]
  have hle : ρ.le ρ' := ⟨fun i x hx => by
    have : i < H.length := by rw [← lenρ]; exact (List.getElem?_eq_some_iff.1 hx).1
    rw [low i this]; exact hx, rfl⟩
  have hup : ∀ (i : Nat) e, ρ0.rw[i]? = some e → ρ'.rw[H.length + i]? = some e := fun i e he => by rw [high]; exact he
  have hlow : ∀ (i : Nat), i < H.length → (H ++ H0.map (shB H.length))[i]? = H[i]? := fun i hi => List.getElem?_append_left hi
  have hhigh : ∀ (i : Nat), (H ++ H0.map (shB H.length))[H.length + i]? = (H0[i]?).map (shB H.length) := fun i => by
    rw [List.getElem?_append_right (by omega), Nat.add_sub_cancel_left, List.getElem?_map]
  have split : ∀ (i : Nat), i < H.length ∨ ∃ j, i = H.length + j := fun i => by
    by_cases hi : i < H.length
    · exact .inl hi
    · exact .inr ⟨i - H.length, by omega⟩
  refine ⟨sh H.length v, cv, ρ', H ++ H0.map (shB H.length), rfl, ⟨v, H0, h2, rfl, rfl⟩, hle, ?_, VR_out hup v cv hb h5, ?_⟩
  · refine ⟨by simp [ρ', lenρ, h4.len], Nat.le_trans hH.base h6.size, fun i e he => ?_, fun i b hb => ?_, fun i j b b' e e' q1 q2 q3 q4 q5 => ?_, fun i k v hv => ?_⟩
    · rcases split i with hi | ⟨j, rfl⟩
      · rw [low i hi] at he
        exact ⟨(hH.ents i e he).1, Nat.lt_of_lt_of_le (hH.ents i e he).2 h6.size⟩
      · rw [high] at he
        exact ⟨Nat.le_trans hH.base (h4.ents j e he).1, (h4.ents j e he).2⟩
    · rcases split i with hi | ⟨j, rfl⟩
      · rw [hlow i hi] at hb
        rw [low i hi]
        have hl := hH.live i b hb
        cases he : ρ.rw[i]? with
        | none => rw [he] at hl; exact hl.elim
        | some o =>
          rw [he] at hl
          cases o with
          | none => exact hl
          | some e =>
            obtain ⟨g1, cs, ty, fz, g2, g3, g4, g5, g6⟩ := hl
            exact ⟨g1, cs, ty, fz, by rw [hkeep _ (hH.ents i e he).2]; exact g2, g3, g4, fun k v hk => by
              obtain ⟨cv, p1, p2⟩ := g5 k v hk
              exact ⟨cv, p1, VR.mono hle v cv p2⟩, g6⟩
      · rw [hhigh] at hb
        rw [high]
        obtain ⟨o, ho, hb⟩ := Option.map_eq_some_iff.1 hb
        cases o with
        | none => simp [shB] at hb
        | some b0 =>
          simp only [shB, Option.some.injEq] at hb
          subst hb
          have hl := h4.live j b0 ho
          cases he : ρ0.rw[j]? with
          | none => rw [he] at hl; exact hl.elim
          | some o =>
            rw [he] at hl
            cases o with
            | none =>
              have hl : b0.cells = [] := hl
              show b0.cells.map _ = []
              simp [hl]
            | some e =>
              obtain ⟨g1, cs, ty, fz, g2, g3, g4, g5, g6⟩ := hl
              refine ⟨g1, cs, ty, fz, g2, g3, by simpa using g4, fun k v hk => ?_, g6⟩
              simp only [List.getElem?_map] at hk
              obtain ⟨x, hx, rfl⟩ := Option.map_eq_some_iff.1 hk
              obtain ⟨cv, p1, p2⟩ := g5 k x hx
              have hnx : noro x = true := by
                have := hn j b0 ho
                rw [noros_eq, List.all_eq_true] at this
                exact this x (List.mem_of_getElem? hx)
              exact ⟨cv, p1, VR_out hup x cv hnx p2⟩
    · rcases split i with hi | ⟨i', rfl⟩ <;> rcases split j with hj | ⟨j', rfl⟩
      · rw [hlow i hi] at q1; rw [hlow j hj] at q2; rw [low i hi] at q3; rw [low j hj] at q4
        exact hH.inj i j b b' e e' q1 q2 q3 q4 q5
      · rw [low i hi] at q3; rw [high] at q4
        have := (hH.ents i e q3).2
        have h8 : w.heap.size ≤ e'.blk := (h4.ents j' e' q4).1
        omega
      · rw [high] at q3; rw [low j hj] at q4
        have := (hH.ents j e' q4).2
        have h8 : w.heap.size ≤ e.blk := (h4.ents i' e q3).1
        omega
      · rw [hhigh] at q1 q2; rw [high] at q3 q4
        obtain ⟨o, ho, hb1⟩ := Option.map_eq_some_iff.1 q1
        obtain ⟨o', ho', hb2⟩ := Option.map_eq_some_iff.1 q2
        cases o with
        | none => simp [shB] at hb1
        | some b0 =>
          cases o' with
          | none => simp [shB] at hb2
          | some b1 => rw [h4.inj i' j' b0 b1 e e' ho ho' q3 q4 q5]
    · obtain ⟨b, d, cv, g1, g2, g3, g4⟩ := hH.ro i k v hv
      refine ⟨b, d, cv, g1, g2, ?_, g4⟩
      rw [← g3]
      simp only [World.cell?, hkeep b (Nat.lt_of_lt_of_le g2 hH.base)]
  · refine ⟨h6.os, h6.tape, h6.output, h6.size, fun b hb _ => hkeep b hb, fun i e he => ?_, rfl⟩
    rcases split i with hi | ⟨j, rfl⟩
    · rw [low i hi] at he
      exact .inl ⟨i, e, he, rfl⟩
    · rw [high] at he
      exact .inr (h4.ents j e he).1

end Go.Am
