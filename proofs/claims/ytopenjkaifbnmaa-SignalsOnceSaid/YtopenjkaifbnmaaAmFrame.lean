/-
  Renaming, trimming, loops, and calls in larger heaps.
-/
import Derived.Test.YtopenjkaifbnmaaAmMain
import Derived.Deep.LoopGhost
namespace Go.Am
open Go.RowKit

mutual
def ren (θ : List Nat) : AV → AV
  | .ptr (.rw i) off => .ptr (.rw (θ.getD i 0)) off
  | .slice mb (.rw i) off len => .slice mb (.rw (θ.getD i 0)) off len
  | .func f cap => .func f (rens θ cap)
  | .agg cs => .agg (rens θ cs)
  | .tup vs => .tup (rens θ vs)
  | v => v
def rens (θ : List Nat) : List AV → List AV
  | [] => []
  | v :: vs => ren θ v :: rens θ vs
end

mutual
/-- all indices below n -/
def bnd (n : Nat) : AV → Bool
  | .ptr (.rw i) _ => decide (i < n)
  | .slice _ (.rw i) _ _ => decide (i < n)
  | .func _ cap => bnds n cap
  | .agg cs => bnds n cs
  | .tup vs => bnds n vs
  | _ => true
def bnds (n : Nat) : List AV → Bool
  | [] => true
  | v :: vs => bnd n v && bnds n vs
end

theorem rens_eq (θ : List Nat) : ∀ l, rens θ l = l.map (ren θ)
  | [] => by simp [rens]
  | v :: l => by simp [rens, rens_eq θ l]
theorem bnds_eq (n : Nat) : ∀ l, bnds n l = l.all (bnd n)
  | [] => by simp [bnds]
  | v :: l => by simp [bnds, bnds_eq n l]

mutual
theorem ren_flat (θ : List Nat) : ∀ v, bnd 0 v = true → ren θ v = v
  | .undef, _ => by simp [ren]
  | .bool _, _ => by simp [ren]
  | .int _ _, _ => by simp [ren]
  | .str _, _ => by simp [ren]
  | .nilp, _ => by simp [ren]
  | .nils, _ => by simp [ren]
  | .nilf, _ => by simp [ren]
  | .ptr (.rw i) off, h => by simp [bnd] at h
  | .ptr (.ro i) off, _ => by simp [ren]
  | .slice mb (.rw i) off len, h => by simp [bnd] at h
  | .slice mb (.ro i) off len, _ => by simp [ren]
  | .func f cap, h => by simp only [bnd] at h; simp only [ren, rens_flat θ cap h]
  | .agg cs, h => by simp only [bnd] at h; simp only [ren, rens_flat θ cs h]
  | .tup cs, h => by simp only [bnd] at h; simp only [ren, rens_flat θ cs h]
theorem rens_flat (θ : List Nat) : ∀ l, bnds 0 l = true → rens θ l = l
  | [], _ => by simp [rens]
  | v :: l, h => by
    simp only [bnds, Bool.and_eq_true] at h
    simp only [rens, ren_flat θ v h.1, rens_flat θ l h.2]
end

mutual
theorem bnd_mono {m n : Nat} (hmn : m ≤ n) : ∀ v, bnd m v = true → bnd n v = true
  | .undef, _ => by simp [bnd]
  | .bool _, _ => by simp [bnd]
  | .int _ _, _ => by simp [bnd]
  | .str _, _ => by simp [bnd]
  | .nilp, _ => by simp [bnd]
  | .nils, _ => by simp [bnd]
  | .nilf, _ => by simp [bnd]
  | .ptr (.rw i) off, h => by simp [bnd] at *; omega
  | .ptr (.ro i) off, _ => by simp [bnd]
  | .slice mb (.rw i) off len, h => by simp [bnd] at *; omega
  | .slice mb (.ro i) off len, _ => by simp [bnd]
  | .func f cap, h => by simp only [bnd] at *; exact bnds_mono hmn cap h
  | .agg cs, h => by simp only [bnd] at *; exact bnds_mono hmn cs h
  | .tup cs, h => by simp only [bnd] at *; exact bnds_mono hmn cs h
theorem bnds_mono {m n : Nat} (hmn : m ≤ n) : ∀ l, bnds m l = true → bnds n l = true
  | [], _ => by simp [bnds]
  | v :: l, h => by
    simp only [bnds, Bool.and_eq_true] at *
    exact ⟨bnd_mono hmn v h.1, bnds_mono hmn l h.2⟩
end

/-- two environments, the second by a renaming -/
def RenE (θ : List Nat) (ρ0 ρ : Env) : Prop := (∀ i, i < θ.length → ρ.rw[θ.getD i 0]? = ρ0.rw[i]?) ∧ ρ.ro = ρ0.ro

mutual
theorem VR_ren {θ : List Nat} {ρ0 ρ : Env} (h : RenE θ ρ0 ρ) : ∀ (v : AV) (cv : Value), bnd θ.length v = true → (VR ρ (ren θ v) cv ↔ VR ρ0 v cv)
  | .undef, _, _ => by simp [ren, VR]
  | .bool _, _, _ => by simp [ren, VR]
  | .int _ _, _, _ => by simp [ren, VR]
  | .str _, _, _ => by simp [ren, VR]
  | .nilp, _, _ => by simp [ren, VR]
  | .nils, _, _ => by simp [ren, VR]
  | .nilf, _, _ => by simp [ren, VR]
  | .ptr (.rw i) off, cv, hb => by
    simp only [bnd, decide_eq_true_eq] at hb
    simp only [ren, VR, PtrR, h.1 i hb]
  | .ptr (.ro i) off, cv, _ => by simp only [ren, VR, PtrR, h.2]
  | .slice mb (.rw i) off len, cv, hb => by
    simp only [bnd, decide_eq_true_eq] at hb
    simp only [ren, VR, SliceR, h.1 i hb]
  | .slice mb (.ro i) off len, cv, _ => by simp only [ren, VR, SliceR, h.2]
  | .func f cap, cv, hb => by
    simp only [bnd] at hb
    simp only [ren, VR]
    exact ⟨fun ⟨cs, e, hs⟩ => ⟨cs, e, (VRs_ren h cap _ hb).1 hs⟩, fun ⟨cs, e, hs⟩ => ⟨cs, e, (VRs_ren h cap _ hb).2 hs⟩⟩
  | .agg cap, cv, hb => by
    simp only [bnd] at hb
    simp only [ren, VR]
    exact ⟨fun ⟨cs, e, hs⟩ => ⟨cs, e, (VRs_ren h cap _ hb).1 hs⟩, fun ⟨cs, e, hs⟩ => ⟨cs, e, (VRs_ren h cap _ hb).2 hs⟩⟩
  | .tup cap, cv, hb => by
    simp only [bnd] at hb
    simp only [ren, VR]
    exact ⟨fun ⟨cs, e, hs⟩ => ⟨cs, e, (VRs_ren h cap _ hb).1 hs⟩, fun ⟨cs, e, hs⟩ => ⟨cs, e, (VRs_ren h cap _ hb).2 hs⟩⟩
theorem VRs_ren {θ : List Nat} {ρ0 ρ : Env} (h : RenE θ ρ0 ρ) : ∀ (l : List AV) (cl : List Value), bnds θ.length l = true → (VRs ρ (rens θ l) cl ↔ VRs ρ0 l cl)
  | [], _, _ => by simp [rens, VRs]
  | v :: l, cl, hb => by
    simp only [bnds, Bool.and_eq_true] at hb
    simp only [rens, VRs]
    constructor
    · rintro ⟨x, xs, e, h1, h2⟩
      exact ⟨x, xs, e, (VR_ren h v x hb.1).1 h1, (VRs_ren h l xs hb.2).1 h2⟩
    · rintro ⟨x, xs, e, h1, h2⟩
      exact ⟨x, xs, e, (VR_ren h v x hb.1).2 h1, (VRs_ren h l xs hb.2).2 h2⟩
end

/-- of a block: may the first stand for the second, its indices renamed? -/
def BlkV (θ : List Nat) (b b' : Blk) : Prop := b.esz = b'.esz ∧ ∀ (k : Nat) v, b.cells[k]? = some v → bnd θ.length v = true ∧ (v = .undef ∨ b'.cells[k]? = some (ren θ v))

/-- (F, H) seen in (F', H') -/
structure View (m : Nat) (F : Fr) (H : Hp) (F' : Fr) (H' : Hp) : Prop where
  ex : ∃ θ : List Nat, θ.length = H.length ∧ m ≤ H.length ∧ (∀ i, i < m → θ.getD i 0 = i) ∧ (∀ i, i < θ.length → θ.getD i 0 < H'.length) ∧
    (∀ (i j : Nat) b b', H[i]? = some (some b) → H[j]? = some (some b') → θ.getD i 0 = θ.getD j 0 → i = j) ∧
    (∀ (i : Nat) b, H[i]? = some (some b) → ∃ b', H'[θ.getD i 0]? = some (some b') ∧ b.cells.length ≤ b'.cells.length ∧ BlkV θ b b') ∧
    F.length = F'.length ∧ ∀ (k : Nat) v, F[k]? = some v → bnd θ.length v = true ∧ (v = .undef ∨ F'[k]? = some (ren θ v))

theorem View.use {C : Ctx} {m : Nat} {F F' : Fr} {H H' : Hp} (hv : View m F H F' H') {ρ' : Env} {a : Act} {w : World} (hH : HRel C ρ' H' w) (hF : FRel ρ' F' a) :
    ∃ ρ, HRel C ρ H w ∧ FRel ρ F a ∧ Pin m ρ' ρ ∧ Frm ρ' w ρ w := by
  obtain ⟨θ, hθ, hm, hpin, hlt, hinj, hblk, hfl, hf⟩ := hv.ex
  let ρ : Env := ⟨θ.map fun j => (ρ'.rw[j]?).getD none, ρ'.ro⟩
  have get : ∀ i, i < θ.length → ρ.rw[i]? = some ((ρ'.rw[θ.getD i 0]?).getD none) := fun i hi => by
    simp only [ρ, List.getElem?_map, List.getElem?_eq_getElem hi, Option.map_some, List.getD, Option.getD_some]
  have get' : ∀ i, i < θ.length → ρ'.rw[θ.getD i 0]? = ρ.rw[i]? := fun i hi => by
    rw [get i hi]
    have : θ.getD i 0 < ρ'.rw.length := by rw [hH.len]; exact hlt i hi
    rw [List.getElem?_eq_getElem this]
    rfl
  have hr : RenE θ ρ ρ' := ⟨get', rfl⟩
  have ents : ∀ (i : Nat) e, ρ.rw[i]? = some (some e) → i < θ.length ∧ ρ'.rw[θ.getD i 0]? = some (some e) := fun i e h => by
    have hi : i < θ.length := by have := (List.getElem?_eq_some_iff.1 h).1; simpa [ρ] using this
    exact ⟨hi, (get' i hi).trans h⟩
  refine ⟨ρ, ⟨by simp [ρ, hθ], hH.base, fun i e h => hH.ents _ e (ents i e h).2, fun i b hb => ?_, ?_, hH.ro⟩, ⟨hF.nod, hfl.trans hF.len, fun k v hk => ?_⟩, fun i hi => ?_, ?_⟩
  · have hi : i < θ.length := by rw [hθ]; exact (List.getElem?_eq_some_iff.1 hb).1
    obtain ⟨b', h1, h2, h3, h4⟩ := hblk i b hb
    have hl := hH.live _ b' h1
    rw [get' i hi] at hl
    generalize ρ.rw[i]? = x at hl
    match x, hl with
    | some (some e), hl =>
      obtain ⟨g1, cs, ty, fz, g2, g3, g4, g5, g6⟩ := hl
      refine ⟨g1.trans h3.symm, cs, ty, fz, g2, g3, by omega, fun k v hv => ?_, g6⟩
      have hk : k < b.cells.length := (List.getElem?_eq_some_iff.1 hv).1
      obtain ⟨hb1, hb2⟩ := h4 k v hv
      rcases hb2 with rfl | hb2
      · exact ⟨cs[k]'(by omega), by simp, by simp [VR]⟩
      · obtain ⟨cv, q1, q2⟩ := g5 k _ hb2
        exact ⟨cv, q1, (VR_ren hr v cv hb1).1 q2⟩
    | some none, hl =>
      have : b'.cells = [] := hl
      rw [this] at h2
      exact List.eq_nil_of_length_eq_zero (by simpa using h2)
    | none, hl => exact hl.elim
  · intro i j b b' e e' h1 h2 h3 h4 h5
    obtain ⟨c1, g1, _⟩ := hblk i b h1
    obtain ⟨c2, g2, _⟩ := hblk j b' h2
    exact hinj i j b b' h1 h2 (hH.inj _ _ c1 c2 e e' g1 g2 (ents i e h3).2 (ents j e' h4).2 h5)
  · obtain ⟨hb1, hb2⟩ := hf k v hk
    rcases hb2 with rfl | hb2
    · simp [VR]
    · exact (VR_ren hr v _ hb1).1 (hF.val k _ hb2)
  · rw [← get' i (by omega), hpin i hi]
  · exact ⟨rfl, rfl, rfl, Nat.le_refl _, fun _ _ _ => rfl, fun i e h => .inl ⟨_, e, (ents i e h).2, rfl⟩, rfl⟩

/-- A LOOP: what holds at every round's head, with a number that goes down. -/
theorem aloop {C : Ctx} {m : Nat} {c : Code} {F : Fr} {H : Hp} {Q : Post} (I : Nat → Fr → Hp → Prop) (n0 : Nat) (h0 : I n0 F H)
    (round : ∀ n F H, I n F H → AWp C m c F H fun e F' H' => match e with
      | .normal => ∃ n' F'' H'', n' < n ∧ I n' F'' H'' ∧ View m F'' H'' F' H'
      | e => Q e F' H') : AWp C m (.loop c) F H Q := by
  intro ρ a w hH hF
  refine wp_loop_ghost (fun n a' w' => ∃ ρ' F' H', I n F' H' ∧ HRel C ρ' H' w' ∧ FRel ρ' F' a' ∧ Pin m ρ ρ' ∧ Frm ρ w ρ' w') n0 ⟨ρ, F, H, h0, hH, hF, Pin.refl m ρ, Frm.refl ρ w⟩ ?_
  rintro n a1 w1 ⟨ρ1, F1, H1, hI, hH1, hF1, hp1, hf1⟩
  refine Code.wp_mono ?_ (round n F1 H1 hI ρ1 a1 w1 hH1 hF1)
  rintro e a2 w2 ⟨ae, ρ2, F2, H2, rfl, h2, h3, h4, h5, h6⟩
  cases ae with
  | normal =>
    obtain ⟨n', F'', H'', hlt, hI', hv⟩ := h2
    obtain ⟨ρ3, g1, g2, g3, g4⟩ := hv.use h4 h5
    exact ⟨n', hlt, ρ3, F'', H'', hI', g1, g2, (hp1.trans h3).trans g3, (hf1.trans h6).trans g4⟩
  | exit i => exact ⟨.exit i, ρ2, F2, H2, rfl, h2, hp1.trans h3, h4, h5, hf1.trans h6⟩
  | ret => exact ⟨.ret, ρ2, F2, H2, rfl, h2, hp1.trans h3, h4, h5, hf1.trans h6⟩

/-- what is behind a loop may be seen through a view -/
theorem AWp.view {C : Ctx} {m : Nat} {c : Code} {F : Fr} {H : Hp} {Q Q' : Post} (h : AWp C m c F H Q) (hq : ∀ e F' H', Q e F' H' → ∃ F'' H'', Q' e F'' H'' ∧ View m F'' H'' F' H') : AWp C m c F H Q' := by
  intro ρ a w hH hF
  refine Code.wp_mono ?_ (h ρ a w hH hF)
  rintro e a' w' ⟨ae, ρ', F', H', rfl, h2, h3, h4, h5, h6⟩
  obtain ⟨F'', H'', g1, g2⟩ := hq _ _ _ h2
  obtain ⟨ρ3, q1, q2, q3, q4⟩ := g2.use h4 h5
  exact ⟨ae, ρ3, F'', H'', rfl, g1, h3.trans q3, q1, q2, h6.trans q4⟩

/-! ### a call in a larger heap -/

def renB (θ : List Nat) (b : Blk) : Blk := ⟨b.esz, rens θ b.cells⟩
def renO (θ : List Nat) (b : Option Blk) : Option Blk := b.map (renB θ)

/-- the indices of a small heap, and behind them the new ones -/
def wide (θ : List Nat) (n k : Nat) : List Nat := θ ++ (List.range k).map (n + ·)

/-- the blocks of a small heap laid back into the large one -/
def lay (θ' : List Nat) : List Nat → List (Option Blk) → Hp → Hp
  | j :: θ, b :: bs, H => lay θ' θ bs (H.set j (renO θ' b))
  | _, _, H => H

def merge (θ : List Nat) (H H0 : Hp) : Hp :=
  lay (wide θ H.length (H0.length - θ.length)) θ H0 H ++ (H0.drop θ.length).map (renO (wide θ H.length (H0.length - θ.length)))

theorem lay_length (θ' : List Nat) : ∀ (θ : List Nat) (bs : List (Option Blk)) (H : Hp), (lay θ' θ bs H).length = H.length
  | [], bs, H => by simp [lay]
  | j :: θ, [], H => by simp [lay]
  | j :: θ, b :: bs, H => by simp [lay, lay_length θ' θ bs]

theorem lay_out (θ' : List Nat) : ∀ (θ : List Nat) (bs : List (Option Blk)) (H : Hp) (j : Nat), j ∉ θ → (lay θ' θ bs H)[j]? = H[j]?
  | [], bs, H, j, _ => by simp [lay]
  | k :: θ, [], H, j, _ => by simp [lay]
  | k :: θ, b :: bs, H, j, h => by
    simp only [List.mem_cons, not_or] at h
    simp only [lay]
    rw [lay_out θ' θ bs _ j h.2, List.getElem?_set, if_neg (fun e => h.1 e.symm)]

theorem lay_in (θ' : List Nat) : ∀ (θ : List Nat) (bs : List (Option Blk)) (H : Hp) (i : Nat) (b : Option Blk), θ.Nodup → (∀ j ∈ θ, j < H.length) → bs[i]? = some b → i < θ.length →
    (lay θ' θ bs H)[θ.getD i 0]? = some (renO θ' b)
  | [], bs, H, i, b, _, _, _, hi => by simp at hi
  | k :: θ, [], H, i, b, _, _, hb, _ => by simp at hb
  | k :: θ, x :: bs, H, 0, b, hn, hl, hb, _ => by
    simp at hb; subst hb
    simp only [lay]
    have : k ∉ θ := (List.nodup_cons.1 hn).1
    have e : (k :: θ).getD 0 0 = k := rfl
    rw [e, lay_out θ' θ bs _ k this, List.getElem?_set, if_pos rfl, if_pos (hl k (by simp))]
  | k :: θ, x :: bs, H, i + 1, b, hn, hl, hb, hi => by
    simp only [lay]
    have e : (k :: θ).getD (i + 1) 0 = θ.getD i 0 := by simp [List.getD]
    rw [e]
    exact lay_in θ' θ bs _ i b (List.nodup_cons.1 hn).2 (fun j hj => by simpa using hl j (by simp [hj])) (by simpa using hb) (by simpa using hi)

theorem wide_low {θ : List Nat} {n k i : Nat} (h : i < θ.length) : (wide θ n k).getD i 0 = θ.getD i 0 := by
  simp [wide, List.getD, List.getElem?_append_left h]
theorem wide_high {θ : List Nat} {n k i : Nat} (h : θ.length ≤ i) (h2 : i < θ.length + k) : (wide θ n k).getD i 0 = n + (i - θ.length) := by
  have : i - θ.length < k := by omega
  simp [wide, List.getD, List.getElem?_append_right h, this]
theorem wide_length {θ : List Nat} {n k : Nat} : (wide θ n k).length = θ.length + k := by simp [wide]

mutual
theorem ren_wide {θ : List Nat} {n k : Nat} : ∀ v, bnd θ.length v = true → ren (wide θ n k) v = ren θ v
  | .undef, _ => by simp [ren]
  | .bool _, _ => by simp [ren]
  | .int _ _, _ => by simp [ren]
  | .str _, _ => by simp [ren]
  | .nilp, _ => by simp [ren]
  | .nils, _ => by simp [ren]
  | .nilf, _ => by simp [ren]
  | .ptr (.rw i) off, h => by simp only [bnd, decide_eq_true_eq] at h; simp only [ren, wide_low h]
  | .ptr (.ro i) off, _ => by simp [ren]
  | .slice mb (.rw i) off len, h => by simp only [bnd, decide_eq_true_eq] at h; simp only [ren, wide_low h]
  | .slice mb (.ro i) off len, _ => by simp [ren]
  | .func f cap, h => by simp only [bnd] at h; simp only [ren, rens_wide cap h]
  | .agg cs, h => by simp only [bnd] at h; simp only [ren, rens_wide cs h]
  | .tup cs, h => by simp only [bnd] at h; simp only [ren, rens_wide cs h]
theorem rens_wide {θ : List Nat} {n k : Nat} : ∀ l, bnds θ.length l = true → rens (wide θ n k) l = rens θ l
  | [], _ => by simp [rens]
  | v :: l, h => by
    simp only [bnds, Bool.and_eq_true] at h
    simp only [rens, ren_wide v h.1, rens_wide l h.2]
end

/-- THE FRAME RULE: what a call does in a small heap it does in a larger one, in which the small one's blocks stand at other places. -/
theorem frame_call {C : Ctx} {f : FuncId} {args0 : List AV} {H0 H : Hp} {K0 : AV → Hp → Prop} (h : ACalls C f args0 H0 K0) (θ : List Nat) (hθ : θ.length = H0.length) (hnd : θ.Nodup)
    (hlive : ∀ (i : Nat) b, H0[i]? = some b → ∃ b0, b = some b0 ∧ bnds θ.length b0.cells = true ∧ H[θ.getD i 0]? = some (some (renB θ b0)))
    (hargs : bnds θ.length args0 = true) (hout : ∀ v0 H0', K0 v0 H0' → H0.length ≤ H0'.length ∧ bnd H0'.length v0 = true ∧ ∀ (i : Nat) b, H0'[i]? = some (some b) → bnds H0'.length b.cells = true) :
    ACalls C f (rens θ args0) H fun v H' => ∃ v0 H0', K0 v0 H0' ∧ v = ren (wide θ H.length (H0'.length - θ.length)) v0 ∧ H' = merge θ H H0' := by
  refine ⟨h.1, fun ρ w cargs hH hv => ?_⟩
  have hlt : ∀ i, i < θ.length → θ.getD i 0 < H.length := fun i hi => by
    obtain ⟨b, hb⟩ : ∃ b, H0[i]? = some b := ⟨_, List.getElem?_eq_getElem (by omega)⟩
    obtain ⟨b0, _, _, h2⟩ := hlive i b hb
    exact (List.getElem?_eq_some_iff.1 h2).1
  have hmem : ∀ j ∈ θ, j < H.length := fun j hj => by
    obtain ⟨i, hi, he⟩ := List.mem_iff_getElem.1 hj
    have := hlt i hi
    simp [List.getD, hi, he] at this
    exact this
  let ρ0 : Env := ⟨θ.map fun j => (ρ.rw[j]?).getD none, ρ.ro⟩
  have get : ∀ i, i < θ.length → ρ.rw[θ.getD i 0]? = ρ0.rw[i]? := fun i hi => by
    have h1 : θ.getD i 0 < ρ.rw.length := by rw [hH.len]; exact hlt i hi
    have h2 : ρ0.rw[i]? = some ((ρ.rw[θ.getD i 0]?).getD none) := by
      simp only [ρ0, List.getElem?_map, List.getElem?_eq_getElem hi, Option.map_some, List.getD, Option.getD_some]
    rw [h2, List.getElem?_eq_getElem h1]; rfl
  have hr : RenE θ ρ0 ρ := ⟨get, rfl⟩
  have ents0 : ∀ (i : Nat) e, ρ0.rw[i]? = some (some e) → i < θ.length ∧ ρ.rw[θ.getD i 0]? = some (some e) := fun i e hi => by
    have hl : i < θ.length := by have := (List.getElem?_eq_some_iff.1 hi).1; simpa [ρ0] using this
    exact ⟨hl, (get i hl).trans hi⟩
  have nodup : ∀ i j, i < θ.length → j < θ.length → θ.getD i 0 = θ.getD j 0 → i = j := fun i j hi hj he => by
    simp only [List.getD, List.getElem?_eq_getElem hi, List.getElem?_eq_getElem hj, Option.getD_some] at he
    exact (List.getElem_inj hnd).1 he
  have hH0 : HRel C ρ0 H0 w := by
    refine ⟨by simp [ρ0, hθ], hH.base, fun i e hi => hH.ents _ e (ents0 i e hi).2, fun i b hb => ?_, ?_, hH.ro⟩
    · have hi : i < θ.length := by rw [hθ]; exact (List.getElem?_eq_some_iff.1 hb).1
      obtain ⟨b0, hb0, hbd, h2⟩ := hlive i _ hb
      simp at hb0; subst hb0
      have hl := hH.live _ _ h2
      rw [get i hi] at hl
      generalize ρ0.rw[i]? = x at hl
      match x, hl with
      | some (some e), hl =>
        obtain ⟨g1, cs, ty, fz, g2, g3, g4, g5, g6⟩ := hl
        refine ⟨g1, cs, ty, fz, g2, g3, by simpa [renB, rens_eq] using g4, fun k v hkv => ?_, g6⟩
        have hbv : bnd θ.length v = true := by
          rw [bnds_eq, List.all_eq_true] at hbd
          exact hbd v (List.mem_of_getElem? hkv)
        obtain ⟨cv, q1, q2⟩ := g5 k (ren θ v) (by simp [renB, rens_eq, hkv])
        exact ⟨cv, q1, (VR_ren hr v cv hbv).1 q2⟩
      | some none, hl =>
        have : rens θ b.cells = [] := hl
        rw [rens_eq] at this
        exact List.map_eq_nil_iff.1 this
      | none, hl => exact hl.elim
    · intro i j b b' e e' h1 h2 h3 h4 h5
      have hi : i < θ.length := (ents0 i e h3).1
      have hj : j < θ.length := (ents0 j e' h4).1
      obtain ⟨b0, hb0, _, g1⟩ := hlive i _ h1
      obtain ⟨b1, hb1, _, g2⟩ := hlive j _ h2
      exact nodup i j hi hj (hH.inj _ _ _ _ e e' g1 g2 (ents0 i e h3).2 (ents0 j e' h4).2 h5)
  refine (h.2 ρ0 w cargs hH0 ((VRs_ren hr args0 cargs hargs).1 hv)).mono ?_
  rintro e w' ⟨v0, cv, ρ0', H0', rfl, hK, hle, hH', hvr, hfr⟩
  obtain ⟨ho1, ho2, ho3⟩ := hout v0 H0' hK
  let θ' := wide θ H.length (H0'.length - θ.length)
  have hθ' : θ'.length = H0'.length := by simp only [θ', wide_length]; omega
  let ρ' : Env := ⟨ρ.rw ++ ρ0'.rw.drop θ.length, ρ.ro⟩
  have lenρ : ρ.rw.length = H.length := hH.len
  have low : ∀ j, j < H.length → ρ'.rw[j]? = ρ.rw[j]? := fun j hj => by
    show (ρ.rw ++ _)[j]? = _; rw [List.getElem?_append_left (by omega)]
  have le0 : ∀ i, i < θ.length → ρ0'.rw[i]? = ρ0.rw[i]? := fun i hi => by
    have hl : i < ρ0.rw.length := by simpa [ρ0] using hi
    rw [List.getElem?_eq_getElem hl]
    exact hle.1 i _ (List.getElem?_eq_getElem hl)
  have hr' : RenE θ' ρ0' ρ' := by
    refine ⟨fun i hi => ?_, ?_⟩
    · rw [hθ'] at hi
      by_cases h1 : i < θ.length
      · rw [show θ'.getD i 0 = θ.getD i 0 from wide_low h1, low _ (hlt i h1), get i h1, le0 i h1]
      · rw [show θ'.getD i 0 = H.length + (i - θ.length) from wide_high (by omega) (by omega)]
        show (ρ.rw ++ ρ0'.rw.drop θ.length)[H.length + (i - θ.length)]? = _
        rw [List.getElem?_append_right (by omega), List.getElem?_drop]
        congr 1; omega
    · show ρ.ro = ρ0'.ro
      exact hle.2.symm
  have hleρ : ρ.le ρ' := ⟨fun i x hx => by
    have : i < H.length := by rw [← lenρ]; exact (List.getElem?_eq_some_iff.1 hx).1
    rw [low i this]; exact hx, rfl⟩
  -- the merged heap, place by place
  have mlow : ∀ j, j < H.length → (merge θ H H0')[j]? = (lay θ' θ H0' H)[j]? := fun j hj => by
    show (lay θ' θ H0' H ++ _)[j]? = _
    rw [List.getElem?_append_left (by rw [lay_length]; exact hj)]
  have mout : ∀ j, j < H.length → j ∉ θ → (merge θ H H0')[j]? = H[j]? := fun j hj hn => by rw [mlow j hj, lay_out θ' θ H0' H j hn]
  have min : ∀ (i : Nat) b, H0'[i]? = some b → i < θ.length → (merge θ H H0')[θ.getD i 0]? = some (renO θ' b) := fun i b hb hi => by
    rw [mlow _ (hlt i hi)]; exact lay_in θ' θ H0' H i b hnd hmem hb hi
  have mhigh : ∀ (i : Nat), θ.length ≤ i → (merge θ H H0')[H.length + (i - θ.length)]? = (H0'[i]?).map (renO θ') := fun i hi => by
    show (lay θ' θ H0' H ++ _)[H.length + (i - θ.length)]? = _
    rw [List.getElem?_append_right (by rw [lay_length]; omega), lay_length, List.getElem?_map, List.getElem?_drop]
    congr 2; omega
  have mlen : (merge θ H H0').length = H.length + (H0'.length - θ.length) := by simp [merge, lay_length]
  -- a place of the merged heap is one of the small heap's, or stands outside
  have place : ∀ (j : Nat) b, (merge θ H H0')[j]? = some (some b) → (j < H.length ∧ j ∉ θ ∧ H[j]? = some (some b)) ∨ ∃ i b0, i < H0'.length ∧ θ'.getD i 0 = j ∧ H0'[i]? = some (some b0) ∧ b = renB θ' b0 := by
    intro j b hj
    have hjl : j < H.length + (H0'.length - θ.length) := by rw [← mlen]; exact (List.getElem?_eq_some_iff.1 hj).1
    by_cases h1 : j < H.length
    · by_cases h2 : j ∈ θ
      · obtain ⟨i, hi, he⟩ := List.mem_iff_getElem.1 h2
        have he' : θ.getD i 0 = j := by simp [List.getD, hi, he]
        obtain ⟨x, hx⟩ : ∃ x, H0'[i]? = some x := ⟨_, List.getElem?_eq_getElem (by omega)⟩
        have := min i x hx hi
        rw [he', hj] at this
        cases x with
        | none => simp [renO] at this
        | some b0 =>
          simp [renO] at this
          exact .inr ⟨i, b0, by omega, (wide_low hi).trans he', hx, this⟩
      · exact .inl ⟨h1, h2, by rw [← mout j h1 h2]; exact hj⟩
    · have := mhigh (θ.length + (j - H.length)) (by omega)
      rw [show H.length + (θ.length + (j - H.length) - θ.length) = j by omega, hj] at this
      obtain ⟨x, hx⟩ : ∃ x, H0'[θ.length + (j - H.length)]? = some x := ⟨_, List.getElem?_eq_getElem (by omega)⟩
      rw [hx] at this
      cases x with
      | none => simp [renO] at this
      | some b0 =>
        simp [renO] at this
        exact .inr ⟨θ.length + (j - H.length), b0, by omega, by rw [show θ'.getD _ 0 = _ from wide_high (by omega) (by omega)]; omega, hx, this⟩
  have entOf : ∀ i, i < H0'.length → ρ'.rw[θ'.getD i 0]? = ρ0'.rw[i]? := fun i hi => hr'.1 i (by rw [hθ']; exact hi)
  -- a block that stands outside is no block of the small heap's
  have apart : ∀ (j : Nat) b ej, j < H.length → j ∉ θ → H[j]? = some (some b) → ρ.rw[j]? = some (some ej) → ∀ (i : Nat) ei, ρ0.rw[i]? = some (some ei) → ei.blk ≠ ej.blk := by
    intro j b ej hj hn hb hej i ei hei heq
    obtain ⟨hi, hei'⟩ := ents0 i ei hei
    obtain ⟨x, hx⟩ : ∃ x, H0[i]? = some x := ⟨_, List.getElem?_eq_getElem (by omega)⟩
    obtain ⟨b0, _, _, g1⟩ := hlive i x hx
    have := hH.inj _ _ _ _ ei ej g1 hb hei' hej heq
    apply hn
    rw [← this]
    simp only [List.getD, List.getElem?_eq_getElem hi, Option.getD_some]
    exact List.getElem_mem hi
  have apart' : ∀ (j : Nat) b ej, j < H.length → j ∉ θ → H[j]? = some (some b) → ρ.rw[j]? = some (some ej) → ∀ (i : Nat) ei, ρ0'.rw[i]? = some (some ei) → ei.blk ≠ ej.blk := by
    intro j b ej hj hn hb hej i ei hei heq
    rcases hfr.news i ei hei with ⟨k, e2, hk, he2⟩ | hge
    · exact apart j b ej hj hn hb hej k e2 hk (he2.trans heq)
    · have := (hH.ents j ej hej).2; omega
  refine ⟨_, cv, ρ', _, rfl, ⟨v0, H0', hK, rfl, rfl⟩, hleρ, ⟨?_, ?_, ?_, ?_, ?_, ?_⟩, ?_, ?_⟩
  · rw [mlen]; show (ρ.rw ++ ρ0'.rw.drop θ.length).length = _
    simp [lenρ, hH'.len]
  · exact hH'.base
  · intro j ej hj
    by_cases h1 : j < H.length
    · rw [low j h1] at hj
      have := hH.ents j ej hj
      have := hfr.size
      exact ⟨by omega, by omega⟩
    · have hj' : ρ0'.rw[θ.length + (j - H.length)]? = some (some ej) := by
        change (ρ.rw ++ ρ0'.rw.drop θ.length)[j]? = _ at hj
        rw [List.getElem?_append_right (by omega), List.getElem?_drop] at hj
        rwa [lenρ] at hj
      exact hH'.ents _ ej hj'
  · intro j b hj
    rcases place j b hj with ⟨h1, h2, h3⟩ | ⟨i, b0, hi, he, hb0, rfl⟩
    · rw [low j h1]
      refine (hH.live j b h3).mono hleρ fun ej hej => hfr.keep _ (hH.ents j ej hej).2 fun i ei hei => apart j b ej h1 h2 h3 hej i ei hei
    · rw [← he, entOf i hi]
      have hl := hH'.live i b0 hb0
      have hbd := ho3 i b0 hb0
      generalize ρ0'.rw[i]? = x at hl
      match x, hl with
      | some (some e), hl =>
        obtain ⟨g1, cs, ty, fz, g2, g3, g4, g5, g6⟩ := hl
        refine ⟨g1, cs, ty, fz, g2, g3, by simpa [renB, rens_eq] using g4, fun k v hkv => ?_, g6⟩
        simp only [renB, rens_eq, List.getElem?_map, Option.map_eq_some_iff] at hkv
        obtain ⟨v1, hv1, rfl⟩ := hkv
        obtain ⟨cv, q1, q2⟩ := g5 k v1 hv1
        have hbv : bnd θ'.length v1 = true := by
          rw [hθ']
          rw [bnds_eq, List.all_eq_true] at hbd
          exact hbd v1 (List.mem_of_getElem? hv1)
        exact ⟨cv, q1, (VR_ren hr' v1 cv hbv).2 q2⟩
      | some none, hl =>
        have : b0.cells = [] := hl
        show rens θ' b0.cells = []
        rw [this]; simp [rens]
      | none, hl => exact hl.elim
  · intro j k b b' e e' h1 h2 h3 h4 h5
    rcases place j b h1 with ⟨g1, g2, g3⟩ | ⟨i, b0, hi, he, hb0, _⟩
    · rw [low j g1] at h3
      rcases place k b' h2 with ⟨q1, q2, q3⟩ | ⟨i', b1, hi', he', hb1, _⟩
      · rw [low k q1] at h4
        exact hH.inj j k b b' e e' g3 q3 h3 h4 h5
      · rw [← he', entOf i' hi'] at h4
        exact absurd h5.symm (apart' j b e g1 g2 g3 h3 i' e' h4)
    · rw [← he, entOf i hi] at h3
      rcases place k b' h2 with ⟨q1, q2, q3⟩ | ⟨i', b1, hi', he', hb1, _⟩
      · rw [low k q1] at h4
        exact absurd h5 (apart' k b' e' q1 q2 q3 h4 i e h3)
      · rw [← he', entOf i' hi'] at h4
        have := hH'.inj i i' b0 b1 e e' hb0 hb1 h3 h4 h5
        rw [← he, ← he', this]
  · intro i k v hv
    obtain ⟨b, d, cv, g1, g2, g3, g4⟩ := hH'.ro i k v hv
    have e : ρ0'.ro = ρ.ro := hle.2
    rw [e] at g1 g4
    exact ⟨b, d, cv, g1, g2, g3, g4⟩
  · exact (VR_ren hr' v0 cv (by rw [hθ']; exact ho2)).2 hvr
  · refine ⟨hfr.os, hfr.tape, hfr.output, hfr.size, fun b hb hn => hfr.keep b hb fun i e hi => hn _ e (ents0 i e hi).2, fun j e hj => ?_, rfl⟩
    by_cases h1 : j < H.length
    · rw [low j h1] at hj; exact .inl ⟨j, e, hj, rfl⟩
    · have hj' : ρ0'.rw[θ.length + (j - H.length)]? = some (some e) := by
        change (ρ.rw ++ ρ0'.rw.drop θ.length)[j]? = _ at hj
        rw [List.getElem?_append_right (by omega), List.getElem?_drop] at hj
        rwa [lenρ] at hj
      rcases hfr.news _ e hj' with ⟨k, e2, hk, he2⟩ | hge
      · exact .inl ⟨_, e2, (ents0 k e2 hk).2, he2⟩
      · exact .inr hge

end Go.Am
