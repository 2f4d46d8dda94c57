/-
  A nil list, looked at as an empty one of its own; views that leave the first blocks where they are.
-/
import Derived.Test.YtopenjkaifbnmaaAmMeth
namespace Go.Am

def nilr (k : Nat) (x x' : AV) : Prop := x' = x ∨ (x = .slice true (.rw k) 0 0 ∧ x' = .nils)
def nilrs (k : Nat) : List AV → List AV → Prop
  | [], [] => True
  | x :: l, y :: m => nilr k x y ∧ nilrs k l m
  | _, _ => False
def nilH (k : Nat) : Hp → Hp → Prop
  | [], [] => True
  | none :: H, none :: H' => nilH k H H'
  | some b :: H, some b' :: H' => (b.esz = b'.esz ∧ nilrs k b.cells b'.cells) ∧ nilH k H H'
  | _, _ => False
theorem nilr_refl {k : Nat} (x : AV) : nilr k x x := .inl rfl
theorem nilrs_refl {k : Nat} : ∀ (l : List AV), nilrs k l l
  | [] => trivial
  | x :: l => ⟨nilr_refl x, nilrs_refl l⟩
theorem nilrs_get {k : Nat} : ∀ {l m : List AV}, nilrs k l m → l.length = m.length ∧ ∀ (i : Nat) v, l[i]? = some v → ∃ v', m[i]? = some v' ∧ nilr k v v'
  | [], [], _ => ⟨rfl, fun i v h => by simp at h⟩
  | [], _ :: _, h => h.elim
  | _ :: _, [], h => h.elim
  | x :: l, y :: m, h => by
    obtain ⟨h1, h2⟩ := nilrs_get h.2
    refine ⟨by simp [h1], fun i v hv => ?_⟩
    cases i with
    | zero => simp at hv; subst hv; exact ⟨y, rfl, h.1⟩
    | succ i => simpa using h2 i v (by simpa using hv)
theorem nilH_get {k : Nat} : ∀ {H H' : Hp}, nilH k H H' → H.length = H'.length ∧ ∀ (i : Nat) b, H[i]? = some (some b) → ∃ b', H'[i]? = some (some b') ∧ b.esz = b'.esz ∧ nilrs k b.cells b'.cells
  | [], [], _ => ⟨rfl, fun i v h => by simp at h⟩
  | [], _ :: _, h => h.elim
  | none :: _, [], h => h.elim
  | some _ :: _, [], h => h.elim
  | none :: _, some _ :: _, h => h.elim
  | some _ :: _, none :: _, h => h.elim
  | none :: H, none :: H', h => by
    obtain ⟨h1, h2⟩ := nilH_get (show nilH k H H' from h)
    refine ⟨by simp [h1], fun i v hv => ?_⟩
    cases i with
    | zero => simp at hv
    | succ i => simpa using h2 i v (by simpa using hv)
  | some b :: H, some b' :: H', h => by
    obtain ⟨h1, h2⟩ := nilH_get h.2
    refine ⟨by simp [h1], fun i v hv => ?_⟩
    cases i with
    | zero => simp at hv; subst hv; exact ⟨b', rfl, h.1⟩
    | succ i => simpa using h2 i v (by simpa using hv)
theorem nilr_val {ρ : Env} {x x' : AV} {cv : Value} (h : nilr ρ.rw.length x x') (hv : VR ρ x' cv) : VR (ρ.push none) x cv := by
  rcases h with rfl | ⟨rfl, rfl⟩
  · exact VR.mono (Env.le_push ρ none) _ _ hv
  · simp only [VR] at hv ⊢
    subst hv
    exact ⟨none, 0, rfl, Nat.le_refl _, .inl ⟨rfl, rfl, rfl⟩⟩

theorem nil_rel {C : Ctx} {ρ : Env} {H H' : Hp} {w : World} (e : Nat) (hH : nilH H'.length H H') (h4 : HRel C ρ H' w) : HRel C (ρ.push none) (H ++ [some ⟨e, []⟩]) w := by
  have hl := h4.len
  obtain ⟨hle, hget⟩ := nilH_get hH
  have low : ∀ i, i < H'.length → (ρ.push none).rw[i]? = ρ.rw[i]? := fun i hi => by simp [Env.push, List.getElem?_append_left (show i < ρ.rw.length by omega)]
  have none' : ∀ (i : Nat) x, (ρ.push none).rw[i]? = some (some x) → ρ.rw[i]? = some (some x) := fun i x hx => by
    rcases push_get ρ none i _ hx with ⟨_, h⟩ | ⟨_, h⟩
    · exact h
    · simp at h
  have blk : ∀ (i : Nat) b, (H ++ [some (⟨e, []⟩ : Blk)])[i]? = some (some b) → (i < H'.length ∧ H[i]? = some (some b)) ∨ (i = H'.length ∧ b = ⟨e, []⟩) := fun i b hb => by
    by_cases hi : i < H.length
    · rw [List.getElem?_append_left hi] at hb; exact .inl ⟨by omega, hb⟩
    · rw [List.getElem?_append_right (by omega)] at hb
      have : i = H.length := by have := (List.getElem?_eq_some_iff.1 hb).1; simp at this; omega
      subst this
      simp at hb; exact .inr ⟨hle, hb.symm⟩
  refine ⟨by simp [Env.push, hl, hle], h4.base, fun i x hx => h4.ents i x (none' i x hx), fun i b hb => ?_, fun i j b b' x x' q1 q2 q3 q4 q5 => ?_, fun i k v hv => h4.ro i k v hv⟩
  · rcases blk i b hb with ⟨hi, hb⟩ | ⟨rfl, rfl⟩
    · rw [low i hi]
      obtain ⟨b', g1, g2, g3⟩ := hget i b hb
      obtain ⟨gl, gg⟩ := nilrs_get g3
      have := h4.live i b' g1
      match hx : ρ.rw[i]?, this with
      | some (some en), this =>
        obtain ⟨h1, cs, ty, fz, h2, h3, h5, h6, h7⟩ := this
        refine ⟨by rw [h1, g2], cs, ty, fz, h2, h3, by omega, fun k v hv => ?_, h7⟩
        obtain ⟨v', e1, e2⟩ := gg k v hv
        obtain ⟨cv, e3, e4⟩ := h6 k v' e1
        exact ⟨cv, e3, nilr_val (by rw [hl]; exact e2) e4⟩
      | some none, this =>
        have hc : b'.cells = [] := this
        show b.cells = []
        rw [hc] at gl
        exact List.length_eq_zero_iff.1 (by simpa using gl)
    · have : (ρ.push none).rw[H'.length]? = some none := by simp [Env.push, ← hl]
      rw [this]
      rfl
  · have r3 := none' i x q3
    have r4 := none' j x' q4
    have l3 : i < H'.length := by rw [← hl]; exact (List.getElem?_eq_some_iff.1 r3).1
    have l4 : j < H'.length := by rw [← hl]; exact (List.getElem?_eq_some_iff.1 r4).1
    rw [List.getElem?_append_left (by omega)] at q1
    rw [List.getElem?_append_left (by omega)] at q2
    obtain ⟨b1, g1, _⟩ := hget i b q1
    obtain ⟨b2, g2, _⟩ := hget j b' q2
    exact h4.inj i j b1 b2 x x' g1 g2 r3 r4 q5
theorem nil_frame {C : Ctx} {ρ : Env} {H' : Hp} {w : World} {F F' : Fr} {a : Act} (h4 : HRel C ρ H' w) (hF : nilrs H'.length F F') (h : FRel ρ F' a) : FRel (ρ.push none) F a := by
  obtain ⟨gl, gg⟩ := nilrs_get hF
  refine ⟨h.nod, by rw [gl, h.len], fun i v hv => ?_⟩
  obtain ⟨v', e1, e2⟩ := gg i v hv
  exact nilr_val (by rw [h4.len]; exact e2) (h.val i v' e1)
theorem nil_frm {ρ : Env} {w : World} : Frm ρ w (ρ.push none) w := by
  have none' : ∀ (i : Nat) x, (ρ.push none).rw[i]? = some (some x) → ρ.rw[i]? = some (some x) := fun i x hx => by
    rcases push_get ρ none i _ hx with ⟨_, h⟩ | ⟨_, h⟩
    · exact h
    · simp at h
  exact ⟨rfl, rfl, rfl, Nat.le_refl _, fun _ _ _ => rfl, fun i x hx => .inl ⟨i, x, none' i x hx, rfl⟩, rfl⟩
/-- A nil list may be looked at as an empty one. -/
theorem AWp.nil {C : Ctx} {m : Nat} {c : Code} {F F' : Fr} {H H' : Hp} {Q : Post} (e : Nat) (hm : m ≤ H'.length) (hF : nilrs H'.length F F') (hH : nilH H'.length H H') (h : AWp C m c F (H ++ [some ⟨e, []⟩]) Q) : AWp C m c F' H' Q := by
  intro ρ a w h4 h5
  have := h (ρ.push none) a w (nil_rel e hH h4) (nil_frame h4 hF h5)
  refine Code.wp_mono (fun e' a' w' h => AP.link ?_ nil_frm h) this
  intro i hi
  have : i < ρ.rw.length := by rw [h4.len]; omega
  simp [Env.push, List.getElem?_append_left this]

theorem fixes1 {θ : List Nat} : ∀ i, i < 1 → (0 :: θ).getD i 0 = i := fun i hi => by
  have : i = 0 := by omega
  subst this; rfl
theorem fixes2 {θ : List Nat} : ∀ i, i < 2 → (0 :: 1 :: θ).getD i 0 = i := fun i hi => by
  have : i = 0 ∨ i = 1 := by omega
  rcases this with rfl | rfl <;> rfl
/-- a view that leaves the first blocks where they are -/
theorem View.renM {m : Nat} {θ : List Nat} {F F' : Fr} {H H' : Hp} (hm : m ≤ H.length) (hfix : ∀ i, i < m → θ.getD i 0 = i) (hnd : θ.Nodup) (hb : blks θ H' H.length θ H) (hF : bnds H.length F = true) (hF' : wk (rens θ F) F') : View m F H F' H' := by
  obtain ⟨θ', g1, _, _, g2, g3, g4, g5, g6⟩ := (View.ren hnd hb hF hF').ex
  have hl := blks_len hb
  have hg := blks_get hb
  refine ⟨θ, hl, hm, hfix, fun i hi => (hg i hi).1, fun i j b b' h1 h2 he => ?_, fun i b h => ?_, g5, fun k v hk => ?_⟩
  · have hi : i < θ.length := by rw [hl]; exact (List.getElem?_eq_some_iff.1 h1).1
    have hj : j < θ.length := by rw [hl]; exact (List.getElem?_eq_some_iff.1 h2).1
    simp only [List.getD, List.getElem?_eq_getElem hi, List.getElem?_eq_getElem hj, Option.getD_some] at he
    exact (List.getElem_inj hnd).1 he
  · have hi : i < θ.length := by rw [hl]; exact (List.getElem?_eq_some_iff.1 h).1
    obtain ⟨q1, q2⟩ := (hg i hi).2 b h
    refine ⟨_, q2, by rw [rens_eq]; simp, rfl, fun k v hk => ?_⟩
    rw [bnds_eq, List.all_eq_true] at q1
    refine ⟨by rw [hl]; exact q1 v (List.mem_of_getElem? hk), .inr ?_⟩
    rw [rens_eq]; simp [hk]
  · rw [bnds_eq, List.all_eq_true] at hF
    refine ⟨by rw [hl]; exact hF v (List.mem_of_getElem? hk), ?_⟩
    rcases wk_get hF' k (Go.Am.ren θ v) (by rw [rens_eq]; simp [hk]) with h | h
    · left
      cases v with
      | undef => rfl
      | ptr r o => cases r <;> simp [Go.Am.ren] at h
      | slice m r o n => cases r <;> simp [Go.Am.ren] at h
      | _ => simp [Go.Am.ren] at h
    · exact .inr h
theorem nilrs_map {k : Nat} {f g : Nat → AV} : ∀ (l : List Nat), (∀ i ∈ l, nilr k (f i) (g i)) → nilrs k (l.map f) (l.map g)
  | [], _ => trivial
  | x :: l, h => ⟨h x (by simp), nilrs_map l fun i hi => h i (by simp [hi])⟩
theorem nilrs_find {k i : Nat} : ∀ (live : List Nat) (vs vs' : List AV), nilrs k vs vs' → nilr k ((((live.zip vs).find? fun p => Nat.beq p.1 i).map (·.2)).getD .undef) ((((live.zip vs').find? fun p => Nat.beq p.1 i).map (·.2)).getD .undef)
  | [], _, _, _ => by simp [nilr]
  | j :: live, [], [], _ => by simp [nilr]
  | j :: live, [], _ :: _, h => h.elim
  | j :: live, _ :: _, [], h => h.elim
  | j :: live, x :: vs, y :: vs', h => by
    simp only [List.zip_cons_cons, List.find?_cons]
    split
    · simpa using h.1
    · exact nilrs_find live vs vs' h.2
theorem nilrs_fl {k N : Nat} {live : List Nat} {vs vs' : List AV} (h : nilrs k vs vs') : nilrs k (fl N live vs) (fl N live vs') :=
  nilrs_map _ fun i _ => nilrs_find live vs vs' h

theorem AWp.pin {C : Ctx} {m m' : Nat} {c : Code} {F : Fr} {H : Hp} {Q : Post} (hm : m' ≤ m) (h : AWp C m c F H Q) : AWp C m' c F H Q := by
  intro ρ a w hH hF
  refine Code.wp_mono ?_ (h ρ a w hH hF)
  rintro e a' w' ⟨ae, ρ', F', H', h1, h2, h3, h4⟩
  exact ⟨ae, ρ', F', H', h1, h2, fun i hi => h3 i (by omega), h4⟩
/-- a loop's summary is proved once, for all blocks that stay -/
theorem DLoopOk.of {C : Ctx} {M : Nat} {c : Code} {d : DL} (h : ∀ vs H o, d.S vs H = some o → ∀ n (Q : Ex → List AV → Hp → Prop), lHolds C.G (fun e vs' H' => Q e (vVs C.G vs') (vHp C.G H')) n o →
    AWp C M (.loop c) (fl d.N d.live (vVs C.G vs)) (vHp C.G H) (lv d.N d.live (Lp M Q))) : DLoopOk C M c d :=
  fun m vs H o hm ho n Q hQ => ((h vs H o ho n Q hQ).pin hm).lmono fun e vs H' hl => hl.pin hm
end Go.Am
