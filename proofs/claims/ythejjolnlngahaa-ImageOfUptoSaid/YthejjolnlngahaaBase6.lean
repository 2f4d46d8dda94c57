/-
  Methods: a call over one block of its own, told in every heap that has the block.
  A nil list, looked at as an empty one of its own; views that leave the first blocks where they are.
  Arguments, opened by their types.
  Calls over two blocks that they only read.
  Calls over some blocks that they change, leave, or let go.
  Arguments: lists of rows of whole numbers.
  Calls that only read slices, lie they where they may.
  Calls that read slices and lay one new block.
  A call's nil result, looked at as an empty list of its own.
  Loops that go over something, told at one place: the state at their head is a function of the round's number; their summary is for just the state with which they are entered.
  A drawn region in which two operations want no order though both write: it is told by its two orders.
  A closed run in pieces: a code's first parts by a run of their own, the rest from what they leave.
  A view in which some blocks are let go.
-/
import Derived.Test.YthejjolnlngahaaBase5
import Derived.Test.YthejjolnlngahaaBase4
namespace Go.Am
variable {C : Ctx}

/-- what is behind the blocks that one looks at is let go -/
theorem ACalls.keep {f : FuncId} {args : List AV} {H H1 : Hp} {v1 : AV} {k : Nat} (h : ACalls C f args H fun v H' => v = v1 ∧ H'.take k = H1) (hk : H.length ≤ H1.length) (hb : hpB H1.length H1 = true) (hv : bnd H1.length v1 = true) (hu : v1 ≠ .undef) :
    ACalls C f args H fun v H' => v = v1 ∧ H' = H1 :=
  h.view fun v H' ⟨e1, e2⟩ => ⟨v1, H1, ⟨rfl, rfl⟩, by
    subst e1
    have e : H' = H1 ++ H'.drop k := by rw [← e2, List.take_append_drop]
    rw [e]
    refine View.same hk hb ?_
    cases v <;> first | exact absurd rfl hu | exact ⟨⟨hv, rfl⟩, trivial⟩⟩

/-- a call over one block: in a heap that has it at i -/
theorem meth {f : FuncId} {e : Nat} {cs cs' : List AV} {rest : List AV} {v : AV} {news : List Blk} (h : ACalls C f (.ptr (.rw 0) 0 :: rest) [some ⟨e, cs⟩] fun v' H' => v' = v ∧ H' = some ⟨e, cs'⟩ :: news.map some)
    (hc : bnds 0 cs = true) (hc' : bnds 0 cs' = true) (hr : bnds 0 rest = true) (hv : bnd (1 + news.length) v = true) (hn : ∀ b ∈ news, bnds 0 b.cells = true) {H : Hp} {i : Nat} (hi : H[i]? = some (some ⟨e, cs⟩)) :
    ACalls C f (.ptr (.rw i) 0 :: rest) H fun v' H' => v' = ren (wide [i] H.length news.length) v ∧ H' = H.set i (some ⟨e, cs'⟩) ++ news.map some := by
  have hlt : i < H.length := (List.getElem?_eq_some_iff.1 hi).1
  have key := frame_call h [i] rfl (by simp) (fun j b hj => by
    cases j with
    | zero =>
      simp at hj; subst hj
      refine ⟨_, rfl, bnds_mono (Nat.zero_le _) _ hc, ?_⟩
      simp only [renB, rens_flat _ _ hc]
      simpa using hi
    | succ j => simp at hj) (H := H) (by simp only [bnds, bnd, Bool.and_eq_true]; exact ⟨by simp, bnds_mono (Nat.zero_le _) _ hr⟩) (fun v0 H0' hk => by
    obtain ⟨rfl, rfl⟩ := hk
    refine ⟨by simp, by simpa [Nat.add_comm] using hv, fun j b hj => ?_⟩
    cases j with
    | zero => simp at hj; subst hj; exact bnds_mono (Nat.zero_le _) _ hc'
    | succ j =>
      have : b ∈ news := List.mem_of_getElem? (i := j) (by simpa using hj)
      exact bnds_mono (Nat.zero_le _) _ (hn _ this))
  have ea : rens [i] (.ptr (.rw 0) 0 :: rest) = .ptr (.rw i) 0 :: rest := by
    simp only [rens, ren, rens_flat _ _ hr]; rfl
  rw [ea] at key
  refine key.monoK ?_
  rintro v' H' ⟨v0, H0', ⟨rfl, rfl⟩, rfl, rfl⟩
  have el : (some (⟨e, cs'⟩ : Blk) :: List.map some news).length - [i].length = news.length := by simp
  refine ⟨by rw [el], ?_⟩
  unfold merge
  rw [el]
  simp only [lay, renO, renB, List.length_cons, List.length_nil, Nat.zero_add, List.drop_succ_cons, List.drop_zero, Option.map_some, rens_flat _ _ hc']
  congr 1
  rw [List.map_map]
  refine List.map_congr_left fun b hb => ?_
  simp only [Function.comp, renO, Option.map_some, renB, rens_flat _ _ (hn b hb)]

/-- it writes its block -/
theorem DOut.set1 {f : FuncId} {rest : List EV} {H : DHp} {i : Nat} {e : Nat} {l l' : EL} {v : EV} (hi : H[i]? = some (some ⟨e, l⟩)) (h : ACalls C f (.ptr (.rw 0) 0 :: vVs C.G rest) [some ⟨e, vL C.G l⟩] fun v' H' => v' = vV C.G v ∧ H'.take 1 = [some ⟨e, vL C.G l'⟩])
    (hc : bnds 0 (vL C.G l) = true) (hc' : bnds 0 (vL C.G l') = true) (hr : bnds 0 (vVs C.G rest) = true) (hv : bnd 0 (vV C.G v) = true) (hu : vV C.G v ≠ .undef) : DOut C f (.ptr (.rw i) (.lit 0) :: rest) H v [.set i ⟨e, l'⟩] := by
  have h := h.keep (by simp) (by simp [hpB, bnds_mono (Nat.zero_le _) _ hc']) (bnd_mono (Nat.zero_le _) _ hv) hu
  have := meth (news := []) h hc hc' hr (bnd_mono (Nat.zero_le _) _ hv) (fun b hb => by simp at hb) (vHp_some hi)
  unfold DOut
  simp only [vVs, vV, vR, vN]
  refine this.monoK ?_
  rintro v' H' ⟨rfl, rfl⟩
  refine ⟨ren_flat _ _ hv, ?_⟩
  simp [acts, Hop.act, vHop, vBlk]
/-- it leaves its block as it is -/
theorem DOut.get1 {f : FuncId} {rest : List EV} {H : DHp} {i : Nat} {e : Nat} {l : EL} {v : EV} (hi : H[i]? = some (some ⟨e, l⟩)) (h : ACalls C f (.ptr (.rw 0) 0 :: vVs C.G rest) [some ⟨e, vL C.G l⟩] fun v' H' => v' = vV C.G v ∧ H'.take 1 = [some ⟨e, vL C.G l⟩])
    (hc : bnds 0 (vL C.G l) = true) (hr : bnds 0 (vVs C.G rest) = true) (hv : bnd 0 (vV C.G v) = true) (hu : vV C.G v ≠ .undef) : DOut C f (.ptr (.rw i) (.lit 0) :: rest) H v [] := by
  have := DOut.set1 hi h hc hc hr hv hu
  unfold DOut at this ⊢
  refine this.monoK ?_
  rintro v' H' ⟨rfl, rfl⟩
  refine ⟨rfl, ?_⟩
  simp only [List.map_cons, List.map_nil, acts, Hop.act, vHop]
  have hg := vHp_some (G := C.G) hi
  have hlt : i < (vHp C.G H).length := (List.getElem?_eq_some_iff.1 hg).1
  have : (vHp C.G H)[i] = some (vBlk C.G ⟨e, l⟩) := by
    have := hg
    rw [List.getElem?_eq_getElem hlt] at this
    simpa using this
  rw [← this]
  exact List.set_getElem_self hlt
/-- it leaves its block as it is, and lays one new block -/
theorem DOut.new1 {f : FuncId} {rest : List EV} {H : DHp} {i : Nat} {e e' : Nat} {l l' : EL} {v : EV} {v0 : AV} (hi : H[i]? = some (some ⟨e, l⟩)) (h : ACalls C f (.ptr (.rw 0) 0 :: vVs C.G rest) [some ⟨e, vL C.G l⟩] fun v' H' => v' = v0 ∧ H' = [some ⟨e, vL C.G l⟩, some ⟨e', vL C.G l'⟩])
    (hc : bnds 0 (vL C.G l) = true) (hc' : bnds 0 (vL C.G l') = true) (hr : bnds 0 (vVs C.G rest) = true) (hv : bnd 2 v0 = true) (he : vV C.G v = ren [i, H.length] v0) : DOut C f (.ptr (.rw i) (.lit 0) :: rest) H v [.new ⟨e', l'⟩] := by
  have := meth (news := [⟨e', vL C.G l'⟩]) h hc hc hr hv (fun b hb => by simp at hb; subst hb; exact hc') (vHp_some hi)
  unfold DOut
  simp only [vVs, vV, vR, vN]
  refine this.monoK ?_
  rintro v' H' ⟨rfl, rfl⟩
  refine ⟨?_, ?_⟩
  · rw [he]; simp [wide, vHp_length]
  · simp only [List.map_cons, List.map_nil, acts, Hop.act, vHop, vBlk]
    congr 1
    have hg := vHp_some (G := C.G) hi
    have hlt : i < (vHp C.G H).length := (List.getElem?_eq_some_iff.1 hg).1
    have : (vHp C.G H)[i] = some (vBlk C.G ⟨e, l⟩) := by
      have := hg
      rw [List.getElem?_eq_getElem hlt] at this
      simpa using this
    show (vHp C.G H).set i (some (vBlk C.G ⟨e, l⟩)) = _
    rw [← this]
    exact List.set_getElem_self hlt
end Go.Am
namespace Go.Am

def nilr (k : Nat) (x x' : AV) : Prop := x' = x ∨ (x = .slice true (.rw k) 0 0 ∧ x' = .nils)
def nilrs (k : Nat) : List AV → List AV → Prop
  | [], [] => True
  | x :: l, y :: m => nilr k x y ∧ nilrs k l m
  | _, _ => False
def nilH (k : Nat) : Hp → Hp → Prop
  | [], [] => True
  | none :: H, none :: H' => nilH k H H'
  | some b :: H, some b' :: H' => (b.esz = b'.esz ∧ nilrs k b.cells b'.cells) ∧ nilH k H H'
  | _, _ => False
theorem nilr_refl {k : Nat} (x : AV) : nilr k x x := .inl rfl
theorem nilrs_refl {k : Nat} : ∀ (l : List AV), nilrs k l l
  | [] => trivial
  | x :: l => ⟨nilr_refl x, nilrs_refl l⟩
theorem nilrs_get {k : Nat} : ∀ {l m : List AV}, nilrs k l m → l.length = m.length ∧ ∀ (i : Nat) v, l[i]? = some v → ∃ v', m[i]? = some v' ∧ nilr k v v'
  | [], [], _ => ⟨rfl, fun i v h => by simp at h⟩
  | [], _ :: _, h => h.elim
  | _ :: _, [], h => h.elim
  | x :: l, y :: m, h => by
    obtain ⟨h1, h2⟩ := nilrs_get h.2
    refine ⟨by simp [h1], fun i v hv => ?_⟩
    cases i with
    | zero => simp at hv; subst hv; exact ⟨y, rfl, h.1⟩
    | succ i => simpa using h2 i v (by simpa using hv)
theorem nilH_get {k : Nat} : ∀ {H H' : Hp}, nilH k H H' → H.length = H'.length ∧ ∀ (i : Nat) b, H[i]? = some (some b) → ∃ b', H'[i]? = some (some b') ∧ b.esz = b'.esz ∧ nilrs k b.cells b'.cells
  | [], [], _ => ⟨rfl, fun i v h => by simp at h⟩
  | [], _ :: _, h => h.elim
  | none :: _, [], h => h.elim
  | some _ :: _, [], h => h.elim
  | none :: _, some _ :: _, h => h.elim
  | some _ :: _, none :: _, h => h.elim
  | none :: H, none :: H', h => by
    obtain ⟨h1, h2⟩ := nilH_get (show nilH k H H' from h)
    refine ⟨by simp [h1], fun i v hv => ?_⟩
    cases i with
    | zero => simp at hv
    | succ i => simpa using h2 i v (by simpa using hv)
  | some b :: H, some b' :: H', h => by
    obtain ⟨h1, h2⟩ := nilH_get h.2
    refine ⟨by simp [h1], fun i v hv => ?_⟩
    cases i with
    | zero => simp at hv; subst hv; exact ⟨b', rfl, h.1⟩
    | succ i => simpa using h2 i v (by simpa using hv)
theorem nilr_val {ρ : Env} {x x' : AV} {cv : Value} (h : nilr ρ.rw.length x x') (hv : VR ρ x' cv) : VR (ρ.push none) x cv := by
  rcases h with rfl | ⟨rfl, rfl⟩
  · exact VR.mono (Env.le_push ρ none) _ _ hv
  · simp only [VR] at hv ⊢
    subst hv
    exact ⟨none, 0, rfl, Nat.le_refl _, .inl ⟨rfl, rfl, rfl⟩⟩

theorem nil_rel {C : Ctx} {ρ : Env} {H H' : Hp} {w : World} (e : Nat) (hH : nilH H'.length H H') (h4 : HRel C ρ H' w) : HRel C (ρ.push none) (H ++ [some ⟨e, []⟩]) w := by
  have hl := h4.len
  obtain ⟨hle, hget⟩ := nilH_get hH
  have low : ∀ i, i < H'.length → (ρ.push none).rw[i]? = ρ.rw[i]? := fun i hi => by simp [Env.push, List.getElem?_append_left (show i < ρ.rw.length by omega)]
  have none' : ∀ (i : Nat) x, (ρ.push none).rw[i]? = some (some x) → ρ.rw[i]? = some (some x) := fun i x hx => by
    rcases push_get ρ none i _ hx with ⟨_, h⟩ | ⟨_, h⟩
    · exact h
    · simp at h
  have blk : ∀ (i : Nat) b, (H ++ [some (⟨e, []⟩ : Blk)])[i]? = some (some b) → (i < H'.length ∧ H[i]? = some (some b)) ∨ (i = H'.length ∧ b = ⟨e, []⟩) := fun i b hb => by
    by_cases hi : i < H.length
    · rw [List.getElem?_append_left hi] at hb; exact .inl ⟨by omega, hb⟩
    · rw [List.getElem?_append_right (by omega)] at hb
      have : i = H.length := by have := (List.getElem?_eq_some_iff.1 hb).1; simp at this; omega
      subst this
      simp at hb; exact .inr ⟨hle, hb.symm⟩
  refine ⟨by simp [Env.push, hl, hle], h4.base, fun i x hx => h4.ents i x (none' i x hx), fun i b hb => ?_, fun i j b b' x x' q1 q2 q3 q4 q5 => ?_, fun i k v hv => h4.ro i k v hv, fun D hD => ⟨(h4.df D hD).1, fun i x hx => (h4.df D hD).2 i x (none' i x hx)⟩⟩
  · rcases blk i b hb with ⟨hi, hb⟩ | ⟨rfl, rfl⟩
    · rw [low i hi]
      obtain ⟨b', g1, g2, g3⟩ := hget i b hb
      obtain ⟨gl, gg⟩ := nilrs_get g3
      have := h4.live i b' g1
      match hx : ρ.rw[i]?, this with
      | some (some en), this =>
        have hrr : isRec b = isRec b' := by unfold isRec; rw [g2]
        cases hr0 : isRec b' with
        | true =>
          obtain ⟨h1, r, h2, p, ps, a, bd, F, q1, q2, q3, q4, q5, q6, q7⟩ := this.rec hr0
          rw [q1] at g3 gl gg
          obtain ⟨F', hF'⟩ : ∃ F', b.cells = .rcd p ps a bd :: F' := by
            cases hc : b.cells with
            | nil => rw [hc] at gl; simp at gl
            | cons x F' =>
              rw [hc] at g3
              rcases g3.1 with h | ⟨_, h⟩
              · exact ⟨F', by rw [h]⟩
              · simp at h
          refine .ofRec (hrr.trans hr0) ⟨by rw [h1, g2], r, h2, p, ps, a, bd, F', hF', q2, q3, q4, q5, ?_, fun k v hv => ?_⟩
          · rw [hF'] at gl; rw [← q6]; simpa using gl
          · obtain ⟨v', e1, e2⟩ := gg (k + 1) v (by rw [hF']; simpa using hv)
            exact nilr_val (by rw [hl]; exact e2) (q7 k v' (by simpa using e1))
        | false =>
        obtain ⟨h1, cs, ty, fz, h2, h3, h5, h6, h7⟩ := this.cs hr0
        refine .of (hrr.trans hr0) ⟨by rw [h1, g2], cs, ty, fz, h2, h3, by omega, fun k v hv => ?_, h7⟩
        obtain ⟨v', e1, e2⟩ := gg k v hv
        obtain ⟨cv, e3, e4⟩ := h6 k v' e1
        exact ⟨cv, e3, nilr_val (by rw [hl]; exact e2) e4⟩
      | some none, this =>
        have hc : b'.cells = [] := this
        show b.cells = []
        rw [hc] at gl
        exact List.length_eq_zero_iff.1 (by simpa using gl)
    · have : (ρ.push none).rw[H'.length]? = some none := by simp [Env.push, ← hl]
      rw [this]
      rfl
  · have r3 := none' i x q3
    have r4 := none' j x' q4
    have l3 : i < H'.length := by rw [← hl]; exact (List.getElem?_eq_some_iff.1 r3).1
    have l4 : j < H'.length := by rw [← hl]; exact (List.getElem?_eq_some_iff.1 r4).1
    rw [List.getElem?_append_left (by omega)] at q1
    rw [List.getElem?_append_left (by omega)] at q2
    obtain ⟨b1, g1, _⟩ := hget i b q1
    obtain ⟨b2, g2, _⟩ := hget j b' q2
    exact h4.inj i j b1 b2 x x' g1 g2 r3 r4 q5
theorem nil_frame {C : Ctx} {ρ : Env} {H' : Hp} {w : World} {F F' : Fr} {a : Act} (h4 : HRel C ρ H' w) (hF : nilrs H'.length F F') (h : FRel ρ F' a) : FRel (ρ.push none) F a := by
  obtain ⟨gl, gg⟩ := nilrs_get hF
  refine ⟨h.nod, by rw [gl, h.len], fun i v hv => ?_⟩
  obtain ⟨v', e1, e2⟩ := gg i v hv
  exact nilr_val (by rw [h4.len]; exact e2) (h.val i v' e1)
theorem nil_frm {ρ : Env} {w : World} : Frm ρ w (ρ.push none) w := by
  have none' : ∀ (i : Nat) x, (ρ.push none).rw[i]? = some (some x) → ρ.rw[i]? = some (some x) := fun i x hx => by
    rcases push_get ρ none i _ hx with ⟨_, h⟩ | ⟨_, h⟩
    · exact h
    · simp at h
  exact ⟨rfl, rfl, rfl, Nat.le_refl _, fun _ _ _ => rfl, fun i x hx => .inl ⟨i, x, none' i x hx, rfl⟩, rfl, fun _ h => .inl h⟩
/-- A nil list may be looked at as an empty one. -/
theorem AWp.nil {C : Ctx} {m : Nat} {c : Code} {F F' : Fr} {H H' : Hp} {Q : Post} (e : Nat) (hm : m ≤ H'.length) (hF : nilrs H'.length F F') (hH : nilH H'.length H H') (h : AWp C m c F (H ++ [some ⟨e, []⟩]) Q) : AWp C m c F' H' Q := by
  intro r hr ρ a w h4 h5
  have := h r hr (ρ.push none) a w (nil_rel e hH h4) (nil_frame h4 hF h5)
  refine Code.wpIn_mono (fun e' a' w' h => AP.link ?_ nil_frm h) this
  intro i hi
  have : i < ρ.rw.length := by rw [h4.len]; omega
  simp [Env.push, List.getElem?_append_left this]

theorem fixes1 {θ : List Nat} : ∀ i, i < 1 → (0 :: θ).getD i 0 = i := fun i hi => by
  have : i = 0 := by omega
  subst this; rfl
theorem fixes2 {θ : List Nat} : ∀ i, i < 2 → (0 :: 1 :: θ).getD i 0 = i := fun i hi => by
  have : i = 0 ∨ i = 1 := by omega
  rcases this with rfl | rfl <;> rfl
/-- a view that leaves the first blocks where they are -/
theorem View.renM {m : Nat} {θ : List Nat} {F F' : Fr} {H H' : Hp} (hm : m ≤ H.length) (hfix : ∀ i, i < m → θ.getD i 0 = i) (hnd : θ.Nodup) (hb : blks θ H' H.length θ H) (hF : bnds H.length F = true) (hF' : wk (rens θ F) F') : View m F H F' H' := by
  obtain ⟨θ', g1, _, _, g2, g3, g4, g5, g6⟩ := (View.ren hnd hb hF hF').ex
  have hl := blks_len hb
  have hg := blks_get hb
  refine ⟨θ, hl, hm, hfix, fun i hi => (hg i hi).1, fun i j b b' h1 h2 he => ?_, fun i b h => ?_, g5, fun k v hk => ?_⟩
  · have hi : i < θ.length := by rw [hl]; exact (List.getElem?_eq_some_iff.1 h1).1
    have hj : j < θ.length := by rw [hl]; exact (List.getElem?_eq_some_iff.1 h2).1
    simp only [List.getD, List.getElem?_eq_getElem hi, List.getElem?_eq_getElem hj, Option.getD_some] at he
    exact (List.getElem_inj hnd).1 he
  · have hi : i < θ.length := by rw [hl]; exact (List.getElem?_eq_some_iff.1 h).1
    obtain ⟨q1, q2⟩ := (hg i hi).2 b h
    refine ⟨_, q2, by rw [rens_eq]; simp, rfl, fun k v hk => ?_, fun _ => ⟨by rw [rens_eq]; simp, by rw [rens_eq]; simp⟩⟩
    rw [bnds_eq, List.all_eq_true] at q1
    refine ⟨by rw [hl]; exact q1 v (List.mem_of_getElem? hk), .inr ?_⟩
    rw [rens_eq]; simp [hk]
  · rw [bnds_eq, List.all_eq_true] at hF
    refine ⟨by rw [hl]; exact hF v (List.mem_of_getElem? hk), ?_⟩
    rcases wk_get hF' k (Go.Am.ren θ v) (by rw [rens_eq]; simp [hk]) with h | h
    · left
      cases v with
      | undef => rfl
      | ptr r o => cases r <;> simp [Go.Am.ren] at h
      | slice m r o n => cases r <;> simp [Go.Am.ren] at h
      | _ => simp [Go.Am.ren] at h
    · exact .inr h
theorem nilrs_map {k : Nat} {f g : Nat → AV} : ∀ (l : List Nat), (∀ i ∈ l, nilr k (f i) (g i)) → nilrs k (l.map f) (l.map g)
  | [], _ => trivial
  | x :: l, h => ⟨h x (by simp), nilrs_map l fun i hi => h i (by simp [hi])⟩
theorem nilrs_find {k i : Nat} : ∀ (live : List Nat) (vs vs' : List AV), nilrs k vs vs' → nilr k ((((live.zip vs).find? fun p => Nat.beq p.1 i).map (·.2)).getD .undef) ((((live.zip vs').find? fun p => Nat.beq p.1 i).map (·.2)).getD .undef)
  | [], _, _, _ => by simp [nilr]
  | j :: live, [], [], _ => by simp [nilr]
  | j :: live, [], _ :: _, h => h.elim
  | j :: live, _ :: _, [], h => h.elim
  | j :: live, x :: vs, y :: vs', h => by
    simp only [List.zip_cons_cons, List.find?_cons]
    split
    · simpa using h.1
    · exact nilrs_find live vs vs' h.2
theorem nilrs_fl {k N : Nat} {live : List Nat} {vs vs' : List AV} (h : nilrs k vs vs') : nilrs k (fl N live vs) (fl N live vs') :=
  nilrs_map _ fun i _ => nilrs_find live vs vs' h

theorem AWp.pin {C : Ctx} {m m' : Nat} {c : Code} {F : Fr} {H : Hp} {Q : Post} (hm : m' ≤ m) (h : AWp C m c F H Q) : AWp C m' c F H Q := by
  intro r hr ρ a w hH hF
  refine Code.wpIn_mono ?_ (h r hr ρ a w hH hF)
  rintro e a' w' ⟨ae, ρ', F', H', h1, h2, h3, h4⟩
  exact ⟨ae, ρ', F', H', h1, h2, fun i hi => h3 i (by omega), h4⟩
/-- a loop's summary is proved once, for all blocks that stay -/
theorem DLoopOk.of {C : Ctx} {M : Nat} {c : Code} {d : DL} (h : ∀ vs H o, d.S vs H = some o → ∀ n (Q : Ex → List AV → Hp → Prop), lHolds C.G (fun e vs' H' => Q e (vVs C.G vs') (vHp C.G H')) n o →
    AWp C M (.loop c) (fl d.N d.live (vVs C.G vs)) (vHp C.G H) (lv d.N d.live (Lp M Q))) : DLoopOk C M c d :=
  fun m vs H o hm ho n Q hQ => ((h vs H o ho n Q hQ).pin hm).lmono fun e vs H' hl => hl.pin hm

theorem fv_refl {n : Nat} : ∀ (F : Fr), bnds n F = true → fv n F F
  | [], _ => trivial
  | x :: F, h => by
    simp only [bnds, Bool.and_eq_true] at h
    have := fv_refl F h.2
    cases x <;> first | exact this | exact ⟨⟨h.1, rfl⟩, this⟩
theorem bnds_fl {n N : Nat} {live : List Nat} {vs : List AV} (h : bnds n vs = true) : bnds n (fl N live vs) = true := by
  rw [bnds_eq, List.all_eq_true]
  intro v hv
  obtain ⟨i, hi⟩ := List.getElem?_of_mem hv
  rcases fl_get hi with rfl | ⟨j, _, h2⟩
  · rfl
  · rw [bnds_eq, List.all_eq_true] at h
    exact h v (List.mem_of_getElem? h2)
/-- what lies behind the blocks that one looks at may be forgotten ahead of a loop -/
theorem AWp.forget {C : Ctx} {m : Nat} {c : Code} {N : Nat} {live : List Nat} {vs : List AV} {H G : Hp} {Q : Post} (hm : m ≤ H.length) (hb : hpB H.length H = true) (hv : bnds H.length vs = true) (h : AWp C m c (fl N live vs) H Q) : AWp C m c (fl N live vs) (H ++ G) Q :=
  h.pre (View.same hm hb (fv_refl _ (bnds_fl hv)))
end Go.Am
namespace Go
theorem DataW.TrodAll.len {H : Type} {enc : TypeId × Value → H} {P : Program} {w : World} {base : Nat} {spare : Nat → Bool} {held : Bool} : ∀ {ts : List TypeId} {vs : List Value} {ds : List (DataW H)} {ps : List MemPlace}, DataW.TrodAll enc P w base spare held ts vs ds ps → vs.length = ts.length ∧ ds.length = ts.length
  | [], vs, ds, ps, h => by
    obtain ⟨rfl, rfl, rfl⟩ := ChangeShapes.trodAll_nil h
    exact ⟨rfl, rfl⟩
  | t :: ts, vs, ds, ps, h => by
    obtain ⟨v, vs, d, ds, p, q, rfl, rfl, rfl, h1, h2⟩ := ChangeShapes.trodAll_cons h
    have := DataW.TrodAll.len h2
    simp [this]
end Go
namespace Go.Am
section
variable {H : Type} {P : Program} {L : List RoE} {n : Nat} {t e : TypeId} {cs : List AV} {a : AV} {d : DataW H}

theorem TyD.asBool (ht : P.underlying t = some .bool) (h : TyD P L (n + 1) t cs d) : ∃ b, cs = [.bool b] ∧ d = .lit (.bool b) := by unfold TyD at h; rw [ht] at h; exact h
theorem TyD.asInt {k : IntKind} (ht : P.underlying t = some (.int k)) (h : TyD P L (n + 1) t cs d) : ∃ i, cs = [.int k i] ∧ (Lit.int k i).wf = true ∧ d = .lit (.int k i) := by unfold TyD at h; rw [ht] at h; exact h
theorem TyD.asSlice (ht : P.underlying t = some (.slice e)) (h : TyD P L (n + 1) t cs d) : (cs = [.nils] ∧ d = .nil) ∨ ∃ (k : Nat) (ds sp : List (DataW H)) (en : RoE), cs = [.slice false (.ro k) 0 ds.length] ∧ d = .slice ds sp ∧ L[k]? = some en ∧
        en.cells.length = ds.length * P.cellsOf e ∧ ds.length + sp.length ≤ maxLen ∧ ∀ (i : Nat) x, ds[i]? = some x → TyD P L n e ((en.cells.drop (i * P.cellsOf e)).take (P.cellsOf e)) x := by unfold TyD at h; rw [ht] at h; exact h
theorem TyD.asStruct {fs : Array Field} (ht : P.underlying t = some (.struct fs)) (h : TyD P L (n + 1) t cs d) : cs.length = P.cellsOf t ∧ ∃ ds, d = .agg ds ∧ ds.length = fs.size ∧ ∀ (i : Nat) f x, fs[i]? = some f → ds[i]? = some x → TyD P L n f.type ((cs.drop f.offset).take (P.cellsOf f.type)) x := by unfold TyD at h; rw [ht] at h; exact h
theorem TyD.asArray {m : Nat} (ht : P.underlying t = some (.array m e)) (h : TyD P L (n + 1) t cs d) : cs.length = P.cellsOf t ∧ ∃ ds, d = .agg ds ∧ ds.length = m ∧ ∀ (i : Nat) x, ds[i]? = some x → TyD P L n e ((cs.drop (i * P.cellsOf e)).take (P.cellsOf e)) x := by unfold TyD at h; rw [ht] at h; exact h

theorem GL_eq {k : Nat} {en : RoE} (h : L[k]? = some en) : GL L k = en.cells := by simp [GL, h]

theorem wf_u8 {i : Int} (h : (Lit.int .u8 i).wf = true) : 0 ≤ i ∧ i ≤ 255 := by simpa [Lit.wf, IntKind.min, IntKind.max, IntKind.signed, IntKind.bits] using h
theorem wf_u32 {i : Int} (h : (Lit.int .u32 i).wf = true) : 0 ≤ i ∧ i < 4294967296 := by
  have : 0 ≤ i ∧ i ≤ 4294967295 := by simpa [Lit.wf, IntKind.min, IntKind.max, IntKind.signed, IntKind.bits] using h
  omega
theorem wf_i64 {i : Int} (h : (Lit.int .i64 i).wf = true) : -9223372036854775808 ≤ i ∧ i ≤ 9223372036854775807 := by simpa [Lit.wf, IntKind.min, IntKind.max, IntKind.signed, IntKind.bits] using h
theorem wf_u64 {i : Int} (h : (Lit.int .u64 i).wf = true) : 0 ≤ i ∧ i ≤ 18446744073709551615 := by simpa [Lit.wf, IntKind.min, IntKind.max, IntKind.signed, IntKind.bits] using h

/-- a slice of numbers: its cells -/
structure IntsAt (L : List RoE) (kd : IntKind) (k m : Nat) : Prop where
  len : (GL L k).length = m
  ok : okI kd (GL L k) 0 m = true
  wf : ∀ j, j < m → (Lit.int kd (getI (GL L k) j)).wf = true

theorem IntsAt.flat {L : List RoE} {kd : IntKind} {k m : Nat} (h : IntsAt L kd k m) : ∀ v ∈ GL L k, ∃ i, v = .int kd i := by
  intro v hv
  obtain ⟨j, hj⟩ := List.getElem?_of_mem hv
  have hlt : j < m := by rw [← h.len]; exact (List.getElem?_eq_some_iff.1 hj).1
  have := isI_some (okI_get h.ok hlt)
  rw [Nat.zero_add, hj] at this
  exact ⟨_, Option.some.inj this⟩
theorem IntsAt.norw {L : List RoE} {kd : IntKind} {k m : Nat} (h : IntsAt L kd k m) : (GL L k).all norw = true := by
  rw [List.all_eq_true]
  intro v hv
  obtain ⟨i, rfl⟩ := h.flat v hv
  simp [Go.Am.norw]

theorem TyD.asInts {kd : IntKind} (ht : P.underlying t = some (.slice e)) (he : P.underlying e = some (.int kd)) (hc : P.cellsOf e = 1) (h : TyD P L (n + 2) t cs d) :
    (cs = [.nils] ∧ d = .nil) ∨ ∃ (k : Nat) (ds sp : List (DataW H)), cs = [.slice false (.ro k) 0 ds.length] ∧ d = .slice ds sp ∧ ds.length + sp.length ≤ maxLen ∧ IntsAt L kd k ds.length := by
  rcases TyD.asSlice ht h with h | ⟨k, ds, sp, en, h1, h2, h3, h4, h5, h6⟩
  · exact .inl h
  · refine .inr ⟨k, ds, sp, h1, h2, h5, ?_⟩
    rw [hc, Nat.mul_one] at h4
    have key : ∀ j, j < ds.length → ∃ i, en.cells[j]? = some (.int kd i) ∧ (Lit.int kd i).wf = true := fun j hj => by
      obtain ⟨i, g1, g2, _⟩ := TyD.asInt he (h6 j ds[j] (List.getElem?_eq_getElem hj))
      rw [hc, Nat.mul_one] at g1
      refine ⟨i, ?_, g2⟩
      have := congrArg (fun l : List AV => l[0]?) g1
      simp only [List.getElem?_take, List.getElem?_drop, List.getElem?_cons_zero] at this
      simpa using this
    refine ⟨by rw [GL_eq h3, h4], okI_of fun j hj => ?_, fun j hj => ?_⟩
    · obtain ⟨i, g1, _⟩ := key j hj
      rw [GL_eq h3, Nat.zero_add]
      simp [isI, g1]
    · obtain ⟨i, g1, g2⟩ := key j hj
      rw [GL_eq h3]
      simp [getI, g1, g2]

theorem ArgD.slice (ht : P.underlying t = some (.slice e)) (h : ArgD P L n t a d) : TyD P L n t [a] d := by unfold ArgD at h; rw [ht] at h; exact h
theorem ArgD.int {k : IntKind} (ht : P.underlying t = some (.int k)) (h : ArgD P L n t a d) : TyD P L n t [a] d := by unfold ArgD at h; rw [ht] at h; exact h
theorem ArgD.bool (ht : P.underlying t = some .bool) (h : ArgD P L n t a d) : TyD P L n t [a] d := by unfold ArgD at h; rw [ht] at h; exact h
theorem ArgD.struct {fs : Array Field} (ht : P.underlying t = some (.struct fs)) (h : ArgD P L n t a d) : ∃ cs, a = .agg cs ∧ TyD P L n t cs d := by unfold ArgD at h; rw [ht] at h; exact h
theorem ArgD.array {m : Nat} (ht : P.underlying t = some (.array m e)) (h : ArgD P L n t a d) : ∃ cs, a = .agg cs ∧ TyD P L n t cs d := by unfold ArgD at h; rw [ht] at h; exact h
theorem ArgDs.nil {xs : List AV} {ds : List (DataW H)} (h : ArgDs P L n [] xs ds) : xs = [] ∧ ds = [] := by
  match xs, ds, h with
  | [], [], _ => exact ⟨rfl, rfl⟩
theorem ArgDs.cons {ts : List TypeId} {xs : List AV} {ds : List (DataW H)} (h : ArgDs P L n (t :: ts) xs ds) : ∃ x xs' d ds', xs = x :: xs' ∧ ds = d :: ds' ∧ ArgD P L n t x d ∧ ArgDs P L n ts xs' ds' := by
  match xs, ds, h with
  | x :: xs, d :: ds, h => exact ⟨x, xs, d, ds, rfl, rfl, h.1, h.2⟩
/-- beyond the list nothing stands -/
theorem GL_out {L : List RoE} {k : Nat} (h : L.length ≤ k) : GL L k = [] := by simp [GL, h]

/-- nil, as a slice of nothing -/
theorem VR_nils {ρ : Env} {v : Value} (k o : Nat) (h : VR ρ .nils v) : VR ρ (.slice true (.ro k) o 0) v := by
  simp only [VR] at h ⊢
  subst h
  exact ⟨none, 0, rfl, Nat.le_refl _, .inl ⟨rfl, rfl, rfl⟩⟩
theorem VR_may {ρ : Env} {v : Value} {mb : Bool} {r : Ref} {o m : Nat} (h : VR ρ (.slice mb r o m) v) : VR ρ (.slice true r o m) v := by
  simp only [VR] at h ⊢
  obtain ⟨ca, cap, h1, h2, h3⟩ := h
  refine ⟨ca, cap, h1, h2, ?_⟩
  rcases h3 with ⟨h3, h4, _⟩ | h3
  · exact .inl ⟨h3, h4, rfl⟩
  · exact .inr h3
end
end Go.Am
namespace Go.Am
variable {C : Ctx}

theorem vHp_set_same {G : Nat → List AV} {H : DHp} {i : Nat} {b : DBlk} (hi : H[i]? = some (some b)) : (vHp G H).set i (some (vBlk G b)) = vHp G H := by
  have hg := vHp_some (G := G) hi
  have hlt : i < (vHp G H).length := (List.getElem?_eq_some_iff.1 hg).1
  have : (vHp G H)[i] = some (vBlk G b) := by
    have := hg
    rw [List.getElem?_eq_getElem hlt] at this
    simpa using this
  rw [← this]
  exact List.set_getElem_self hlt
/-- it reads two blocks -/
theorem DOut.get2 {f : FuncId} {args0 : List AV} {args : List EV} {H : DHp} {i j : Nat} {b0 b1 : DBlk} {v : EV} (hij : i ≠ j) (hi : H[i]? = some (some b0)) (hj : H[j]? = some (some b1))
    (h : ACalls C f args0 [some (vBlk C.G b0), some (vBlk C.G b1)] fun v' H' => v' = vV C.G v ∧ H'.take 2 = [some (vBlk C.G b0), some (vBlk C.G b1)])
    (h0 : bnds 0 (vL C.G b0.cells) = true) (h1 : bnds 0 (vL C.G b1.cells) = true) (ha : bnds 2 args0 = true) (he : vVs C.G args = rens [i, j] args0) (hv : bnd 0 (vV C.G v) = true) (hu : vV C.G v ≠ .undef) : DOut C f args H v [] := by
  have h := h.keep (by simp) (by simp [hpB, vBlk, bnds_mono (Nat.zero_le _) _ h0, bnds_mono (Nat.zero_le _) _ h1]) (bnd_mono (Nat.zero_le _) _ hv) hu
  have ri : ∀ (b : DBlk), bnds 0 (vL C.G b.cells) = true → renB [i, j] (vBlk C.G b) = vBlk C.G b := fun b hb => by simp only [renB, vBlk, rens_flat _ _ hb]
  have key := frame_call h [i, j] rfl (by simp [hij]) (fun k b hk => by
    match k with
    | 0 => simp at hk; subst hk; exact ⟨_, rfl, bnds_mono (Nat.zero_le _) _ h0, by rw [ri _ h0]; simpa using vHp_some (G := C.G) hi⟩
    | 1 => simp at hk; subst hk; exact ⟨_, rfl, bnds_mono (Nat.zero_le _) _ h1, by rw [ri _ h1]; simpa using vHp_some (G := C.G) hj⟩
    | k + 2 => simp at hk) (H := vHp C.G H) (by simpa using ha) (fun v0 H0' hk => by
    obtain ⟨rfl, rfl⟩ := hk
    refine ⟨Nat.le_refl _, bnd_mono (Nat.zero_le _) _ hv, fun k b hb => ?_⟩
    match k with
    | 0 => simp at hb; subst hb; exact bnds_mono (Nat.zero_le _) _ h0
    | 1 => simp at hb; subst hb; exact bnds_mono (Nat.zero_le _) _ h1
    | k + 2 => simp at hb)
  unfold DOut
  rw [he]
  refine key.monoK ?_
  rintro v' H' ⟨v0, H0', ⟨rfl, rfl⟩, rfl, rfl⟩
  refine ⟨ren_flat _ _ hv, ?_⟩
  simp only [List.map_nil, acts, merge, List.length_cons, List.length_nil, lay, renO, Option.map_some, List.drop_succ_cons, List.drop_nil, List.append_nil]
  have rw' : ∀ (b : DBlk) (θ : List Nat), bnds 0 (vL C.G b.cells) = true → renB θ (vBlk C.G b) = vBlk C.G b := fun b θ hb => by simp only [renB, vBlk, rens_flat _ _ hb]
  rw [rw' _ _ h0, rw' _ _ h1, vHp_set_same hi, vHp_set_same hj]
/-- it reads one block, told of it more than once -/
theorem DOut.get1g {f : FuncId} {args0 : List AV} {args : List EV} {H : DHp} {i : Nat} {b0 : DBlk} {v : EV} (hi : H[i]? = some (some b0))
    (h : ACalls C f args0 [some (vBlk C.G b0)] fun v' H' => v' = vV C.G v ∧ H'.take 1 = [some (vBlk C.G b0)])
    (h0 : bnds 0 (vL C.G b0.cells) = true) (ha : bnds 1 args0 = true) (he : vVs C.G args = rens [i] args0) (hv : bnd 0 (vV C.G v) = true) (hu : vV C.G v ≠ .undef) : DOut C f args H v [] := by
  have h := h.keep (by simp) (by simp [hpB, vBlk, bnds_mono (Nat.zero_le _) _ h0]) (bnd_mono (Nat.zero_le _) _ hv) hu
  have rw' : ∀ (b : DBlk) (θ : List Nat), bnds 0 (vL C.G b.cells) = true → renB θ (vBlk C.G b) = vBlk C.G b := fun b θ hb => by simp only [renB, vBlk, rens_flat _ _ hb]
  have key := frame_call h [i] rfl (by simp) (fun k b hk => by
    match k with
    | 0 => simp at hk; subst hk; exact ⟨_, rfl, bnds_mono (Nat.zero_le _) _ h0, by rw [rw' _ _ h0]; simpa using vHp_some (G := C.G) hi⟩
    | k + 1 => simp at hk) (H := vHp C.G H) (by simpa using ha) (fun v0 H0' hk => by
    obtain ⟨rfl, rfl⟩ := hk
    refine ⟨Nat.le_refl _, bnd_mono (Nat.zero_le _) _ hv, fun k b hb => ?_⟩
    match k with
    | 0 => simp at hb; subst hb; exact bnds_mono (Nat.zero_le _) _ h0
    | k + 1 => simp at hb)
  unfold DOut
  rw [he]
  refine key.monoK ?_
  rintro v' H' ⟨v0, H0', ⟨rfl, rfl⟩, rfl, rfl⟩
  refine ⟨ren_flat _ _ hv, ?_⟩
  simp only [List.map_nil, acts, merge, List.length_cons, List.length_nil, lay, renO, Option.map_some, List.drop_succ_cons, List.drop_nil, List.append_nil]
  rw [rw' _ _ h0, vHp_set_same hi]
/-- it lays one new block -/
theorem DOut.new0 {f : FuncId} {args0 : List AV} {args : List EV} {H : DHp} {b : DBlk} {v : EV} {v0 : AV} (h : ACalls C f args0 [] fun v' H' => v' = v0 ∧ H' = [some (vBlk C.G b)])
    (hb : bnds 0 (vL C.G b.cells) = true) (ha : bnds 0 args0 = true) (he : vVs C.G args = args0) (hv0 : bnd 1 v0 = true) (hv : vV C.G v = ren [H.length] v0) : DOut C f args H v [.new b] := by
  have key := frame_call h [] rfl (by simp) (fun k b hk => by simp at hk) (H := vHp C.G H) (by simpa using ha) (fun v1 H0' hk => by
    obtain ⟨rfl, rfl⟩ := hk
    refine ⟨by simp, hv0, fun k b' hb' => ?_⟩
    match k with
    | 0 => simp at hb'; subst hb'; exact bnds_mono (Nat.zero_le _) _ hb
    | k + 1 => simp at hb')
  unfold DOut
  rw [he, show args0 = rens [] args0 from (rens_flat _ _ ha).symm]
  refine key.monoK ?_
  rintro v' H' ⟨v1, H0', ⟨rfl, rfl⟩, rfl, rfl⟩
  refine ⟨by rw [hv]; simp [wide, vHp_length], ?_⟩
  simp only [List.map_cons, List.map_nil, acts, Hop.act, vHop, merge, lay, List.length_nil, List.drop_zero, renO, Option.map_some]
  congr 2
  simp only [renB, vBlk, rens_flat _ _ hb]
end Go.Am
namespace Go.Am
variable {C : Ctx}
theorem hpB_get {n : Nat} : ∀ {H : Hp}, hpB n H = true → ∀ (i : Nat) b, H[i]? = some (some b) → bnds n b.cells = true
  | [], _, i, b, h => by simp at h
  | none :: H, hb, i, b, h => by
    cases i with
    | zero => simp at h
    | succ i => exact hpB_get (H := H) (by simpa [hpB] using hb) i b (by simpa using h)
  | some b0 :: H, hb, i, b, h => by
    simp only [hpB, Bool.and_eq_true] at hb
    cases i with
    | zero => simp at h; subst h; exact hb.1
    | succ i => exact hpB_get (H := H) hb.2 i b (by simpa using h)
/-- a call in a small heap, told in a larger one -/
theorem DOut.fr {f : FuncId} {args0 : List AV} {args : List EV} {H : DHp} {θ : List Nat} {H0 H1 : Hp} {v0 : AV} {v : EV} {hs : List DHop} (hnd : θ.Nodup) (hl : θ.length = H0.length)
    (hlive : ∀ (i : Nat) b, H0[i]? = some b → ∃ b0, b = some b0 ∧ bnds θ.length b0.cells = true ∧ (vHp C.G H)[θ.getD i 0]? = some (some (renB θ b0)))
    (ha : bnds θ.length args0 = true) (he : vVs C.G args = rens θ args0) (h : ACalls C f args0 H0 fun v' H' => v' = v0 ∧ H' = H1) (hle : H0.length ≤ H1.length) (hv0 : bnd H1.length v0 = true) (hb : hpB H1.length H1 = true)
    (hv : vV C.G v = ren (wide θ H.length (H1.length - θ.length)) v0) (hm : acts (vHp C.G H) (hs.map (vHop C.G)) = merge θ (vHp C.G H) H1) : DOut C f args H v hs := by
  have key := frame_call h θ hl hnd hlive ha (fun v1 H0' hk => by
    obtain ⟨rfl, rfl⟩ := hk
    exact ⟨hle, hv0, hpB_get hb⟩)
  unfold DOut
  rw [he]
  refine key.monoK ?_
  rintro v' H' ⟨v1, H0', ⟨rfl, rfl⟩, rfl, rfl⟩
  exact ⟨by rw [hv, vHp_length], hm.symm⟩
/-- it lets its block go, and lays a new one -/
theorem DOut.app1 {f : FuncId} {args0 : List AV} {args : List EV} {H : DHp} {i : Nat} {b0 b1 : DBlk} {v : EV} {v0 : AV} (hi : H[i]? = some (some b0))
    (h : ACalls C f args0 [some (vBlk C.G b0)] fun v' H' => v' = v0 ∧ H' = [none, some (vBlk C.G b1)])
    (h0 : bnds 0 (vL C.G b0.cells) = true) (h1 : bnds 0 (vL C.G b1.cells) = true) (ha : bnds 1 args0 = true) (he : vVs C.G args = rens [i] args0) (hv0 : bnd 2 v0 = true) (hv : vV C.G v = ren [i, H.length] v0) : DOut C f args H v [.app i b1] := by
  have rw' : ∀ (b : DBlk) (θ : List Nat), bnds 0 (vL C.G b.cells) = true → renB θ (vBlk C.G b) = vBlk C.G b := fun b θ hb => by simp only [renB, vBlk, rens_flat _ _ hb]
  refine DOut.fr (θ := [i]) (by simp) rfl (fun k b hk => ?_) ha he h (by simp) hv0 (by simp [hpB, vBlk, bnds_mono (Nat.zero_le _) _ h1]) (by rw [hv]; simp [wide]) ?_
  · match k with
    | 0 => simp at hk; subst hk; exact ⟨_, rfl, bnds_mono (Nat.zero_le _) _ h0, by rw [rw' _ _ h0]; simpa using vHp_some (G := C.G) hi⟩
    | k + 1 => simp at hk
  · simp [acts, Hop.act, vHop, merge, lay, renO, rw' _ _ h1]
theorem blks_of {θ : List Nat} {H' : Hp} {n : Nat} : ∀ {js : List Nat} {H : Hp}, js.length = H.length → (∀ (i : Nat), i < js.length → js.getD i 0 < H'.length ∧ ∀ b, H[i]? = some (some b) → bnds n b.cells = true ∧ H'[js.getD i 0]? = some (some ⟨b.esz, rens θ b.cells⟩)) → blks θ H' n js H
  | [], [], _, _ => trivial
  | [], _ :: _, h, _ => by simp at h
  | _ :: _, [], h, _ => by simp at h
  | j :: js, none :: H, h, g => ⟨(g 0 (by simp)).1, blks_of (by simpa using h) fun i hi => by simpa using g (i + 1) (by simpa using hi)⟩
  | j :: js, some b :: H, h, g => ⟨(g 0 (by simp)).2 b rfl, blks_of (by simpa using h) fun i hi => by simpa using g (i + 1) (by simpa using hi)⟩
/-- the last block was laid anew -/
theorem View.snoc {m : Nat} {H0 : Hp} {e : Nat} {X : List AV} {F F' : Fr} (hm : m ≤ H0.length) (h0 : hpB 0 H0 = true) (hX : bnds 0 X = true) (hF : bnds (H0.length + 1) F = true) (hF' : wk (rens (List.range H0.length ++ [H0.length + 1]) F) F') :
    View m F (H0 ++ [some ⟨e, X⟩]) F' (H0 ++ [none, some ⟨e, X⟩]) := by
  have hg : ∀ i, i < H0.length → (List.range H0.length ++ [H0.length + 1]).getD i 0 = i := fun i hi => by
    simp [List.getD, List.getElem?_append_left, hi]
  refine View.renM (θ := List.range H0.length ++ [H0.length + 1]) (by simp; omega) (fun i hi => hg i (by omega)) ?_ (blks_of (by simp) fun i hi => ?_) (by simpa using hF) hF'
  · rw [List.nodup_append]
    exact ⟨List.nodup_range, by simp, fun a ha b hb => by simp at ha hb; omega⟩
  · simp only [List.length_append, List.length_range, List.length_cons, List.length_nil] at hi
    by_cases h : i < H0.length
    · rw [hg i h]
      refine ⟨by simp; omega, fun b hb => ?_⟩
      rw [List.getElem?_append_left h] at hb
      have hb0 := hpB_get h0 i b hb
      refine ⟨bnds_mono (Nat.zero_le _) _ hb0, ?_⟩
      rw [List.getElem?_append_left h, hb, rens_flat _ _ hb0]
    · have : i = H0.length := by omega
      subst this
      have e1 : (List.range H0.length ++ [H0.length + 1]).getD H0.length 0 = H0.length + 1 := by simp [List.getD]
      rw [e1]
      refine ⟨by simp, fun b hb => ?_⟩
      simp at hb
      subst hb
      refine ⟨bnds_mono (Nat.zero_le _) _ hX, ?_⟩
      rw [List.getElem?_append_right (by omega), rens_flat _ _ hX]
      simp
theorem lay_same (θ' : List Nat) : ∀ (θ : List Nat) (bs : List (Option Blk)) (H : Hp), (∀ (i : Nat) b, i < θ.length → bs[i]? = some b → H[θ.getD i 0]? = some (renO θ' b)) → lay θ' θ bs H = H
  | [], _, _, _ => by simp [lay]
  | _ :: _, [], _, _ => by simp [lay]
  | j :: θ, b :: bs, H, h => by
    have h0 := h 0 b (by simp) rfl
    have hj : H[j]? = some (renO θ' b) := by simpa using h0
    have hlt : j < H.length := (List.getElem?_eq_some_iff.1 hj).1
    have e : H.set j (renO θ' b) = H := by
      have : H[j] = renO θ' b := by rw [List.getElem?_eq_getElem hlt] at hj; simpa using hj
      rw [← this]; exact List.set_getElem_self hlt
    simp only [lay, e]
    exact lay_same θ' θ bs H fun i b' hi hb => by
      have := h (i + 1) b' (by simpa using hi) (by simpa using hb)
      simpa using this
/-- it reads some blocks and lays a new one -/
theorem DOut.newN {f : FuncId} {args0 : List AV} {args : List EV} {H : DHp} {θ : List Nat} {H0 : Hp} {b : DBlk} {v0 : AV} {v : EV} (hnd : θ.Nodup) (hl : θ.length = H0.length)
    (hlive : ∀ (i : Nat) b, H0[i]? = some b → ∃ b0, b = some b0 ∧ bnds θ.length b0.cells = true ∧ (vHp C.G H)[θ.getD i 0]? = some (some (renB θ b0)))
    (ha : bnds θ.length args0 = true) (he : vVs C.G args = rens θ args0) (h : ACalls C f args0 H0 fun v' H' => v' = v0 ∧ H' = H0 ++ [some (vBlk C.G b)]) (hb : bnds 0 (vL C.G b.cells) = true) (hv0 : bnd (H0.length + 1) v0 = true)
    (hv : vV C.G v = ren (wide θ H.length 1) v0) : DOut C f args H v [.new b] := by
  have hH0 : ∀ (i : Nat) x, H0[i]? = some (some x) → bnds θ.length x.cells = true := fun i x hx => by
    obtain ⟨b0, e, g, _⟩ := hlive i _ hx
    simp at e; subst e; exact g
  have hpb : hpB (H0 ++ [some (vBlk C.G b)]).length (H0 ++ [some (vBlk C.G b)]) = true := by
    have key : ∀ (n : Nat) (A : Hp), (∀ (i : Nat) x, A[i]? = some (some x) → bnds n x.cells = true) → hpB n A = true := by
      intro n A
      induction A with
      | nil => intro _; rfl
      | cons x A ih =>
        intro g
        have := ih fun i y hy => g (i + 1) y (by simpa using hy)
        cases x with
        | none => simpa [hpB] using this
        | some x => simp only [hpB, Bool.and_eq_true]; exact ⟨g 0 x rfl, this⟩
    refine key _ _ fun i x hx => ?_
    by_cases hi : i < H0.length
    · rw [List.getElem?_append_left hi] at hx
      exact bnds_mono (by simp; omega) _ (hH0 i x hx)
    · rw [List.getElem?_append_right (by omega)] at hx
      have : i - H0.length = 0 := by have := (List.getElem?_eq_some_iff.1 hx).1; simp at this; omega
      rw [this] at hx
      simp at hx
      subst hx
      exact bnds_mono (Nat.zero_le _) _ hb
  have hd : (H0 ++ [some (vBlk C.G b)]).length - θ.length = 1 := by simp; omega
  refine DOut.fr hnd hl hlive ha he h (by simp) (by simpa using hv0) hpb (by rw [hd]; exact hv) ?_
  unfold merge
  rw [hd]
  have e1 : lay (wide θ (vHp C.G H).length 1) θ (H0 ++ [some (vBlk C.G b)]) (vHp C.G H) = vHp C.G H := by
    refine lay_same _ _ _ _ fun i x hi hx => ?_
    rw [List.getElem?_append_left (by omega)] at hx
    obtain ⟨b0, rfl, g1, g2⟩ := hlive i x hx
    rw [g2]
    simp only [renO, Option.map_some, renB, rens_wide _ g1]
  rw [e1, hl]
  simp [acts, Hop.act, vHop, renO, renB, vBlk, rens_flat _ _ hb]
end Go.Am
namespace Go.Am
open Go.ChangeShapes Go.WideShapes Go.ChangeAt Go.RowKit
section
variable {H : Type} {P : Program} {L : List RoE} {n : Nat} {t e : TypeId} {cs : List AV} {d : DataW H} {a : AV}
/-- a struct of so many whole numbers of a kind -/
def rowI (P : Program) (e : TypeId) (kd : IntKind) (z : Nat) : Bool :=
  match P.underlying e with
  | some (.struct fs) => Nat.beq fs.size z && (Nat.beq (P.cellsOf e) z && (List.range z).all fun i => match fs[i]? with
    | some f => Nat.beq f.offset i && (Nat.beq (P.cellsOf f.type) 1 && (match P.underlying f.type with
      | some (.int k) => k == kd
      | _ => false))
    | none => false)
  | _ => false
theorem TyD.asRow {kd : IntKind} {z : Nat} (hr : rowI P e kd z = true) (h : TyD P L (n + 2) e cs d) : cs.length = z ∧ ∀ j, j < z → ∃ i, cs[j]? = some (.int kd i) ∧ (Lit.int kd i).wf = true := by
  unfold rowI at hr
  split at hr
  · rename_i fs hu
    simp only [Bool.and_eq_true, List.all_eq_true, List.mem_range] at hr
    obtain ⟨h1, h2, h3⟩ := hr
    obtain ⟨g1, ds, g2, g3, g4⟩ := TyD.asStruct hu h
    rw [Nat.eq_of_beq_eq_true h2] at g1
    refine ⟨g1, fun j hj => ?_⟩
    have hf := h3 j hj
    split at hf
    · rename_i f hfj
      simp only [Bool.and_eq_true] at hf
      obtain ⟨k1, k2, k3⟩ := hf
      split at k3
      · rename_i k hk
        have k3 := eq_of_beq k3
        subst k3
        have hl : j < ds.length := by rw [g3, Nat.eq_of_beq_eq_true h1]; exact hj
        obtain ⟨i, e1, e2, _⟩ := TyD.asInt hk (g4 j f ds[j] hfj (List.getElem?_eq_getElem hl))
        rw [Nat.eq_of_beq_eq_true k1, Nat.eq_of_beq_eq_true k2] at e1
        refine ⟨i, ?_, e2⟩
        have := congrArg (fun l : List AV => l[0]?) e1
        simpa only [List.getElem?_take, List.getElem?_drop, List.getElem?_cons_zero, Nat.add_zero, Nat.lt_one_iff, if_true] using this
      · simp at k3
    · simp at hf
  · simp at hr
/-- a list of rows: some cells that are read alone -/
theorem ArgD.rows {kd : IntKind} {z : Nat} (ht : P.underlying t = some (.slice e)) (hr : rowI P e kd z = true) (h : ArgD P L (n + 3) t a d) :
    ∃ k m, (∀ (ρ : Env) v, VR ρ a v → VR ρ (.slice true (.ro k) 0 m) v) ∧ IntsAt L kd k (m * z) := by
  rcases TyD.asSlice ht (ArgD.slice ht h) with ⟨h1, _⟩ | ⟨k, ds, sp, en, h1, h2, h3, h4, h5, h6⟩
  · simp only [List.cons.injEq, and_true] at h1
    subst h1
    exact ⟨L.length, 0, fun ρ v hv => VR_nils _ _ hv, by rw [GL_out (Nat.le_refl _)]; simp, okI_of fun j hj => by omega, fun j hj => by omega⟩
  · simp only [List.cons.injEq, and_true] at h1
    subst h1
    have hz : P.cellsOf e = z := by
      unfold rowI at hr
      split at hr
      · simp only [Bool.and_eq_true] at hr; exact Nat.eq_of_beq_eq_true hr.2.1
      · simp at hr
    rw [hz] at h4 h6
    have key : ∀ j, j < ds.length * z → ∃ i, en.cells[j]? = some (.int kd i) ∧ (Lit.int kd i).wf = true := fun j hj => by
      have hz0 : 0 < z := by
        rcases Nat.eq_zero_or_pos z with rfl | h0
        · simp at hj
        · exact h0
      have hq : j / z < ds.length := (Nat.div_lt_iff_lt_mul hz0).2 hj
      obtain ⟨_, g2⟩ := TyD.asRow hr (h6 (j / z) ds[j / z] (List.getElem?_eq_getElem hq))
      obtain ⟨i, e1, e2⟩ := g2 (j % z) (Nat.mod_lt _ hz0)
      refine ⟨i, ?_, e2⟩
      rw [List.getElem?_take, if_pos (Nat.mod_lt _ hz0), List.getElem?_drop] at e1
      rw [← e1]
      congr 1
      rw [Nat.mul_comm]
      exact (Nat.div_add_mod j z).symm
    refine ⟨k, ds.length, fun ρ v hv => VR_may hv, by rw [GL_eq h3, h4], okI_of fun j hj => ?_, fun j hj => ?_⟩
    · obtain ⟨i, g1, _⟩ := key j hj
      rw [GL_eq h3, Nat.zero_add]
      simp [isI, g1]
    · obtain ⟨i, g1, g2⟩ := key j hj
      rw [GL_eq h3]
      simp [getI, g1, g2]
theorem ArgD.i64 {k : IntKind} (ht : P.underlying t = some (.int k)) (h : ArgD P L (n + 1) t a d) : ∃ i, a = .int k i ∧ (Lit.int k i).wf = true := by
  obtain ⟨i, h1, h2, _⟩ := TyD.asInt ht (ArgD.int ht h)
  simp only [List.cons.injEq, and_true] at h1
  exact ⟨i, h1, h2⟩
/-- an array of two whole numbers -/
theorem ArgD.two {k : IntKind} (ht : P.underlying t = some (.array 2 e)) (he : P.underlying e = some (.int k)) (hc : P.cellsOf e = 1) (hc' : P.cellsOf t = 2) (h : ArgD P L (n + 2) t a d) : ∃ i j, a = .agg [.int k i, .int k j] ∧ (Lit.int k i).wf = true ∧ (Lit.int k j).wf = true := by
  obtain ⟨cs, rfl, h1⟩ := ArgD.array ht h
  obtain ⟨g1, ds, g2, g3, g4⟩ := TyD.asArray ht h1
  rw [hc'] at g1
  rw [hc] at g4
  match cs, g1, ds, g3 with
  | [x, y], _, [d1, d2], _ =>
    obtain ⟨i, e1, e2, _⟩ := TyD.asInt he (g4 0 d1 rfl)
    obtain ⟨j, e3, e4, _⟩ := TyD.asInt he (g4 1 d2 rfl)
    simp only [Nat.zero_mul, Nat.one_mul, List.drop_zero, List.take_succ_cons, List.take_zero, List.drop_succ_cons, List.cons.injEq, and_true] at e1 e3
    subst e1 e3
    exact ⟨i, j, rfl, e2, e4⟩
end
end Go.Am
namespace Go.Am
variable {C : Ctx}
/-- a slice's cells, and how many elements -/
def rdT (H : DHp) (x : EV) : Option (EL × EN) :=
  match x with
  | .nils => some (.of [], .lit 0)
  | .slice _ (.ro k) (.lit 0) n => some (.ro k, n)
  | .slice _ (.rw i) (.lit 0) n => match H[i]? with
    | some (some b) => match isRecD b with
      | true => none
      | false => some (b.cells, n)
    | _ => none
  | _ => none
theorem rdT_ok {H : DHp} {x : EV} {L : EL} {n : EN} (h : rdT H x = some (L, n)) :
    ∃ r : Ref, (∀ (ρ : Env) v, VR ρ (vV C.G x) v → VR ρ (.slice true r 0 (vN C.G n)) v) ∧ (vL C.G L = [] ∨ cellsAt C (vHp C.G H) r = some (vL C.G L)) := by
  unfold rdT at h
  split at h
  · simp only [Option.some.injEq, Prod.mk.injEq] at h; obtain ⟨rfl, rfl⟩ := h
    exact ⟨.ro 0, fun ρ v hv => VR_nils _ _ (by simpa only [vV] using hv), .inl (by simp only [vL, vVs])⟩
  · simp only [Option.some.injEq, Prod.mk.injEq] at h; obtain ⟨rfl, rfl⟩ := h
    rename_i mb k n'
    refine ⟨.ro (vN C.G k), fun ρ v hv => ?_, .inr (by simp only [cellsAt, vL])⟩
    simp only [vV, vR, vN] at hv
    exact VR_may hv
  · rename_i mb i n'
    split at h
    · rename_i b hb
      split at h
      · simp at h
      · rename_i hr
        simp only [Option.some.injEq, Prod.mk.injEq] at h; obtain ⟨rfl, rfl⟩ := h
        refine ⟨.rw i, fun ρ v hv => ?_, .inr ?_⟩
        · simp only [vV, vR, vN] at hv
          exact VR_may hv
        · have hr : isRec (vBlk C.G b) = false := hr
          simp only [cellsAt, vHp_some hb]
          rw [hr]; rfl
    · simp at h
  · simp at h
theorem flatN {cs : List AV} (h : bnds 0 cs = true ∧ noros cs = true) (j : Nat) (v : AV) (hv : cs[j]? = some v) (σ : Sig) : norw v = true ∧ sb σ 0 v = v := by
  have key : ∀ {l : List AV}, bnds 0 l = true → noros l = true → ∀ v ∈ l, bnd 0 v = true ∧ noro v = true := by
    intro l
    induction l with
    | nil => intro _ _ v hv; simp at hv
    | cons x l ih =>
      intro h1 h2 v hv
      simp only [bnds, noros, Bool.and_eq_true] at h1 h2
      rcases List.mem_cons.1 hv with rfl | hv
      · exact ⟨h1.1, h2.1⟩
      · exact ih h1.2 h2.2 v hv
  obtain ⟨h1, h2⟩ := key h.1 h.2 v (List.mem_of_getElem? hv)
  exact ⟨flat_norw v h1, sb_flat v h2⟩
/-- THE READING CALL -/
theorem DOut.rdN {f : FuncId} {args : List EV} {H : DHp} {v : EV} {σ : Sig} {G' : Nat → List AV} {args0 : List AV} (hs : Sees C (vHp C.G H) σ G') (ha : norws args0 = true) (hw : ∀ (ρ : Env) vs, VRs ρ (vVs C.G args) vs → VRs ρ (sbs σ 0 args0) vs)
    (h : ∀ B, ACalls ⟨C.P, G', B⟩ f args0 [] fun v' _ => v' = vV C.G v) (hv : bnd 0 (vV C.G v) = true ∧ noro (vV C.G v) = true) : DOut C f args H v [] := by
  unfold DOut
  refine ((ro_flat hs h ha rfl (fun v' e => by subst e; exact hv)).weaken hw).monoK ?_
  rintro v' H' ⟨rfl, rfl⟩
  exact ⟨rfl, by simp [acts]⟩
/-- one slice, and plain values -/
theorem DOut.rd1 {f : FuncId} {x : EV} {rest : List EV} {H : DHp} {v : EV} {L : EL} {n : EN} (m : Nat) (hx : rdT H x = some (L, n)) (hf : bnds 0 ((vL C.G L).take m) = true ∧ noros ((vL C.G L).take m) = true) (hr : norws (vVs C.G rest) = true ∧ noros (vVs C.G rest) = true)
    (h : ∀ G B, G 0 = (vL C.G L).take m → ACalls ⟨C.P, G, B⟩ f (.slice true (.ro 0) 0 (vN C.G n) :: vVs C.G rest) [] fun v' _ => v' = vV C.G v) (hv : bnd 0 (vV C.G v) = true ∧ noro (vV C.G v) = true) : DOut C f (x :: rest) H v [] := by
  obtain ⟨r, h1, h2⟩ := rdT_ok (C := C) hx
  refine DOut.rdN (σ := fun _ => (r, 0)) (G' := fun _ => (vL C.G L).take m) (args0 := .slice true (.ro 0) 0 (vN C.G n) :: vVs C.G rest) (fun k => ?_) (by simp [norws, norw, hr.1]) (fun ρ vs hvs => ?_) (fun B => h _ B rfl) hv
  · rcases h2 with h2 | h2
    · exact .inl (by simp [h2])
    · refine .inr ⟨_, h2, fun j v hj => ?_⟩
      obtain ⟨g1, g2⟩ := flatN hf j v hj (fun _ => (r, 0))
      rw [g2]
      rw [List.getElem?_take] at hj
      split at hj
      · exact ⟨g1, by simpa using hj⟩
      · simp at hj
  · simp only [vVs, sbs, sb, VRs] at hvs ⊢
    obtain ⟨v, vs', e, q1, q2⟩ := hvs
    exact ⟨v, vs', e, h1 ρ v q1, by rw [sbs_flat _ hr.2]; exact q2⟩
/-- two slices, and plain values -/
theorem DOut.rd2 {f : FuncId} {x y : EV} {rest : List EV} {H : DHp} {v : EV} {L L' : EL} {n n' : EN} (m m' : Nat) (hx : rdT H x = some (L, n)) (hy : rdT H y = some (L', n')) (hf : bnds 0 ((vL C.G L).take m) = true ∧ noros ((vL C.G L).take m) = true) (hf' : bnds 0 ((vL C.G L').take m') = true ∧ noros ((vL C.G L').take m') = true) (hr : norws (vVs C.G rest) = true ∧ noros (vVs C.G rest) = true)
    (h : ∀ G B, G 0 = (vL C.G L).take m → G 1 = (vL C.G L').take m' → ACalls ⟨C.P, G, B⟩ f (.slice true (.ro 0) 0 (vN C.G n) :: .slice true (.ro 1) 0 (vN C.G n') :: vVs C.G rest) [] fun v' _ => v' = vV C.G v) (hv : bnd 0 (vV C.G v) = true ∧ noro (vV C.G v) = true) : DOut C f (x :: y :: rest) H v [] := by
  obtain ⟨r, h1, h2⟩ := rdT_ok (C := C) hx
  obtain ⟨r', h1', h2'⟩ := rdT_ok (C := C) hy
  have gen : ∀ (σ : Sig) {L : EL} {m : Nat} {r : Ref}, (vL C.G L = [] ∨ cellsAt C (vHp C.G H) r = some (vL C.G L)) → (bnds 0 ((vL C.G L).take m) = true ∧ noros ((vL C.G L).take m) = true) →
      (vL C.G L).take m = [] ∨ ∃ cs, cellsAt C (vHp C.G H) r = some cs ∧ ∀ (j : Nat) v, ((vL C.G L).take m)[j]? = some v → norw v = true ∧ cs[0 + j]? = some (sb σ 0 v) := by
    intro σ L m r h2 hf
    rcases h2 with h2 | h2
    · exact .inl (by simp [h2])
    · refine .inr ⟨_, h2, fun j v hj => ?_⟩
      obtain ⟨g1, g2⟩ := flatN hf j v hj σ
      rw [g2]
      rw [List.getElem?_take] at hj
      split at hj
      · exact ⟨g1, by simpa using hj⟩
      · simp at hj
  refine DOut.rdN (σ := fun k => if k = 0 then (r, 0) else (r', 0)) (G' := fun k => if k = 0 then (vL C.G L).take m else (vL C.G L').take m') (args0 := .slice true (.ro 0) 0 (vN C.G n) :: .slice true (.ro 1) 0 (vN C.G n') :: vVs C.G rest) (fun k => ?_) (by simp [norws, norw, hr.1]) (fun ρ vs hvs => ?_) (fun B => h _ B rfl rfl) hv
  · by_cases hk : k = 0
    · simp only [hk, if_true]; exact gen _ h2 hf
    · simp only [hk, if_false]; exact gen _ h2' hf'
  · simp only [vVs, sbs, sb, VRs] at hvs ⊢
    obtain ⟨v, vs', e, q1, w, vs'', e', q2, q3⟩ := hvs
    exact ⟨v, vs', e, h1 ρ v q1, w, vs'', e', h1' ρ w q2, by rw [sbs_flat _ hr.2]; exact q3⟩
end Go.Am
namespace Go.Am
variable {C : Ctx}
mutual
theorem sb_flatN {σ : Sig} {n : Nat} : ∀ v, norw v = true → noro v = true → sb σ n v = v
  | .ptr (.ro k) o, _, h => by simp [noro] at h
  | .ptr (.rw i) o, h, _ => by simp [norw] at h
  | .slice mb (.ro k) o len, _, h => by simp [noro] at h
  | .slice mb (.rw i) o len, h, _ => by simp [norw] at h
  | .func f cap, h, h' => by simp only [norw, noro] at h h'; simp only [sb, sbs_flatN cap h h']
  | .agg cs, h, h' => by simp only [norw, noro] at h h'; simp only [sb, sbs_flatN cs h h']
  | .tup cs, h, h' => by simp only [norw, noro] at h h'; simp only [sb, sbs_flatN cs h h']
  | .yld i, h, _ => by simp [norw] at h
  | .undef, _, _ => by simp only [sb]
  | .bool b, _, _ => by simp only [sb]
  | .int k n, _, _ => by simp only [sb]
  | .str s, _, _ => by simp only [sb]
  | .nilp, _, _ => by simp only [sb]
  | .nils, _, _ => by simp only [sb]
  | .nilf, _, _ => by simp only [sb]
  | .rcd .., _, _ => by simp only [sb]
theorem sbs_flatN {σ : Sig} {n : Nat} : ∀ l, norws l = true → noros l = true → sbs σ n l = l
  | [], _, _ => by simp only [sbs]
  | v :: l, h, h' => by
    simp only [norws, noros, Bool.and_eq_true] at h h'
    simp only [sbs, sb_flatN v h.1 h'.1, sbs_flatN l h.2 h'.2]
end
theorem DOut.rnN {f : FuncId} {args : List EV} {H : DHp} {v : EV} {v0 : AV} {b : DBlk} {σ : Sig} {G' : Nat → List AV} {args0 : List AV} (hs : Sees C (vHp C.G H) σ G') (ha : norws args0 = true) (hw : ∀ (ρ : Env) vs, VRs ρ (vVs C.G args) vs → VRs ρ (sbs σ 0 args0) vs)
    (h : ∀ B, ACalls ⟨C.P, G', B⟩ f args0 [] fun v' H' => v' = v0 ∧ H' = [some (vBlk C.G b)]) (hn : noro v0 = true) (hb : bnds 0 (vL C.G b.cells) = true ∧ noros (vL C.G b.cells) = true) (hv : vV C.G v = sh H.length v0) : DOut C f args H v [.new b] := by
  unfold DOut
  refine ((ro_new hs h ha rfl (fun v' H' e => ?_)).weaken hw).monoK ?_
  · obtain ⟨rfl, rfl⟩ := e
    refine ⟨hn, fun i b' hi => ?_⟩
    match i, hi with
    | 0, hi => simp at hi; subst hi; exact hb.2
  · rintro v' H' ⟨v1, H1, ⟨rfl, rfl⟩, rfl, rfl⟩
    refine ⟨by rw [hv, vHp_length], ?_⟩
    simp only [acts, List.map_cons, List.map_nil, vHop, Hop.act, List.foldl]
    have e : shB (List.length (vHp C.G H)) (some (vBlk C.G b)) = some (vBlk C.G b) := by
      have e1 := sbs_flatN (σ := fun _ => (.rw 0, 0)) (n := (vHp C.G H).length) _ (flat_norwL _ hb.1) hb.2
      rw [sbs_eq] at e1
      simp only [shB, vBlk]
      rw [show List.map (sh (vHp C.G H).length) (vL C.G b.cells) = vL C.G b.cells from e1]
    rw [e]
/-- one slice, and plain values; a new block -/
theorem DOut.rn1 {f : FuncId} {x : EV} {rest : List EV} {H : DHp} {v : EV} {v0 : AV} {b : DBlk} {L : EL} {n : EN} (m : Nat) (hx : rdT H x = some (L, n)) (hf : bnds 0 ((vL C.G L).take m) = true ∧ noros ((vL C.G L).take m) = true) (hr : norws (vVs C.G rest) = true ∧ noros (vVs C.G rest) = true)
    (h : ∀ G B, G 0 = (vL C.G L).take m → ACalls ⟨C.P, G, B⟩ f (.slice true (.ro 0) 0 (vN C.G n) :: vVs C.G rest) [] fun v' H' => v' = v0 ∧ H' = [some (vBlk C.G b)]) (hn : noro v0 = true) (hb : bnds 0 (vL C.G b.cells) = true ∧ noros (vL C.G b.cells) = true) (hv : vV C.G v = sh H.length v0) : DOut C f (x :: rest) H v [.new b] := by
  obtain ⟨r, h1, h2⟩ := rdT_ok (C := C) hx
  refine DOut.rnN (σ := fun _ => (r, 0)) (G' := fun _ => (vL C.G L).take m) (args0 := .slice true (.ro 0) 0 (vN C.G n) :: vVs C.G rest) (fun k => ?_) (by simp [norws, norw, hr.1]) (fun ρ vs hvs => ?_) (fun B => h _ B rfl) hn hb hv
  · rcases h2 with h2 | h2
    · exact .inl (by simp [h2])
    · refine .inr ⟨_, h2, fun j v hj => ?_⟩
      obtain ⟨g1, g2⟩ := flatN hf j v hj (fun _ => (r, 0))
      rw [g2]
      rw [List.getElem?_take] at hj
      split at hj
      · exact ⟨g1, by simpa using hj⟩
      · simp at hj
  · simp only [vVs, sbs, sb, VRs] at hvs ⊢
    obtain ⟨v, vs', e, q1, q2⟩ := hvs
    exact ⟨v, vs', e, h1 ρ v q1, by rw [sbs_flat _ hr.2]; exact q2⟩
/-- two slices, and plain values; a new block -/
theorem DOut.rn2 {f : FuncId} {x y : EV} {rest : List EV} {H : DHp} {v : EV} {v0 : AV} {b : DBlk} {L L' : EL} {n n' : EN} (m m' : Nat) (hx : rdT H x = some (L, n)) (hy : rdT H y = some (L', n')) (hf : bnds 0 ((vL C.G L).take m) = true ∧ noros ((vL C.G L).take m) = true) (hf' : bnds 0 ((vL C.G L').take m') = true ∧ noros ((vL C.G L').take m') = true) (hr : norws (vVs C.G rest) = true ∧ noros (vVs C.G rest) = true)
    (h : ∀ G B, G 0 = (vL C.G L).take m → G 1 = (vL C.G L').take m' → ACalls ⟨C.P, G, B⟩ f (.slice true (.ro 0) 0 (vN C.G n) :: .slice true (.ro 1) 0 (vN C.G n') :: vVs C.G rest) [] fun v' H' => v' = v0 ∧ H' = [some (vBlk C.G b)]) (hn : noro v0 = true) (hb : bnds 0 (vL C.G b.cells) = true ∧ noros (vL C.G b.cells) = true) (hv : vV C.G v = sh H.length v0) : DOut C f (x :: y :: rest) H v [.new b] := by
  obtain ⟨r, h1, h2⟩ := rdT_ok (C := C) hx
  obtain ⟨r', h1', h2'⟩ := rdT_ok (C := C) hy
  have gen : ∀ (σ : Sig) {L : EL} {m : Nat} {r : Ref}, (vL C.G L = [] ∨ cellsAt C (vHp C.G H) r = some (vL C.G L)) → (bnds 0 ((vL C.G L).take m) = true ∧ noros ((vL C.G L).take m) = true) →
      (vL C.G L).take m = [] ∨ ∃ cs, cellsAt C (vHp C.G H) r = some cs ∧ ∀ (j : Nat) v, ((vL C.G L).take m)[j]? = some v → norw v = true ∧ cs[0 + j]? = some (sb σ 0 v) := by
    intro σ L m r h2 hf
    rcases h2 with h2 | h2
    · exact .inl (by simp [h2])
    · refine .inr ⟨_, h2, fun j v hj => ?_⟩
      obtain ⟨g1, g2⟩ := flatN hf j v hj σ
      rw [g2]
      rw [List.getElem?_take] at hj
      split at hj
      · exact ⟨g1, by simpa using hj⟩
      · simp at hj
  refine DOut.rnN (σ := fun k => if k = 0 then (r, 0) else (r', 0)) (G' := fun k => if k = 0 then (vL C.G L).take m else (vL C.G L').take m') (args0 := .slice true (.ro 0) 0 (vN C.G n) :: .slice true (.ro 1) 0 (vN C.G n') :: vVs C.G rest) (fun k => ?_) (by simp [norws, norw, hr.1]) (fun ρ vs hvs => ?_) (fun B => h _ B rfl rfl) hn hb hv
  · by_cases hk : k = 0
    · simp only [hk, if_true]; exact gen _ h2 hf
    · simp only [hk, if_false]; exact gen _ h2' hf'
  · simp only [vVs, sbs, sb, VRs] at hvs ⊢
    obtain ⟨v, vs', e, q1, w, vs'', e', q2, q3⟩ := hvs
    exact ⟨v, vs', e, h1 ρ v q1, w, vs'', e', h1' ρ w q2, by rw [sbs_flat _ hr.2]; exact q3⟩
end Go.Am
namespace Go.Am
variable {C : Ctx}
def nilT (k : Nat) : AV → AV → Prop
  | .tup xs, .tup ys => nilrs k xs ys
  | x, y => nilr k x y
theorem nilrs_val {ρ : Env} : ∀ {xs ys : List AV} {cv : List Value}, nilrs ρ.rw.length xs ys → VRs ρ ys cv → VRs (ρ.push none) xs cv
  | [], [], _, _, h => h
  | [], _ :: _, _, h, _ => h.elim
  | _ :: _, [], _, h, _ => h.elim
  | x :: xs, y :: ys, cv, h, hv => by
    simp only [VRs] at hv ⊢
    obtain ⟨v, vs, e, h1, h2⟩ := hv
    exact ⟨v, vs, e, nilr_val h.1 h1, nilrs_val h.2 h2⟩
theorem nilT_val {ρ : Env} {x y : AV} {cv : Value} (h : nilT ρ.rw.length x y) (hv : VR ρ y cv) : VR (ρ.push none) x cv := by
  unfold nilT at h
  split at h
  · simp only [VR] at hv ⊢
    obtain ⟨vs, e, hs⟩ := hv
    exact ⟨vs, e, nilrs_val h hs⟩
  · exact nilr_val h hv
theorem ACalls.nil {f : FuncId} {args : List AV} {H : Hp} {K K' : AV → Hp → Prop} (e : Nat) (h : ACalls C f args H K) (hk : ∀ v H', K v H' → K' v H' ∨ ∃ v', K' v' (H' ++ [some ⟨e, []⟩]) ∧ nilH H'.length H' H' ∧ nilT H'.length v' v) : ACalls C f args H K' := by
  refine ⟨h.1, fun ρ w cargs hH hv => (h.2 ρ w cargs hH hv).mono ?_⟩
  rintro ex w' ⟨v, cv, ρ', H', rfl, h2, h3, h4, h5, h6⟩
  rcases hk v H' h2 with g | ⟨v', g1, g2, g3⟩
  · exact ⟨v, cv, ρ', H', rfl, g, h3, h4, h5, h6⟩
  · refine ⟨v', cv, ρ'.push none, _, rfl, g1, ?_, nil_rel e g2 h4, nilT_val (by rw [h4.len]; exact g3) h5, h6.trans nil_frm⟩
    have hl := Env.le_push ρ' none
    refine ⟨fun i x hx => hl.1 i x (h3.1 i x hx), hl.2.trans h3.2, fun D hD => hl.3 D (h3.3 D hD)⟩
theorem nilH_refl {k : Nat} : ∀ (H : Hp), nilH k H H
  | [] => trivial
  | none :: H => nilH_refl H
  | some b :: H => ⟨⟨rfl, nilrs_refl _⟩, nilH_refl H⟩
theorem ACalls.conv {f : FuncId} {args : List AV} {H : Hp} {K K' : AV → Hp → Prop} (h : ACalls C f args H K) (hk : ∀ v H', K v H' → ∃ v', K' v' H' ∧ ∀ (ρ : Env) cv, VR ρ v cv → VR ρ v' cv) : ACalls C f args H K' := by
  refine ⟨h.1, fun ρ w cargs hH hv => (h.2 ρ w cargs hH hv).mono ?_⟩
  rintro ex w' ⟨v, cv, ρ', H', rfl, h2, h3, h4, h5, h6⟩
  obtain ⟨v', g1, g2⟩ := hk v H' h2
  exact ⟨v', cv, ρ', H', rfl, g1, h3, h4, g2 _ _ h5, h6⟩
end Go.Am
namespace Go.Am
variable {C : Ctx}
/-- a loop whose state at its head is told by the round's number -/
theorem scan {m : Nat} {c : Code} {N : Nat} {live : List Nat} {Q : Ex → List AV → Hp → Prop} (n : Nat) (st : Nat → List AV) (hp : Nat → Hp)
    (h : ∀ i, i ≤ n → AWp C m c (fl N live (st i)) (hp i) (lv N live fun e vs H => match e with
      | .normal => i < n ∧ ((vs = st (i + 1) ∧ H = hp (i + 1)) ∨ View m (st (i + 1)) (hp (i + 1)) vs H)
      | e => Q e vs H)) : AWp C m (.loop c) (fl N live (st 0)) (hp 0) (lv N live Q) := by
  refine aloop_lv (fun j vs H => ∃ i : Nat, i ≤ n ∧ j = n - i ∧ vs = st i ∧ H = hp i) n ⟨0, by omega, rfl, rfl, rfl⟩ ?_
  rintro j vs H ⟨i, hi, rfl, rfl, rfl⟩
  refine (h i hi).lmono ?_
  intro e vs' H' hq
  match e, hq with
  | .normal, ⟨hin, hq⟩ =>
    refine ⟨n - (i + 1), by omega, ?_⟩
    rcases hq with ⟨rfl, rfl⟩ | hq
    · exact .inl ⟨i + 1, by omega, rfl, rfl, rfl⟩
    · exact .inr ⟨_, _, ⟨i + 1, by omega, rfl, rfl, rfl⟩, hq⟩
  | .ret, hq => exact hq
  | .exit i, hq => exact hq
/-- ... while something is so of all rounds so far -/
theorem scanP {m : Nat} {c : Code} {N : Nat} {live : List Nat} {Q : Ex → List AV → Hp → Prop} (P : Nat → Prop) (n : Nat) (st : Nat → List AV) (hp : Nat → Hp) (h0 : P 0)
    (h : ∀ i, i ≤ n → P i → AWp C m c (fl N live (st i)) (hp i) (lv N live fun e vs H => match e with
      | .normal => i < n ∧ P (i + 1) ∧ ((vs = st (i + 1) ∧ H = hp (i + 1)) ∨ View m (st (i + 1)) (hp (i + 1)) vs H)
      | e => Q e vs H)) : AWp C m (.loop c) (fl N live (st 0)) (hp 0) (lv N live Q) := by
  refine aloop_lv (fun j vs H => ∃ i : Nat, i ≤ n ∧ P i ∧ j = n - i ∧ vs = st i ∧ H = hp i) n ⟨0, by omega, h0, rfl, rfl, rfl⟩ ?_
  rintro j vs H ⟨i, hi, hP, rfl, rfl, rfl⟩
  refine (h i hi hP).lmono ?_
  intro e vs' H' hq
  match e, hq with
  | .normal, ⟨hin, hP', hq⟩ =>
    refine ⟨n - (i + 1), by omega, ?_⟩
    rcases hq with ⟨rfl, rfl⟩ | hq
    · exact .inl ⟨i + 1, by omega, hP', rfl, rfl, rfl⟩
    · exact .inr ⟨_, _, ⟨i + 1, by omega, hP', rfl, rfl, rfl⟩, hq⟩
  | .ret, hq => exact hq
  | .exit i, hq => exact hq

/-! ### is a state just this one? -/
mutual
def sameV : AV → AV → Bool
  | .undef, .undef => true
  | .bool a, .bool b => a == b
  | .int k n, .int k' m => k == k' && n == m
  | .str s, .str t => s == t
  | .nilp, .nilp => true
  | .ptr r o, .ptr r' o' => decide (r = r') && Nat.beq o o'
  | .nils, .nils => true
  | .slice b r o n, .slice b' r' o' n' => b == b' && (decide (r = r') && (Nat.beq o o' && Nat.beq n n'))
  | .nilf, .nilf => true
  | .func f c, .func f' c' => Nat.beq f f' && sameVs c c'
  | .agg c, .agg c' => sameVs c c'
  | .tup c, .tup c' => sameVs c c'
  | .yld i, .yld j => Nat.beq i j
  | _, _ => false
termination_by structural x => x
def sameVs : List AV → List AV → Bool
  | [], [] => true
  | x :: l, y :: k => sameV x y && sameVs l k
  | _, _ => false
termination_by structural x => x
end
mutual
def noRcd : AV → Bool
  | .rcd .. => false
  | .func _ c => noRcds c
  | .agg c => noRcds c
  | .tup c => noRcds c
  | _ => true
def noRcds : List AV → Bool
  | [] => true
  | x :: l => noRcd x && noRcds l
end
mutual
theorem sameV_eq : ∀ x y, sameV x y = true → x = y
  | .undef, y, h => by cases y <;> simp [sameV] at h ⊢
  | .bool a, y, h => by cases y <;> simp [sameV] at h ⊢; exact h
  | .int k n, y, h => by cases y <;> simp [sameV] at h ⊢; exact h
  | .str s, y, h => by cases y <;> simp [sameV] at h ⊢; exact h
  | .nilp, y, h => by cases y <;> simp [sameV] at h ⊢
  | .ptr r o, y, h => by cases y <;> simp [sameV] at h ⊢; exact h
  | .nils, y, h => by cases y <;> simp [sameV] at h ⊢
  | .slice b r o n, y, h => by cases y <;> simp [sameV] at h ⊢; exact h
  | .nilf, y, h => by cases y <;> simp [sameV] at h ⊢
  | .func f c, y, h => by cases y <;> simp [sameV] at h ⊢; exact ⟨h.1, sameVs_eq c _ h.2⟩
  | .agg c, y, h => by cases y <;> simp [sameV] at h ⊢; exact sameVs_eq c _ h
  | .tup c, y, h => by cases y <;> simp [sameV] at h ⊢; exact sameVs_eq c _ h
  | .yld i, y, h => by cases y <;> simp [sameV] at h ⊢; exact h
  | .rcd .., y, h => by cases y <;> simp [sameV] at h
theorem sameVs_eq : ∀ l k, sameVs l k = true → l = k
  | [], k, h => by cases k <;> simp [sameVs] at h ⊢
  | x :: l, k, h => by
    cases k with
    | nil => simp [sameVs] at h
    | cons y k =>
      simp [sameVs] at h ⊢
      exact ⟨sameV_eq x y h.1, sameVs_eq l k h.2⟩
end
mutual
theorem sameV_refl : ∀ x, noRcd x = true → sameV x x = true
  | .undef, h => by simp [sameV]
  | .bool a, h => by simp [sameV]
  | .int k n, h => by simp [sameV]
  | .str s, h => by simp [sameV]
  | .nilp, h => by simp [sameV]
  | .ptr r o, h => by simp [sameV]
  | .nils, h => by simp [sameV]
  | .slice b r o n, h => by simp [sameV]
  | .nilf, h => by simp [sameV]
  | .func f c, h => by simp [sameV]; exact sameVs_refl c (by simpa [noRcd] using h)
  | .agg c, h => by simp [sameV]; exact sameVs_refl c (by simpa [noRcd] using h)
  | .tup c, h => by simp [sameV]; exact sameVs_refl c (by simpa [noRcd] using h)
  | .yld i, h => by simp [sameV]
  | .rcd .., h => by simp [noRcd] at h
theorem sameVs_refl : ∀ l, noRcds l = true → sameVs l l = true
  | [], h => by simp [sameVs]
  | x :: l, h => by
    simp only [noRcds, Bool.and_eq_true] at h
    simp [sameVs, sameV_refl x h.1, sameVs_refl l h.2]
end
def encHB (H : Hp) : List AV := H.map fun b => match b with
  | some b => .tup [.int .i64 (b.esz : Int), .agg b.cells]
  | none => .undef
def encHD (H : DHp) : List EV := H.map fun b => match b with
  | some b => .tup [.int .i64 (.lit (b.esz : Int)), .agg b.cells]
  | none => .undef
theorem encH_ok {G : Nat → List AV} : ∀ H : DHp, vVs G (encHD H) = encHB (vHp G H)
  | [] => rfl
  | none :: H => by
    have := encH_ok (G := G) H
    simp only [encHD, encHB, vHp, List.map_cons, vVs, vV, Option.map_none] at this ⊢
    rw [this]
  | some b :: H => by
    have := encH_ok (G := G) H
    simp only [encHD, encHB, vHp, List.map_cons, vVs, vV, vI, Option.map_some, vBlk] at this ⊢
    rw [this]
theorem encH_inj : ∀ H H' : Hp, encHB H = encHB H' → H = H'
  | [], [], _ => rfl
  | [], _ :: _, h => by simp [encHB] at h
  | _ :: _, [], h => by simp [encHB] at h
  | b :: H, b' :: H', h => by
    simp only [encHB, List.map_cons, List.cons.injEq] at h
    have h2 := encH_inj H H' h.2
    subst h2
    have h1 := h.1
    match b, b', h1 with
    | none, none, _ => rfl
    | none, some b', h1 => simp at h1
    | some b, none, h1 => simp at h1
    | some ⟨e, c⟩, some ⟨e', c'⟩, h1 =>
      simp at h1
      obtain ⟨h3, h4⟩ := h1
      have : e = e' := by omega
      subst this; subst h4; rfl
/-- is the state just this one? -/
def stIs (vs0 : List AV) (H0 : Hp) : List AV → Bool := fun xs => match xs with
  | [.agg vs, .agg hs] => sameVs vs vs0 && sameVs hs (encHB H0)
  | _ => false
theorem stIs_eq {vs0 vs : List AV} {H0 H : Hp} (h : stIs vs0 H0 [.agg vs, .agg (encHB H)] = true) : vs = vs0 ∧ H = H0 := by
  simp only [stIs, Bool.and_eq_true] at h
  exact ⟨sameVs_eq _ _ h.1, encH_inj _ _ (sameVs_eq _ _ h.2)⟩
theorem stIs_refl {vs0 : List AV} {H0 : Hp} (h : noRcds vs0 = true) (h' : noRcds (encHB H0) = true) : stIs vs0 H0 [.agg vs0, .agg (encHB H0)] = true := by
  simp only [stIs, Bool.and_eq_true]
  exact ⟨sameVs_refl _ h, sameVs_refl _ h'⟩
/-- ... where something holds -/
def stQ (c : Bool) (vs0 : List AV) (H0 : Hp) : List AV → Bool := fun xs => c && stIs vs0 H0 xs
theorem stQ_refl {c : Bool} {vs0 : List AV} {H0 : Hp} (hc : c = true) (h : noRcds vs0 = true) (h' : noRcds (encHB H0) = true) : stQ c vs0 H0 [.agg vs0, .agg (encHB H0)] = true := by
  simp only [stQ, Bool.and_eq_true]
  exact ⟨hc, stIs_refl h h'⟩
theorem noRcds_app : ∀ {l k : List AV}, noRcds l = true → noRcds k = true → noRcds (l ++ k) = true
  | [], k, _, h => h
  | x :: l, k, h, h' => by
    simp only [noRcds, Bool.and_eq_true, List.cons_append] at h ⊢
    exact ⟨h.1, noRcds_app h.2 h'⟩
theorem noRcd_int {k : IntKind} {n : Int} : noRcd (.int k n) = true := rfl
theorem noRcds_of {l : List AV} (h : ∀ v ∈ l, noRcd v = true) : noRcds l = true := by
  induction l with
  | nil => rfl
  | cons x l ih => simp [noRcds, h x (by simp), ih fun v hv => h v (by simp [hv])]

/-- what a loop's outcome says behind it -/
def LOut.post (G : Nat → List AV) (m : Nat) : LOut → Ex → List AV → Hp → Prop
  | .one e vs H => fun e' vs' H' => e' = e ∧ ((wk (vVs G vs) vs' ∧ H' = vHp G H) ∨ View m (vVs G vs) (vHp G H) vs' H')
  | .tst b x y => fun e' vs' H' => (vB G b = true ∧ x.post G m e' vs' H') ∨ (vB G b = false ∧ y.post G m e' vs' H')
  | .chk _ x => x.post G m
  | _ => fun _ _ _ => False
theorem post_holds {G : Nat → List AV} {m : Nat} {Q : Ex → List AV → Hp → Prop} {e : Ex} {vs : List AV} {H : Hp} : ∀ (o : LOut) (n : Nat), lHolds G (fun e vs' H' => Q e (vVs G vs') (vHp G H')) n o → o.post G m e vs H → Lp m Q e vs H
  | .one e' vs' H', n, h, hp => by
    simp only [lHolds] at h
    obtain ⟨rfl, hp⟩ := hp
    rcases hp with ⟨h1, rfl⟩ | hp
    · exact .inl ⟨_, h1, h⟩
    · exact .inr ⟨_, _, hp, h⟩
  | .tst b x y, n, h, hp => by
    simp only [lHolds] at h
    rcases hp with ⟨hb, hp⟩ | ⟨hb, hp⟩
    · exact post_holds x n (h.1 hb) hp
    · exact post_holds y n (h.2 hb) hp
  | .chk b x, n, h, hp => by
    simp only [lHolds] at h
    exact post_holds x n h.2 hp
  | .imp .., n, h, hp => hp.elim
  | .allI .., n, h, hp => hp.elim
  | .allN .., n, h, hp => hp.elim
  | .allB .., n, h, hp => hp.elim
  | .allL .., n, h, hp => hp.elim
  | .namI .., n, h, hp => hp.elim
  | .namN .., n, h, hp => hp.elim
  | .namB .., n, h, hp => hp.elim
  | .namL .., n, h, hp => hp.elim
/-- the loop with this exit, entered in one state: j names the question whether it is that state -/
def DLat (j : Nat) (q : List AV → Bool) (ex N : Nat) (live : List Nat) (o : LOut) : DL :=
  ⟨ex, N, live, fun vs H => some (.chk (.uf j q [.agg (.of vs), .agg (.of (encHD H))]) o)⟩
theorem DLat_ok {M : Nat} {c : Code} {j : Nat} {ex N : Nat} {live : List Nat} {o : LOut} {vs0 : List AV} {H0 : Hp} {q : List AV → Bool} {cb : Bool} (hq : q = stQ cb vs0 H0)
    (h : cb = true → AWp C M (.loop c) (fl N live vs0) H0 (lv N live (o.post C.G M))) : DLoopOk C M c (DLat j q ex N live o) := by
  refine .of fun vs H o' ho n Q hQ => ?_
  simp only [DLat, Option.some.injEq] at ho
  subst ho
  obtain ⟨h1, h2⟩ := hQ
  simp only [vB, vVs, vV, vL, encH_ok] at h1
  rw [hq] at h1
  simp only [stQ, Bool.and_eq_true] at h1
  obtain ⟨e1, e2⟩ := stIs_eq h1.2
  rw [e1, e2]
  exact (h h1.1).lmono fun e vs H hp => post_holds o n h2 hp
theorem DLoopsOk.miss {M : Nat} {c : Code} {cs : List Code} {l : List DL} {i : Nat} (he : exOf c = some i) (hp : dpick i l = none) (k : DLoopsOk C M cs (dloops l)) : DLoopsOk C M (c :: cs) (dloops l) := by
  intro m c' F H o hm hc ho n Q hQ
  rcases List.mem_cons.1 hc with rfl | hc
  · obtain ⟨d', h1, _⟩ := dloops_pick he l ho
    rw [hp] at h1; cases h1
  · exact k m c' F H o hm hc ho n Q hQ
/-- a result that stands in one block, behind others that nobody sees; nil: an empty one -/
theorem ACalls.one {f : FuncId} {args : List AV} {K : AV → Hp → Prop} {v0 : AV} {b : Blk} (h : ACalls C f args [] K) (hb : bnds 0 b.cells = true) (hv : bnd 1 v0 = true) (hu : ∀ j, ren [j] v0 ≠ .undef)
    (hk : ∀ v H', K v H' → (∃ j, H'[j]? = some (some b) ∧ v = ren [j] v0) ∨ (b.cells = [] ∧ nilT H'.length (ren [H'.length] v0) v)) : ACalls C f args [] fun v H' => v = v0 ∧ H' = [some b] := by
  have h1 := ACalls.nil (K' := fun v H' => ∃ j, H'[j]? = some (some b) ∧ v = ren [j] v0) b.esz h (fun v H' hK => by
    rcases hk v H' hK with h | ⟨h1, h2⟩
    · exact .inl h
    · refine .inr ⟨_, ⟨H'.length, ?_, rfl⟩, nilH_refl _, h2⟩
      rw [List.getElem?_append_right (Nat.le_refl _), Nat.sub_self]
      obtain ⟨e, cs⟩ := b
      simp only at h1; subst h1; rfl)
  refine h1.view fun v H' hj => ⟨v0, [some b], ⟨rfl, rfl⟩, ?_⟩
  obtain ⟨j, hj, rfl⟩ := hj
  have hjl : j < H'.length := (List.getElem?_eq_some_iff.1 hj).1
  refine View.ren (θ := [j]) (by simp) ⟨⟨bnds_mono (Nat.zero_le _) _ hb, ?_⟩, trivial⟩ (by simp [bnds, hv]) ?_
  · rw [rens_flat _ _ hb]
    exact hj
  · simp only [rens]
    have := hu j
    cases hr : ren [j] v0 <;> simp_all [wk]
/-- it writes the block that it is handed a slice of, or a place in -/
theorem DOut.set1g {f : FuncId} {args0 : List AV} {args : List EV} {H : DHp} {i : Nat} {b0 b1 : DBlk} {v : EV} {v0 : AV} (hi : H[i]? = some (some b0))
    (h : ACalls C f args0 [some (vBlk C.G b0)] fun v' H' => v' = v0 ∧ H'.take 1 = [some (vBlk C.G b1)])
    (h0 : bnds 0 (vL C.G b0.cells) = true) (h1 : bnds 0 (vL C.G b1.cells) = true) (ha : bnds 1 args0 = true) (he : vVs C.G args = rens [i] args0) (hv : bnd 1 v0 = true) (hu : v0 ≠ .undef) (hvv : vV C.G v = ren [i] v0) : DOut C f args H v [.set i b1] := by
  have h := h.keep (by simp) (by simp [hpB, vBlk, bnds_mono (Nat.zero_le _) _ h1]) hv hu
  have rw' : ∀ (b : DBlk) (θ : List Nat), bnds 0 (vL C.G b.cells) = true → renB θ (vBlk C.G b) = vBlk C.G b := fun b θ hb => by simp only [renB, vBlk, rens_flat _ _ hb]
  have key := frame_call h [i] rfl (by simp) (fun k b hk => by
    match k with
    | 0 => simp at hk; subst hk; exact ⟨_, rfl, bnds_mono (Nat.zero_le _) _ h0, by rw [rw' _ _ h0]; simpa using vHp_some (G := C.G) hi⟩
    | k + 1 => simp at hk) (H := vHp C.G H) (by simpa using ha) (fun v1 H0' hk => by
    obtain ⟨rfl, rfl⟩ := hk
    refine ⟨Nat.le_refl _, hv, fun k b hb => ?_⟩
    match k with
    | 0 => simp at hb; subst hb; exact bnds_mono (Nat.zero_le _) _ h1
    | k + 1 => simp at hb)
  unfold DOut
  rw [he]
  refine key.monoK ?_
  rintro v' H' ⟨v1, H0', ⟨rfl, rfl⟩, rfl, rfl⟩
  refine ⟨?_, ?_⟩
  · rw [hvv]; simp [wide]
  · simp only [List.map_cons, List.map_nil, acts, merge, List.length_cons, List.length_nil, lay, renO, Option.map_some, List.drop_succ_cons, List.drop_nil, List.append_nil, vHop, Hop.act, List.foldl]
    rw [rw' _ _ h1]
/-- a nil list among the live slots may be looked at as an empty one -/
theorem AWp.nilL {m : Nat} {c : Code} {N : Nat} {live : List Nat} {H : Hp} {Q : Post} {vs : List AV} (vs' : List AV) (e : Nat) (hm : m ≤ H.length) (hv : nilrs H.length vs' vs) (h : AWp C m c (fl N live vs') (H ++ [some ⟨e, []⟩]) Q) : AWp C m c (fl N live vs) H Q :=
  AWp.nil e hm (nilrs_fl hv) (nilH_refl H) h
end Go.Am
namespace Go.Am
open Go.RowKit

/-- a region with the same operations, at other places, where one operation more waits for another -/
structure Var (ops ops' : Array Oper) (σ τ : Nat → Nat) (p q : Nat) : Prop where
  inv : ∀ k, σ (τ k) = k ∧ τ (σ k) = k
  op : ∀ (k : Nat) o, ops[k]? = some o → o.guard = none ∧ ∃ es, ops'[σ k]? = some { o with after := es } ∧
    (∀ e' ∈ es, Region.binds .any e' = true → (∃ e ∈ o.after, Region.binds .any e = true ∧ e'.on = σ e.on) ∨ (k = q ∧ e'.on = σ p)) ∧
    (∀ e ∈ o.after, Region.binds .any e = true → ∃ e' ∈ es, Region.binds .any e' = true ∧ e'.on = σ e.on)
  op' : ∀ (k : Nat) o', ops'[k]? = some o' → ∃ o, ops[τ k]? = some o

section
variable {F : Fence} {n : Nat} {P : Program} {ops ops' : Array Oper} {σ τ : Nat → Nat} {p q : Nat} {Q : Exit → Act → World → Prop}

def Agr (σ : Nat → Nat) (listed listed' : Array Bool) : Prop := ∀ k, (∀ d, listed'.getD (σ k) d = listed.getD k d)

theorem Agr.set {σ τ : Nat → Nat} (hi : ∀ k, σ (τ k) = k ∧ τ (σ k) = k) {listed listed' : Array Bool} (h : Agr σ listed listed') (i : Nat) : Agr σ (listed.setIfInBounds i true) (listed'.setIfInBounds (σ i) true) := by
  intro k d
  by_cases hk : i = k
  · subst hk
    have h1 := h i
    by_cases hb : i < listed.size
    · have h2 : σ i < listed'.size := by
        by_cases h2 : σ i < listed'.size
        · exact h2
        · have a := h1 true; have b := h1 false
          simp only [Array.getD, h2, hb, dite_true, dite_false] at a b
          rw [← a] at b; simp at b
      simp [Array.getD, hb, h2]
    · have h2 : ¬ σ i < listed'.size := by
        intro h2
        have a := h1 true; have b := h1 false
        simp only [Array.getD, h2, hb, dite_true, dite_false] at a b
        rw [a] at b; simp at b
      simp [Array.getD, hb, h2]
  · have hne : σ i ≠ σ k := fun e => hk (by rw [← (hi i).2, e, (hi k).2])
    rw [getD_set_ne d hk, getD_set_ne d hne]
    exact h k d

theorem Var.ready (V : Var ops ops' σ τ p q) {listed listed' : Array Bool} (h : Agr σ listed listed') {k : Nat} (hk : k ∈ Region.ready .any ops listed) (hp : k = q → listed.getD p false = true) : σ k ∈ Region.ready .any ops' listed' := by
  rw [mem_ready] at hk ⊢
  obtain ⟨h1, o, ho, h2⟩ := hk
  obtain ⟨_, es, g1, g2, _⟩ := V.op k o ho
  refine ⟨by rw [h k]; exact h1, _, g1, fun e' he' hb => ?_⟩
  rcases g2 e' he' hb with ⟨e, x1, x2, x3⟩ | ⟨x1, x2⟩
  · rw [x3, h]; exact h2 e x1 x2
  · rw [x2, h]; exact hp x1
theorem Var.back (V : Var ops ops' σ τ p q) {listed listed' : Array Bool} (h : Agr σ listed listed') {k : Nat} (hk : k ∈ Region.ready .any ops' listed') : τ k ∈ Region.ready .any ops listed := by
  rw [mem_ready] at hk ⊢
  obtain ⟨h1, o', ho', h2⟩ := hk
  obtain ⟨o, ho⟩ := V.op' k o' ho'
  obtain ⟨_, es, g1, _, g3⟩ := V.op (τ k) o ho
  rw [(V.inv k).1, ho'] at g1
  simp only [Option.some.injEq] at g1
  have hk' : ∀ d, listed'.getD k d = listed.getD (τ k) d := fun d => by have := h (τ k) d; rw [(V.inv k).1] at this; exact this
  refine ⟨by rw [← hk']; exact h1, o, ho, fun e he hb => ?_⟩
  obtain ⟨e', x1, x2, x3⟩ := g3 e he hb
  have := h2 e' (by rw [g1]; exact x1) x2
  rw [x3, h] at this
  exact this
theorem Var.step (V : Var ops ops' σ τ p q) {k : Nat} {K : Act → World → Prop} {a : Act} {w : World} (hk : k < ops.size) (h : wpOpIn F n P ops' Q (σ k) K a w) : wpOpIn F n P ops Q k K a w := by
  obtain ⟨o, ho⟩ : ∃ o, ops[k]? = some o := ⟨_, Array.getElem?_eq_getElem hk⟩
  obtain ⟨gn, es, g1, _⟩ := V.op k o ho
  unfold wpOpIn at h ⊢
  simp only [ho, g1] at h ⊢
  have w1 : ∀ y, Region.wanted o y = true := fun y => by unfold Region.wanted; rw [gn]
  have w2 : ∀ y, Region.wanted { o with after := es } y = true := fun y => by unfold Region.wanted; simp only [gn]
  rw [w2, if_pos rfl] at h
  rw [w1, if_pos rfl]
  exact h
theorem ready_lt {listed : Array Bool} {k : Nat} (h : k ∈ Region.ready .any ops listed) : k < ops.size := by
  rw [mem_ready] at h
  obtain ⟨_, o, ho, _⟩ := h
  exact (Array.getElem?_eq_some_iff.1 ho).1
theorem Var.nil (V : Var ops ops' σ τ p q) {listed listed' : Array Bool} (h : Agr σ listed listed') (hn : Region.ready .any ops listed = []) : Region.ready .any ops' listed' = [] := by
  refine List.eq_nil_iff_forall_not_mem.2 fun k hk => ?_
  have := V.back h hk
  rw [hn] at this; simp at this
/-- once the one that is waited for has been done -/
theorem Var.one (V : Var ops ops' σ τ p q) : ∀ (fuel : Nat) (listed listed' : Array Bool) (a : Act) (w : World), Agr σ listed listed' → listed.getD p false = true → wpAnyIn F n P .any ops' Q fuel listed' a w → wpAnyIn F n P .any ops Q fuel listed a w
  | 0, listed, listed', a, w, h, hp, hw => by
    unfold wpAnyIn at hw ⊢
    refine ⟨List.eq_nil_iff_forall_not_mem.2 fun k hk => ?_, hw.2⟩
    have := V.ready h hk fun _ => hp
    rw [hw.1] at this; simp at this
  | fuel + 1, listed, listed', a, w, h, hp, hw => by
    unfold wpAnyIn at hw ⊢
    refine ⟨fun hn => hw.1 (V.nil h hn), fun k hk => ?_⟩
    refine V.step (ready_lt hk) (wpOpIn_mono (fun a w hr => V.one fuel _ _ a w (h.set V.inv k) (getD_set_true hp) hr) (hw.2 (σ k) (V.ready h hk fun _ => hp)))
end
/-! ### one order -/
def Adm (ops : Array Oper) : Nat → Array Bool → List Nat → Prop
  | 0, _, l => l = []
  | _ + 1, listed, [] => Region.ready .any ops listed = []
  | fuel + 1, listed, k :: l => k ∈ Region.ready .any ops listed ∧ Adm ops fuel (listed.setIfInBounds k true) l
theorem go_adm (ops : Array Oper) : ∀ (fuel t : Nat) (listed : Array Bool), Adm ops fuel listed (Region.linearise.go .any ops fuel t listed [])
  | 0, t, listed => by simp [Region.linearise.go, Adm]
  | fuel + 1, t, listed => by
    simp only [Region.linearise.go]
    change Adm ops (fuel + 1) listed (match (Region.ready .any ops listed)[t % (Region.ready .any ops listed).length]? with
      | some i => Region.linearise.go .any ops fuel (t / (Region.ready .any ops listed).length) (listed.setIfInBounds i true) [i]
      | none => [].reverse)
    cases hi : (Region.ready .any ops listed)[t % (Region.ready .any ops listed).length]? with
    | none =>
      have hnil : Region.ready .any ops listed = [] := by
        cases hr : Region.ready .any ops listed with
        | nil => rfl
        | cons x xs =>
          rw [hr] at hi
          have hlt : t % (x :: xs).length < (x :: xs).length := Nat.mod_lt _ (by simp)
          simp at hi
          simp at hlt
          omega
      simpa [Adm] using hnil
    | some i =>
      simp only []
      rw [linearise_go_acc, List.reverse_singleton, List.singleton_append]
      exact ⟨List.mem_of_getElem? hi, go_adm ops fuel _ _⟩
section
variable {F : Fence} {n : Nat} {P : Program} {ops ops' : Array Oper} {σ τ : Nat → Nat} {p q : Nat} {Q : Exit → Act → World → Prop}
theorem any_adm : ∀ (fuel : Nat) (listed : Array Bool) (l : List Nat) (a : Act) (w : World), Adm ops fuel listed l → wpAnyIn F n P .any ops Q fuel listed a w → wpOpsIn F n P ops Q l a w
  | 0, listed, l, a, w, h, hw => by
    simp only [Adm] at h; subst h
    exact hw.2
  | fuel + 1, listed, [], a, w, h, hw => hw.1 h
  | fuel + 1, listed, k :: l, a, w, h, hw => by
    rw [wpOpsIn_cons]
    exact wpOpIn_mono (fun a w hr => any_adm fuel _ l a w h.2 hr) (hw.2 k h.1)
/-- the one that is waited for comes first, or neither comes -/
def Fst (p q : Nat) : List Nat → Prop
  | [] => True
  | k :: l => k = p ∨ (k ≠ q ∧ Fst p q l)
theorem fst_or (p q : Nat) : ∀ l, Fst p q l ∨ Fst q p l
  | [] => .inl trivial
  | k :: l => by
    by_cases h1 : k = p
    · exact .inl (.inl h1)
    · by_cases h2 : k = q
      · exact .inr (.inl h2)
      · rcases fst_or p q l with h | h
        · exact .inl (.inr ⟨h2, h⟩)
        · exact .inr (.inr ⟨h1, h⟩)
theorem Var.all (V : Var ops ops' σ τ p q) (hpq : p ≠ q) : ∀ (fuel : Nat) (listed listed' : Array Bool) (l : List Nat) (a : Act) (w : World), Agr σ listed listed' → p < listed.size → Fst p q l → Adm ops fuel listed l → wpAnyIn F n P .any ops' Q fuel listed' a w → wpOpsIn F n P ops Q l a w
  | 0, listed, listed', l, a, w, h, hp, hf, ha, hw => by
    simp only [Adm] at ha; subst ha
    exact hw.2
  | fuel + 1, listed, listed', [], a, w, h, hp, hf, ha, hw => hw.1 (V.nil h ha)
  | fuel + 1, listed, listed', k :: l, a, w, h, hp, hf, ha, hw => by
    rw [wpOpsIn_cons]
    have hkq : k ≠ q := by
      rcases hf with rfl | hf
      · exact hpq
      · exact hf.1
    refine V.step (ready_lt ha.1) (wpOpIn_mono (fun a w hr => ?_) (hw.2 (σ k) (V.ready h ha.1 fun e => absurd e hkq)))
    rcases hf with rfl | hf
    · exact any_adm fuel _ l a w ha.2 (V.one fuel _ _ a w (h.set V.inv k) (by simp [Array.getD, hp]) hr)
    · exact V.all hpq fuel _ _ l a w (h.set V.inv k) (by simpa using hp) hf.2 ha.2 hr
end
/-- either goes first -/
theorem two {F : Fence} {n : Nat} {P : Program} {ops ops1 ops2 : Array Oper} {σ1 σ2 τ1 τ2 : Nat → Nat} {i j : Nat} {id : Nat} {Q : Exit → Act → World → Prop} (hij : i ≠ j) (hi : i < ops.size) (hj : j < ops.size) (V1 : Var ops ops1 σ1 τ1 i j) (V2 : Var ops ops2 σ2 τ2 j i)
    (s1 : ops1.size = ops.size) (s2 : ops2.size = ops.size) (b1 : ∀ k, σ1 k < ops.size ↔ k < ops.size) (b2 : ∀ k, σ2 k < ops.size ↔ k < ops.size) (hm : P.follows .mixedOrders = true) {a : Act} {w : World}
    (w1 : wpAnyIn F n P .any ops1 Q ops1.size (Array.replicate ops1.size false) a { w with drawn := w.drawn + 1 }) (w2 : wpAnyIn F n P .any ops2 Q ops2.size (Array.replicate ops2.size false) a { w with drawn := w.drawn + 1 }) : (Code.region id ops true).wpIn F n P Q a w :=
  wpIn_region_draw fun t => by
    simp only [Region.schedule, hm, Bool.true_or, if_true]
    show wpOpsIn F n P ops Q (Region.linearise.go .any ops ops.size t (Array.replicate ops.size false) []) a _
    have ha := go_adm ops ops.size t (Array.replicate ops.size false)
    have agr : ∀ {σ : Nat → Nat}, (∀ k, σ k < ops.size ↔ k < ops.size) → Agr σ (Array.replicate ops.size false) (Array.replicate ops.size false) := fun hb k d => by
      by_cases hk : k < ops.size
      · simp [Array.getD, hk, (hb k).2 hk]
      · simp [Array.getD, hk, mt (hb k).1 hk]
    rw [s1] at w1
    rw [s2] at w2
    rcases fst_or i j (Region.linearise.go .any ops ops.size t (Array.replicate ops.size false) []) with h | h
    · exact V1.all hij _ _ _ _ _ _ (agr b1) (by simpa using hi) h ha w1
    · exact V2.all (Ne.symm hij) _ _ _ _ _ _ (agr b2) (by simpa using hj) h ha w2
section
variable {K : Cfg} {lps : List Code}
theorem draw_wp (hK : Good K lps) {all : List Oper} {trs : List Tr} {F F' : Fr} {H H' : Hp} (ht : DT K all all F H trs F' H') (hd : drawOk all trs = true) {ρ : Env} {a : Act} {w : World} (hH : HRel K.C ρ H w) (hF : FRel ρ F a)
    {r : Option Nat} {Q : Exit → Act → World → Prop} (hQ : ∀ ρ' a' w', HRel K.C ρ' H' w' → FRel ρ' F' a' → ρ.le ρ' → Frm ρ w ρ' w' → Q .normal a' w') : wpAnyIn (W r) 0 K.C.P .any all.toArray Q all.toArray.size (Array.replicate all.toArray.size false) a { w with drawn := w.drawn + 1 } := by
  obtain ⟨vs, h1, h2, h3, h4, h5⟩ := ht.spell
  have hw : ({ w with drawn := w.drawn + 1 } : World) = w.drew := rfl
  rw [hw]
  have hsz : all.toArray.size = all.length := by simp
  rw [hsz]
  refine draw_any (F0 := F) (H0 := H) (ρ0 := ρ) (w0 := w) hK hd h1 h2 h5 (fun a' w' hs => ?_) all.length _ a w.drew (by simp) ?_ ⟨fun j o _ hj => ?_, ρ, ?_, ?_, Env.le_refl ρ, (Frm.refl ρ w).drew⟩
  · obtain ⟨ρ', g1, g2, g3, g4⟩ := hs.rel
    rw [h4] at g1
    rw [h3] at g2
    exact hQ ρ' a' w' g1 g2 g3 g4
  · rw [List.countP_eq_length.2]
    · simp
    · intro i hi
      have := List.mem_range.1 hi
      simp [Array.getD]
  · simp [Array.getD] at hj
  · rw [HSel_none]
    · exact hH.drew
    · intro k _; simp [Array.getD]
  · have none : ∀ (l : List Oper) (vs : List AV) (i : Nat) (F : Fr), FSel (fun i => (Array.replicate all.length false).getD i false) i l vs F = F := by
      intro l
      induction l with
      | nil => intro vs i F; simp [FSel]
      | cons o l ih =>
        intro vs i F
        cases vs with
        | nil => simp [FSel]
        | cons x vs =>
          simp only [FSel]
          have : (Array.replicate all.length false).getD i false = false := by simp [Array.getD]
          rw [this]
          exact ih vs _ F
    rw [none]
    exact hF
end
/-- the region's run in the text's order -/
noncomputable def ddr (K : DCfg) (fuel n0 m : Nat) (all : List Oper) (N : Nat) (live : List Nat) (vs : List EV) (H : DHp) : T :=
  dx K fuel m (.dr all all []) (flD N live vs) H (f0 n0) (finL N live)
theorem ddr_snd {C : Ctx} {K : DCfg} {fuel n0 m : Nat} {all : List Oper} {N : Nat} {live : List Nat} {vs : List EV} {H : DHp} {Q : Ex → List AV → Hp → Prop} (hK : DGood C K [])
    (h : vT C.G Q (fun _ _ => False) (ddr K fuel n0 m all N live vs H)) : ∃ trs F' H', DT (K0 C) all all (fl N live (vVs C.G vs)) (vHp C.G H) trs F' H' ∧ drawOk all trs = true ∧ lv N live Q .normal F' H' := by
  have := dx_sound hK fuel m (.dr all all []) (flD N live vs) H (f0 n0) _ (lv N live Q) Q (fun _ _ => False) (fun e F1 H1 fs1 ht => by
    unfold finL at ht
    split at ht
    · rename_i hb
      simp only [vT, vVs_rd] at ht
      simp only [lv, vVs_length, hb]
      exact ht
    · exact ht.elim) trivial h
  rw [vVs_fl] at this
  obtain ⟨trs, F', H', h1, h2, h3⟩ := this
  exact ⟨trs, F', H', h1, by simpa using h2, h3⟩
theorem dtwo_ok {C : Ctx} {K : DCfg} {fuel n0 m : Nat} {ops : Array Oper} {all1 all2 : List Oper} {σ1 σ2 τ1 τ2 : Nat → Nat} {i j id : Nat} {N : Nat} {live : List Nat} {vs : List EV} {H : DHp} {Q : Ex → List AV → Hp → Prop} (hK : DGood C K []) (hm : m ≤ H.length)
    (hij : i ≠ j) (hi : i < ops.size) (hj : j < ops.size) (V1 : Var ops all1.toArray σ1 τ1 i j) (V2 : Var ops all2.toArray σ2 τ2 j i)
    (s1 : all1.toArray.size = ops.size) (s2 : all2.toArray.size = ops.size) (b1 : ∀ k, σ1 k < ops.size ↔ k < ops.size) (b2 : ∀ k, σ2 k < ops.size ↔ k < ops.size)
    (h1 : vT C.G Q (fun _ _ => False) (ddr K fuel n0 m all1 N live vs H)) (h2 : vT C.G Q (fun _ _ => False) (ddr K fuel n0 m all2 N live vs H)) : AWp C m (.region id ops true) (fl N live (vVs C.G vs)) (vHp C.G H) (lv N live Q) := by
  obtain ⟨t1, F1, H1, x1, x2, x3⟩ := ddr_snd hK h1
  obtain ⟨t2, F2, H2, y1, y2, y3⟩ := ddr_snd hK h2
  have hm' : m ≤ (vHp C.G H).length := by simpa [vHp_length] using hm
  intro r hr ρ a w hH hF
  refine two hij hi hj V1 V2 s1 s2 b1 b2 hK.mix ?_ ?_
  · exact draw_wp (good_K0 hK.mix []) x1 x2 hH hF fun ρ' a' w' q1 q2 q3 q4 => ⟨.normal, ρ', F1, H1, rfl, x3, Pin.of_le hH q3 hm', q1, q2, q4⟩
  · exact draw_wp (good_K0 hK.mix []) y1 y2 hH hF fun ρ' a' w' q1 q2 q3 q4 => ⟨.normal, ρ', F2, H2, rfl, y3, Pin.of_le hH q3 hm', q1, q2, q4⟩
/-- a named stretch of code -/
theorem AWp.block {C : Ctx} {m id : Nat} {c : Code} {F : Fr} {H : Hp} {Q : Post} (h : AWp C m c F H (blockK id Q)) : AWp C m (.block id c) F H Q := by
  intro r hr ρ a w hH hF
  refine wpIn_block (Code.wpIn_mono ?_ (h r (okR_block hr) ρ a w hH hF))
  rintro e a' w' ⟨ae, ρ', F', H', rfl, h2, h3⟩
  cases ae with
  | normal => exact ⟨.normal, ρ', F', H', rfl, h2, h3⟩
  | ret => exact ⟨.ret, ρ', F', H', rfl, h2, h3⟩
  | exit i =>
    simp only [blockK] at h2
    show (if i = id then AP C m ρ w Q .normal a' w' else AP C m ρ w Q (.exit i) a' w')
    split at h2
    · rename_i hi
      rw [if_pos (by simpa using hi)]
      exact ⟨.normal, ρ', F', H', rfl, h2, h3⟩
    · rename_i hi
      rw [if_neg (by simpa using hi)]
      exact ⟨.exit i, ρ', F', H', rfl, h2, h3⟩
/-! ### what is known of a frame besides -/
theorem VR_pos {ρ : Env} {v : Value} {r : Ref} {o n : Nat} (h : VR ρ (.slice true r o (n + 1)) v) : VR ρ (.slice false r o (n + 1)) v := by
  simp only [VR] at h ⊢
  obtain ⟨ca, cap, h1, h2, h3⟩ := h
  refine ⟨ca, cap, h1, h2, ?_⟩
  rcases h3 with ⟨_, h4, _⟩ | h3 | h3
  · omega
  · exact .inr (.inl h3)
  · exact .inr (.inr h3)
def tells : List AV → List AV → Prop
  | [], [] => True
  | x :: l, y :: k => (∀ (ρ : Env) cv, VR ρ x cv → VR ρ y cv) ∧ tells l k
  | _, _ => False
theorem tells_at : ∀ {l k : List AV}, tells l k → ∀ (j : Nat) y, k[j]? = some y → ∃ x, l[j]? = some x ∧ ∀ (ρ : Env) cv, VR ρ x cv → VR ρ y cv
  | [], [], _, j, y, hj => by simp at hj
  | x :: l, y :: k, h, 0, z, hj => by simp at hj; subst hj; exact ⟨x, rfl, h.1⟩
  | x :: l, y :: k, h, j + 1, z, hj => by
    obtain ⟨x', h1, h2⟩ := tells_at h.2 j z (by simpa using hj)
    exact ⟨x', by simpa using h1, h2⟩
  | [], _ :: _, h, _, _, _ => h.elim
  | _ :: _, [], h, _, _, _ => h.elim
theorem tells.refl : ∀ l, tells l l
  | [] => trivial
  | _ :: l => ⟨fun _ _ h => h, tells.refl l⟩
theorem AWp.tell {C : Ctx} {m : Nat} {c : Code} {N : Nat} {live : List Nat} {vs : List AV} (vs' : List AV) {H : Hp} {Q : Post} (hr : rdF live (fl N live vs) = vs) (hs : tells vs vs') (h : AWp C m c (fl N live vs') H Q) : AWp C m c (fl N live vs) H Q := by
  intro r hr' ρ a w hH hF
  refine h r hr' ρ a w hH (fl_rel hF.nod (by rw [← hF.len, fl_length]) fun j i v h1 h2 => ?_)
  obtain ⟨x, h3, h4⟩ := tells_at hs j v h2
  refine h4 ρ _ ?_
  have h5 : (rdF live (fl N live vs))[j]? = some ((fl N live vs).getD i .undef) := by simp only [rdF, List.getElem?_map, h1, Option.map_some]
  rw [hr, h3] at h5
  simp only [Option.some.injEq] at h5
  rw [h5]
  by_cases hi : i < (fl N live vs).length
  · exact hF.val i _ (by simp [List.getD, hi])
  · simp [List.getD, hi, VR]
/-! ### the two orders -/
def sw (i j k : Nat) : Nat := if k = i then j else if k = j then i else k
theorem sw_sw (i j k : Nat) : sw i j (sw i j k) = k := by unfold sw; split <;> split <;> (try split) <;> omega
def ord1 (ops : Array Oper) (i j : Nat) : List Oper := ops.toList.mapIdx fun k o => { o with after := bif Nat.beq k j then o.after.push ⟨i, .data⟩ else o.after }
def reEdge (i j : Nat) (e : Edge) : Edge := { e with on := sw i j e.on }
def ord2a (i j k : Nat) (o : Oper) : Oper := { o with after := bif Nat.beq k j then (o.after.map (reEdge i j)).push ⟨i, .data⟩ else o.after.map (reEdge i j) }
def ord2 (ops : Array Oper) (i j : Nat) : List Oper := ops.toList.mapIdx fun k o => ord2a i j k ((ops[sw i j k]?).getD o)
def bare (ops : Array Oper) : Bool := ops.toList.all fun o => o.guard.isNone
theorem bare_at {ops : Array Oper} (h : bare ops = true) {k : Nat} {o : Oper} (ho : ops[k]? = some o) : o.guard = none := by
  unfold bare at h
  rw [List.all_eq_true] at h
  have := h o (by rw [← Array.getElem?_toList] at ho; exact List.mem_of_getElem? ho)
  simpa using this
theorem ord1_var {ops : Array Oper} {i j : Nat} (h : bare ops = true) : Var ops (ord1 ops i j).toArray (fun k => k) (fun k => k) i j := by
  have get : ∀ k, (ord1 ops i j).toArray[k]? = (ops[k]?).map fun (o : Oper) => { o with after := bif Nat.beq k j then o.after.push ⟨i, .data⟩ else o.after } := fun k => by
    unfold ord1
    rw [List.getElem?_toArray, List.getElem?_mapIdx, Array.getElem?_toList]
  refine ⟨fun _ => ⟨rfl, rfl⟩, fun k o ho => ⟨bare_at h ho, _, by rw [get, ho]; rfl, fun e' he' hb => ?_, fun e he hb => ?_⟩, fun k o' ho' => ?_⟩
  · cases hk : Nat.beq k j with
    | true =>
      rw [hk] at he'
      simp only [cond_true, Array.mem_push] at he'
      rcases he' with he' | rfl
      · exact .inl ⟨e', he', hb, rfl⟩
      · exact .inr ⟨Nat.eq_of_beq_eq_true hk, rfl⟩
    | false =>
      rw [hk] at he'
      exact .inl ⟨e', he', hb, rfl⟩
  · cases hk : Nat.beq k j with
    | true => exact ⟨e, by simp only [cond_true, Array.mem_push]; exact .inl he, hb, rfl⟩
    | false => exact ⟨e, he, hb, rfl⟩
  · rw [get] at ho'
    cases ho : ops[k]? with
    | none => rw [ho] at ho'; simp at ho'
    | some o => exact ⟨o, rfl⟩
theorem sw_lt {i j n : Nat} (hi : i < n) (hj : j < n) (k : Nat) : sw i j k < n ↔ k < n := by unfold sw; split <;> (try split) <;> omega
theorem ord2_var {ops : Array Oper} {i j : Nat} (h : bare ops = true) (hi : i < ops.size) (hj : j < ops.size) : Var ops (ord2 ops i j).toArray (sw i j) (sw i j) j i := by
  have get : ∀ k, (ord2 ops i j).toArray[k]? = (ops[k]?).map fun (o : Oper) => ord2a i j k ((ops[sw i j k]?).getD o) := fun k => by
    unfold ord2
    rw [List.getElem?_toArray, List.getElem?_mapIdx, Array.getElem?_toList]
  have bd : ∀ (e : Edge), Region.binds .any (reEdge i j e) = Region.binds .any e := fun e => rfl
  refine ⟨fun k => ⟨sw_sw i j k, sw_sw i j k⟩, fun k o ho => ?_, fun k o' ho' => ?_⟩
  · have hk : k < ops.size := (Array.getElem?_eq_some_iff.1 ho).1
    have hs : sw i j k < ops.size := (sw_lt hi hj k).2 hk
    obtain ⟨o2, ho2⟩ : ∃ o2, ops[sw i j k]? = some o2 := ⟨_, Array.getElem?_eq_getElem hs⟩
    refine ⟨bare_at h ho, _, by rw [get, ho2, Option.map_some, sw_sw, ho]; rfl, fun e' he' hb => ?_, fun e he hb => ?_⟩
    · cases hq : Nat.beq (sw i j k) j with
      | true =>
        rw [hq] at he'
        simp only [cond_true, Array.mem_push, Array.mem_map, Option.getD_some] at he'
        rcases he' with ⟨e, he, rfl⟩ | rfl
        · exact .inl ⟨e, he, hb, rfl⟩
        · refine .inr ⟨?_, ?_⟩
          · have := Nat.eq_of_beq_eq_true hq
            unfold sw at this
            split at this
            · assumption
            · split at this <;> omega
          · show i = sw i j j
            unfold sw; split <;> simp_all
      | false =>
        rw [hq] at he'
        simp only [cond_false, Array.mem_map, Option.getD_some] at he'
        obtain ⟨e, he, rfl⟩ := he'
        exact .inl ⟨e, he, hb, rfl⟩
    · refine ⟨reEdge i j e, ?_, hb, rfl⟩
      have : reEdge i j e ∈ o.after.map (reEdge i j) := Array.mem_map.2 ⟨e, he, rfl⟩
      cases hq : Nat.beq (sw i j k) j with
      | true => simp only [cond_true, Array.mem_push, Option.getD_some]; exact .inl this
      | false => simp only [cond_false, Option.getD_some]; exact this
  · rw [get] at ho'
    have hk : k < ops.size := by
      cases ho : ops[k]? with
      | none => rw [ho] at ho'; simp at ho'
      | some o => exact (Array.getElem?_eq_some_iff.1 ho).1
    exact ⟨_, Array.getElem?_eq_getElem ((sw_lt hi hj k).2 hk)⟩
theorem ord1_size {ops : Array Oper} {i j : Nat} : (ord1 ops i j).toArray.size = ops.size := by simp [ord1]
theorem ord2_size {ops : Array Oper} {i j : Nat} : (ord2 ops i j).toArray.size = ops.size := by simp [ord2]
/-- THE REGION in which i and j want no order -/
theorem dtwo {C : Ctx} {K : DCfg} {fuel n0 m : Nat} {ops : Array Oper} {i j id : Nat} {N : Nat} {live : List Nat} {vs : List EV} {H : DHp} {Q : Ex → List AV → Hp → Prop} (hK : DGood C K []) (hm : m ≤ H.length)
    (hij : Nat.blt i j = true) (hj : Nat.blt j ops.size = true) (hb : bare ops = true)
    (h1 : vT C.G Q (fun _ _ => False) (dloop K (fuel + 1) n0 m (.region id (ord1 ops i j).toArray true) N live vs H)) (h2 : vT C.G Q (fun _ _ => False) (dloop K (fuel + 1) n0 m (.region id (ord2 ops i j).toArray true) N live vs H)) : AWp C m (.region id ops true) (fl N live (vVs C.G vs)) (vHp C.G H) (lv N live Q) := by
  have hij : i < j := Nat.blt_eq ▸ hij
  have hj : j < ops.size := Nat.blt_eq ▸ hj
  exact dtwo_ok hK hm (by omega) (by omega) hj (ord1_var hb) (ord2_var hb (by omega) hj) ord1_size ord2_size (fun _ => Iff.rfl) (fun k => sw_lt (by omega) hj k) h1 h2
/-! ### j goes just ahead of i -/
def ro3 (i j k : Nat) : Nat := if k = j then i else if i ≤ k ∧ k < j then k + 1 else k
def ro3' (i j k : Nat) : Nat := if k = i then j else if i < k ∧ k ≤ j then k - 1 else k
theorem ro3_inv {i j : Nat} (h : i < j) (k : Nat) : ro3 i j (ro3' i j k) = k ∧ ro3' i j (ro3 i j k) = k := by
  unfold ro3 ro3'
  constructor
  · by_cases h1 : k = i
    · simp [h1]
    · by_cases h2 : i < k ∧ k ≤ j
      · rw [if_neg h1, if_pos h2, if_neg (by omega), if_pos (by omega)]; omega
      · rw [if_neg h1, if_neg h2, if_neg (by omega), if_neg (by omega)]
  · by_cases h1 : k = j
    · simp [h1]
    · by_cases h2 : i ≤ k ∧ k < j
      · rw [if_neg h1, if_pos h2, if_neg (by omega), if_pos (by omega)]; omega
      · rw [if_neg h1, if_neg h2, if_neg (by omega), if_neg (by omega)]
theorem ro3_lt {i j n : Nat} (h : i < j) (hj : j < n) (k : Nat) : ro3 i j k < n ↔ k < n := by unfold ro3; split <;> (try split) <;> omega
theorem ro3'_lt {i j n : Nat} (h : i < j) (hj : j < n) (k : Nat) : ro3' i j k < n ↔ k < n := by unfold ro3'; split <;> (try split) <;> omega
def reEdge3 (i j : Nat) (e : Edge) : Edge := { e with on := ro3 i j e.on }
def ord3a (i j k : Nat) (o : Oper) : Oper := { o with after := bif Nat.beq k (i + 1) then (o.after.map (reEdge3 i j)).push ⟨i, .data⟩ else o.after.map (reEdge3 i j) }
def ord3 (ops : Array Oper) (i j : Nat) : List Oper := ops.toList.mapIdx fun k o => ord3a i j k ((ops[ro3' i j k]?).getD o)
theorem ord3_size {ops : Array Oper} {i j : Nat} : (ord3 ops i j).toArray.size = ops.size := by simp [ord3]
theorem ord3_var {ops : Array Oper} {i j : Nat} (h : bare ops = true) (hij : i < j) (hj : j < ops.size) : Var ops (ord3 ops i j).toArray (ro3 i j) (ro3' i j) j i := by
  have get : ∀ k, (ord3 ops i j).toArray[k]? = (ops[k]?).map fun (o : Oper) => ord3a i j k ((ops[ro3' i j k]?).getD o) := fun k => by
    unfold ord3
    rw [List.getElem?_toArray, List.getElem?_mapIdx, Array.getElem?_toList]
  refine ⟨ro3_inv hij, fun k o ho => ?_, fun k o' ho' => ?_⟩
  · have hk : k < ops.size := (Array.getElem?_eq_some_iff.1 ho).1
    have hs : ro3 i j k < ops.size := (ro3_lt hij hj k).2 hk
    obtain ⟨o2, ho2⟩ : ∃ o2, ops[ro3 i j k]? = some o2 := ⟨_, Array.getElem?_eq_getElem hs⟩
    refine ⟨bare_at h ho, _, by rw [get, ho2, Option.map_some, (ro3_inv hij k).2, ho]; rfl, fun e' he' hb => ?_, fun e he hb => ?_⟩
    · cases hq : Nat.beq (ro3 i j k) (i + 1) with
      | true =>
        rw [hq] at he'
        simp only [cond_true, Array.mem_push, Array.mem_map, Option.getD_some] at he'
        rcases he' with ⟨e, he, rfl⟩ | rfl
        · exact .inl ⟨e, he, hb, rfl⟩
        · refine .inr ⟨?_, ?_⟩
          · have := Nat.eq_of_beq_eq_true hq
            unfold ro3 at this
            split at this
            · omega
            · split at this <;> omega
          · show i = ro3 i j j
            unfold ro3; simp
      | false =>
        rw [hq] at he'
        simp only [cond_false, Array.mem_map, Option.getD_some] at he'
        obtain ⟨e, he, rfl⟩ := he'
        exact .inl ⟨e, he, hb, rfl⟩
    · refine ⟨reEdge3 i j e, ?_, hb, rfl⟩
      have : reEdge3 i j e ∈ o.after.map (reEdge3 i j) := Array.mem_map.2 ⟨e, he, rfl⟩
      cases hq : Nat.beq (ro3 i j k) (i + 1) with
      | true => simp only [cond_true, Array.mem_push, Option.getD_some]; exact .inl this
      | false => simp only [cond_false, Option.getD_some]; exact this
  · rw [get] at ho'
    have hk : k < ops.size := by
      cases ho : ops[k]? with
      | none => rw [ho] at ho'; simp at ho'
      | some o => exact (Array.getElem?_eq_some_iff.1 ho).1
    exact ⟨_, Array.getElem?_eq_getElem ((ro3'_lt hij hj k).2 hk)⟩
/-- THE REGION in which i (a call) and j (a place laid behind it) want no order: j's users stand behind it, i's may stand between -/
theorem dtwo3 {C : Ctx} {K : DCfg} {fuel n0 m : Nat} {ops : Array Oper} {i j id : Nat} {N : Nat} {live : List Nat} {vs : List EV} {H : DHp} {Q : Ex → List AV → Hp → Prop} (hK : DGood C K []) (hm : m ≤ H.length)
    (hij : Nat.blt i j = true) (hj : Nat.blt j ops.size = true) (hb : bare ops = true)
    (h1 : vT C.G Q (fun _ _ => False) (dloop K (fuel + 1) n0 m (.region id (ord1 ops i j).toArray true) N live vs H)) (h2 : vT C.G Q (fun _ _ => False) (dloop K (fuel + 1) n0 m (.region id (ord3 ops i j).toArray true) N live vs H)) : AWp C m (.region id ops true) (fl N live (vVs C.G vs)) (vHp C.G H) (lv N live Q) := by
  have hij : i < j := Nat.blt_eq ▸ hij
  have hj : j < ops.size := Nat.blt_eq ▸ hj
  exact dtwo_ok hK hm (by omega) (by omega) hj (ord1_var hb) (ord3_var hb hij hj) ord1_size ord3_size (fun _ => Iff.rfl) (fun k => ro3_lt hij hj k) h1 h2
end Go.Am
namespace Go.Am
open Go.RowKit
/-- the first parts of a row of codes, and what is behind them -/
def takeS : Nat → Code → List Code
  | 0, _ => []
  | n + 1, c => match c with
    | .seq a b => a :: takeS n b
    | _ => []
def dropS : Nat → Code → Code
  | 0, c => c
  | n + 1, c => match c with
    | .seq _ b => dropS n b
    | c => c
theorem dropS_no (n : Nat) {c : Code} (h : ∀ a b, c ≠ .seq a b) : dropS n c = c := by
  cases n with
  | zero => rfl
  | succ n => cases c <;> first | rfl | exact absurd rfl (h _ _)
theorem dropS_add : ∀ (m n : Nat) (c : Code), dropS n (dropS m c) = dropS (m + n) c
  | 0, n, c => by rw [Nat.zero_add]; rfl
  | m + 1, n, c => by
    rw [show m + 1 + n = (m + n) + 1 by omega]
    cases c
    case seq a b => exact dropS_add m n b
    all_goals exact dropS_no n (fun _ _ h => by cases h)
def seqs : List Code → Code → Code
  | [], b => b
  | a :: l, b => .seq a (seqs l b)
theorem seqs_eq : ∀ (n : Nat) (c : Code), seqs (takeS n c) (dropS n c) = c
  | 0, c => rfl
  | n + 1, c => by
    cases c <;> simp only [takeS, dropS, seqs]
    rename_i a b
    rw [seqs_eq n b]
/-- the heap's row is written out -/
def spnK : Hp → (Hp → Prop) → Prop
  | [], k => k []
  | x :: xs, k => match x with
    | none => spnK xs fun ys => k (none :: ys)
    | some b => spnK xs fun ys => k (some b :: ys)
theorem spnK_eq : ∀ (H : Hp) (k : Hp → Prop), spnK H k = k H
  | [], k => rfl
  | none :: xs, k => by simp only [spnK]; rw [spnK_eq xs]
  | some b :: xs, k => by simp only [spnK]; rw [spnK_eq xs]
def vcs (K : Cfg) (n m : Nat) : List Code → Fr → Hp → Post → Prop
  | [], F, H, Q => spnK H fun H => Q .normal F H
  | a :: l, F, H, Q => vc K n m (.code a) F H fun e F' H' => match e with
    | .normal => vcs K n m l F' H' Q
    | .exit i => Q (.exit i) F' H'
    | .ret => Q .ret F' H'
/-- the rest of a code, told by its contract -/
def recW (C : Ctx) : Rec := fun m w F H Q => match w with
  | .code c => AWp C m c F H Q
  | _ => False
theorem AWp.seq {C : Ctx} {a b : Code} {F : Fr} {H : Hp} {Q : Post} {m : Nat} (hm : m ≤ H.length) (h : AWp C m a F H (thenK (recW C) m b Q)) : AWp C m (.seq a b) F H Q := by
  intro r hr ρ x w hH hF
  refine wpIn_seq (Code.wpIn_mono (fun e a' w' h => AP.seq hm hH (fun F' H' hrr ρ' a2 w2 hl g1 g2 => hrr r (okR_seq hr).2 ρ' a2 w2 g1 g2) h) (h r (okR_seq hr).1 ρ x w hH hF))
/-- closed runs, all calls but some entered -/
def Kcx (C : Ctx) (ex : List Nat) (sum : Sums) : Cfg := { C := C, inl := fun f => !has ex f, strict := .full, unr := true, sum := sum, loop := noLoop, M := 0, cmp := true }
section
variable {C : Ctx} {sum : Sums} {ex : List Nat}
theorem goodcx (hm : C.P.follows .mixedOrders = true) (hs : SumsOk C sum) : Good (Kcx C ex sum) [] := ⟨hm, hs, fun m c F H e F' H' _ h => by simp at h⟩
theorem wpcx (hm : C.P.follows .mixedOrders = true) (hs : SumsOk C sum) {c : Code} (n : Nat) {F : Fr} {H : Hp} {Q : Post} (h : vc (Kcx C ex sum) n 0 (.code c) F H Q) : AWp C 0 c F H Q :=
  wp_of_vc (K := Kcx C ex sum) (goodcx hm hs) (fun h => by cases h) n (Nat.zero_le _) (fun h => by cases h) h
theorem callcx (hm : C.P.follows .mixedOrders = true) (hs : SumsOk C sum) {f : FuncId} {fn : Func} {c : Code} (hf : C.P.funcs[f]? = some fn) (hb : fn.body = some c) (hn : (fn.name == "runtime.NumGoroutine") = false)
    (n : Nat) {args : List AV} {Q : AV → Hp → Prop} (h : vc (Kcx C ex sum) n 0 (.code c) (frame0 fn args) [] (retK C fn Q)) : ACalls C f args [] Q :=
  call_of_vc (K := Kcx C ex sum) (H := []) (goodcx hm hs) (fun h => by cases h) n hf hb hn (fun h => by cases h) h
/-- in front of a code: its first parts, run; what they leave leads on -/
theorem cut_seqs (hm : C.P.follows .mixedOrders = true) (hs : SumsOk C sum) (n : Nat) {b : Code} {Q : Post} : ∀ {l : List Code} {F : Fr} {H : Hp}, vcs (Kcx C ex sum) n 0 l F H (thenK (recW C) 0 b Q) → AWp C 0 (seqs l b) F H Q
  | [], F, H, h => by
    simp only [vcs, spnK_eq, thenK, recW] at h
    exact h
  | a :: l, F, H, h => by
    refine AWp.seq (Nat.zero_le _) (AWp.mono (wpcx hm hs n h) fun e F' H' h' => ?_)
    cases e with
    | normal => exact cut_seqs hm hs n h'
    | exit i => exact h'
    | ret => exact h'
/-- a piece: so many parts of the code, by their own run -/
theorem cut_at (hm : C.P.follows .mixedOrders = true) (hs : SumsOk C sum) (n a k b : Nat) (e : a + k = b) {c : Code} {F F' : Fr} {H H' : Hp} {Q : Post} (h : ∀ Q, vcs (Kcx C ex sum) n 0 (takeS k (dropS a c)) F H Q = Q .normal F' H')
    (h' : AWp C 0 (dropS b c) F' H' Q) : AWp C 0 (dropS a c) F H Q := by
  have := cut_seqs hm hs n (ex := ex) (l := takeS k (dropS a c)) (b := dropS k (dropS a c)) (F := F) (H := H) (Q := Q) (by rw [h, dropS_add, e]; exact h')
  rwa [seqs_eq] at this
end
end Go.Am
namespace Go.Am
/-- the same heap, less some blocks -/
def lessH : Hp → Hp → Prop
  | [], _ => True
  | none :: H, _ :: H' => lessH H H'
  | some b :: H, x :: H' => x = some b ∧ lessH H H'
  | _ :: _, [] => False
theorem lessH_get : ∀ {H H' : Hp}, lessH H H' → (H.length ≤ H'.length) ∧ ∀ (i : Nat) b, H[i]? = some (some b) → H'[i]? = some (some b)
  | [], _, _ => ⟨by simp, fun i b h => by simp at h⟩
  | none :: H, _ :: H', h => by
    obtain ⟨h1, h2⟩ := lessH_get (H := H) (H' := H') h
    refine ⟨by simpa using h1, fun i b hi => ?_⟩
    cases i with
    | zero => simp at hi
    | succ i => simpa using h2 i b (by simpa using hi)
  | some x :: H, y :: H', h => by
    obtain ⟨h1, h2⟩ := lessH_get (H := H) (H' := H') h.2
    refine ⟨by simpa using h1, fun i b hi => ?_⟩
    cases i with
    | zero => simp at hi; subst hi; simp [h.1]
    | succ i => simpa using h2 i b (by simpa using hi)
  | some _ :: _, [], h => h.elim
  | none :: _, [], h => h.elim
theorem lessH.refl : ∀ H : Hp, lessH H H
  | [] => trivial
  | none :: H => lessH.refl H
  | some _ :: H => ⟨rfl, lessH.refl H⟩
theorem View.less {m : Nat} {F F' : Fr} {H H' : Hp} (hm : m ≤ H.length) (hl : lessH H H') (hb : hpB H.length H = true) (hf : fv H.length F F') : View m F H F' H' := by
  obtain ⟨l1, l2⟩ := lessH_get hl
  obtain ⟨⟨θ, q1, q2, q3, q4, q5, q6, q7, q8⟩⟩ := View.same (G := []) hm hb hf
  have hg : ∀ i, i < H.length → (List.range H.length).getD i 0 = i := fun i hi => by simp [List.getD, hi]
  obtain ⟨h1, h2⟩ := fv_spec F F' hf
  have hbs := hpB_spec H hb
  refine ⟨List.range H.length, by simp, hm, fun i hi => hg i (by omega), fun i hi => ?_, fun i j b b' h3 h4 he => ?_, fun i b h3 => ?_, h1, fun k v hk => ?_⟩
  · simp at hi; rw [hg i hi]; omega
  · rwa [hg i (List.getElem?_eq_some_iff.1 h3).1, hg j (List.getElem?_eq_some_iff.1 h4).1] at he
  · have hi := (List.getElem?_eq_some_iff.1 h3).1
    refine ⟨b, by rw [hg i hi]; exact l2 i b h3, Nat.le_refl _, rfl, fun k v hk => ?_, fun _ => ⟨rfl, ?_⟩⟩
    rotate_left
    · cases hc : b.cells with
      | nil => rfl
      | cons x l =>
        have hbv : bnd H.length x = true := by
          have := hbs i b h3
          rw [bnds_eq, List.all_eq_true] at this
          exact this x (by rw [hc]; simp)
        simp [ren_range x hbv]
    have hbv : bnd H.length v = true := by
      have := hbs i b h3
      rw [bnds_eq, List.all_eq_true] at this
      exact this v (List.mem_of_getElem? hk)
    refine ⟨by simpa using hbv, .inr ?_⟩
    rw [ren_range v hbv]; exact hk
  · obtain ⟨g1, g2⟩ := h2 k v hk
    refine ⟨by simpa using g1, ?_⟩
    rw [ren_range v g1]; exact g2
end Go.Am
