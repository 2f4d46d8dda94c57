/-
  Methods: a call over one block of its own, told in every heap that has the block.
  A nil list, looked at as an empty one of its own; views that leave the first blocks where they are.
  Arguments, opened by their types.
  Calls over two blocks that they only read.
  Calls over some blocks that they change, leave, or let go.
  Arguments: lists of rows of whole numbers.
  Calls that only read slices, lie they where they may.
  A block that is never written again may be frozen: told as one of the contents that were there before.
  Calls that read slices and lay one new block.
  A call's nil result, looked at as an empty list of its own.
  Loops that go over something, told at one place: the state at their head is a function of the round's number; their summary is for just the state with which they are entered.
  Loops over functions, as they are used: a loop by its iterator's contract, a yield by its assignment and its body.
  Summaries for just the state in which they are asked for: yields, calls, loops, loops over functions (heaps may hold records).
  Places beyond those that are named may be said to hold anything: a reading call proved over them holds.
-/
import Derived.Test.YtnkcfoicbkobbaaBase5
import Derived.Test.YtnkcfoicbkobbaaBase4
import Derived.Test.YtnkcfoicbkobbaaBase3
namespace Go.Am
variable {C : Ctx}

/-- what is behind the blocks that one looks at is let go -/
theorem ACalls.keep {f : FuncId} {args : List AV} {H H1 : Hp} {v1 : AV} {k : Nat} (h : ACalls C f args H fun v H' => v = v1 ∧ H'.take k = H1) (hk : H.length ≤ H1.length) (hb : hpB H1.length H1 = true) (hv : bnd H1.length v1 = true) (hu : v1 ≠ .undef) :
    ACalls C f args H fun v H' => v = v1 ∧ H' = H1 :=
  h.view fun v H' ⟨e1, e2⟩ => ⟨v1, H1, ⟨rfl, rfl⟩, by
    subst e1
    have e : H' = H1 ++ H'.drop k := by rw [← e2, List.take_append_drop]
    rw [e]
    refine View.same hk hb ?_
    cases v <;> first | exact absurd rfl hu | exact ⟨⟨hv, rfl⟩, trivial⟩⟩

/-- a call over one block: in a heap that has it at i -/
theorem meth {f : FuncId} {e : Nat} {cs cs' : List AV} {rest : List AV} {v : AV} {news : List Blk} (h : ACalls C f (.ptr (.rw 0) 0 :: rest) [some ⟨e, cs⟩] fun v' H' => v' = v ∧ H' = some ⟨e, cs'⟩ :: news.map some)
    (hc : bnds 0 cs = true) (hc' : bnds 0 cs' = true) (hr : bnds 0 rest = true) (hv : bnd (1 + news.length) v = true) (hn : ∀ b ∈ news, bnds 0 b.cells = true) {H : Hp} {i : Nat} (hi : H[i]? = some (some ⟨e, cs⟩)) :
    ACalls C f (.ptr (.rw i) 0 :: rest) H fun v' H' => v' = ren (wide [i] H.length news.length) v ∧ H' = H.set i (some ⟨e, cs'⟩) ++ news.map some := by
  have hlt : i < H.length := (List.getElem?_eq_some_iff.1 hi).1
  have key := frame_call h [i] rfl (by simp) (fun j b hj => by
    cases j with
    | zero =>
      simp at hj; subst hj
      refine ⟨_, rfl, bnds_mono (Nat.zero_le _) _ hc, ?_⟩
      simp only [renB, rens_flat _ _ hc]
      simpa using hi
    | succ j => simp at hj) (H := H) (by simp only [bnds, bnd, Bool.and_eq_true]; exact ⟨by simp, bnds_mono (Nat.zero_le _) _ hr⟩) (fun v0 H0' hk => by
    obtain ⟨rfl, rfl⟩ := hk
    refine ⟨by simp, by simpa [Nat.add_comm] using hv, fun j b hj => ?_⟩
    cases j with
    | zero => simp at hj; subst hj; exact bnds_mono (Nat.zero_le _) _ hc'
    | succ j =>
      have : b ∈ news := List.mem_of_getElem? (i := j) (by simpa using hj)
      exact bnds_mono (Nat.zero_le _) _ (hn _ this))
  have ea : rens [i] (.ptr (.rw 0) 0 :: rest) = .ptr (.rw i) 0 :: rest := by
    simp only [rens, ren, rens_flat _ _ hr]; rfl
  rw [ea] at key
  refine key.monoK ?_
  rintro v' H' ⟨v0, H0', ⟨rfl, rfl⟩, rfl, rfl⟩
  have el : (some (⟨e, cs'⟩ : Blk) :: List.map some news).length - [i].length = news.length := by simp
  refine ⟨by rw [el], ?_⟩
  unfold merge
  rw [el]
  simp only [lay, renO, renB, List.length_cons, List.length_nil, Nat.zero_add, List.drop_succ_cons, List.drop_zero, Option.map_some, rens_flat _ _ hc']
  congr 1
  rw [List.map_map]
  refine List.map_congr_left fun b hb => ?_
  simp only [Function.comp, renO, Option.map_some, renB, rens_flat _ _ (hn b hb)]

/-- it writes its block -/
theorem DOut.set1 {f : FuncId} {rest : List EV} {H : DHp} {i : Nat} {e : Nat} {l l' : EL} {v : EV} (hi : H[i]? = some (some ⟨e, l⟩)) (h : ACalls C f (.ptr (.rw 0) 0 :: vVs C.G rest) [some ⟨e, vL C.G l⟩] fun v' H' => v' = vV C.G v ∧ H'.take 1 = [some ⟨e, vL C.G l'⟩])
    (hc : bnds 0 (vL C.G l) = true) (hc' : bnds 0 (vL C.G l') = true) (hr : bnds 0 (vVs C.G rest) = true) (hv : bnd 0 (vV C.G v) = true) (hu : vV C.G v ≠ .undef) : DOut C f (.ptr (.rw i) (.lit 0) :: rest) H v [.set i ⟨e, l'⟩] := by
  have h := h.keep (by simp) (by simp [hpB, bnds_mono (Nat.zero_le _) _ hc']) (bnd_mono (Nat.zero_le _) _ hv) hu
  have := meth (news := []) h hc hc' hr (bnd_mono (Nat.zero_le _) _ hv) (fun b hb => by simp at hb) (vHp_some hi)
  unfold DOut
  simp only [vVs, vV, vR, vN]
  refine this.monoK ?_
  rintro v' H' ⟨rfl, rfl⟩
  refine ⟨ren_flat _ _ hv, ?_⟩
  simp [acts, Hop.act, vHop, vBlk]
/-- it leaves its block as it is -/
theorem DOut.get1 {f : FuncId} {rest : List EV} {H : DHp} {i : Nat} {e : Nat} {l : EL} {v : EV} (hi : H[i]? = some (some ⟨e, l⟩)) (h : ACalls C f (.ptr (.rw 0) 0 :: vVs C.G rest) [some ⟨e, vL C.G l⟩] fun v' H' => v' = vV C.G v ∧ H'.take 1 = [some ⟨e, vL C.G l⟩])
    (hc : bnds 0 (vL C.G l) = true) (hr : bnds 0 (vVs C.G rest) = true) (hv : bnd 0 (vV C.G v) = true) (hu : vV C.G v ≠ .undef) : DOut C f (.ptr (.rw i) (.lit 0) :: rest) H v [] := by
  have := DOut.set1 hi h hc hc hr hv hu
  unfold DOut at this ⊢
  refine this.monoK ?_
  rintro v' H' ⟨rfl, rfl⟩
  refine ⟨rfl, ?_⟩
  simp only [List.map_cons, List.map_nil, acts, Hop.act, vHop]
  have hg := vHp_some (G := C.G) hi
  have hlt : i < (vHp C.G H).length := (List.getElem?_eq_some_iff.1 hg).1
  have : (vHp C.G H)[i] = some (vBlk C.G ⟨e, l⟩) := by
    have := hg
    rw [List.getElem?_eq_getElem hlt] at this
    simpa using this
  rw [← this]
  exact List.set_getElem_self hlt
/-- it leaves its block as it is, and lays one new block -/
theorem DOut.new1 {f : FuncId} {rest : List EV} {H : DHp} {i : Nat} {e e' : Nat} {l l' : EL} {v : EV} {v0 : AV} (hi : H[i]? = some (some ⟨e, l⟩)) (h : ACalls C f (.ptr (.rw 0) 0 :: vVs C.G rest) [some ⟨e, vL C.G l⟩] fun v' H' => v' = v0 ∧ H' = [some ⟨e, vL C.G l⟩, some ⟨e', vL C.G l'⟩])
    (hc : bnds 0 (vL C.G l) = true) (hc' : bnds 0 (vL C.G l') = true) (hr : bnds 0 (vVs C.G rest) = true) (hv : bnd 2 v0 = true) (he : vV C.G v = ren [i, H.length] v0) : DOut C f (.ptr (.rw i) (.lit 0) :: rest) H v [.new ⟨e', l'⟩] := by
  have := meth (news := [⟨e', vL C.G l'⟩]) h hc hc hr hv (fun b hb => by simp at hb; subst hb; exact hc') (vHp_some hi)
  unfold DOut
  simp only [vVs, vV, vR, vN]
  refine this.monoK ?_
  rintro v' H' ⟨rfl, rfl⟩
  refine ⟨?_, ?_⟩
  · rw [he]; simp [wide, vHp_length]
  · simp only [List.map_cons, List.map_nil, acts, Hop.act, vHop, vBlk]
    congr 1
    have hg := vHp_some (G := C.G) hi
    have hlt : i < (vHp C.G H).length := (List.getElem?_eq_some_iff.1 hg).1
    have : (vHp C.G H)[i] = some (vBlk C.G ⟨e, l⟩) := by
      have := hg
      rw [List.getElem?_eq_getElem hlt] at this
      simpa using this
    show (vHp C.G H).set i (some (vBlk C.G ⟨e, l⟩)) = _
    rw [← this]
    exact List.set_getElem_self hlt
end Go.Am
namespace Go.Am

def nilr (k : Nat) (x x' : AV) : Prop := x' = x ∨ (x = .slice true (.rw k) 0 0 ∧ x' = .nils)
def nilrs (k : Nat) : List AV → List AV → Prop
  | [], [] => True
  | x :: l, y :: m => nilr k x y ∧ nilrs k l m
  | _, _ => False
def nilH (k : Nat) : Hp → Hp → Prop
  | [], [] => True
  | none :: H, none :: H' => nilH k H H'
  | some b :: H, some b' :: H' => (b.esz = b'.esz ∧ nilrs k b.cells b'.cells) ∧ nilH k H H'
  | _, _ => False
theorem nilr_refl {k : Nat} (x : AV) : nilr k x x := .inl rfl
theorem nilrs_refl {k : Nat} : ∀ (l : List AV), nilrs k l l
  | [] => trivial
  | x :: l => ⟨nilr_refl x, nilrs_refl l⟩
theorem nilrs_get {k : Nat} : ∀ {l m : List AV}, nilrs k l m → l.length = m.length ∧ ∀ (i : Nat) v, l[i]? = some v → ∃ v', m[i]? = some v' ∧ nilr k v v'
  | [], [], _ => ⟨rfl, fun i v h => by simp at h⟩
  | [], _ :: _, h => h.elim
  | _ :: _, [], h => h.elim
  | x :: l, y :: m, h => by
    obtain ⟨h1, h2⟩ := nilrs_get h.2
    refine ⟨by simp [h1], fun i v hv => ?_⟩
    cases i with
    | zero => simp at hv; subst hv; exact ⟨y, rfl, h.1⟩
    | succ i => simpa using h2 i v (by simpa using hv)
theorem nilH_get {k : Nat} : ∀ {H H' : Hp}, nilH k H H' → H.length = H'.length ∧ ∀ (i : Nat) b, H[i]? = some (some b) → ∃ b', H'[i]? = some (some b') ∧ b.esz = b'.esz ∧ nilrs k b.cells b'.cells
  | [], [], _ => ⟨rfl, fun i v h => by simp at h⟩
  | [], _ :: _, h => h.elim
  | none :: _, [], h => h.elim
  | some _ :: _, [], h => h.elim
  | none :: _, some _ :: _, h => h.elim
  | some _ :: _, none :: _, h => h.elim
  | none :: H, none :: H', h => by
    obtain ⟨h1, h2⟩ := nilH_get (show nilH k H H' from h)
    refine ⟨by simp [h1], fun i v hv => ?_⟩
    cases i with
    | zero => simp at hv
    | succ i => simpa using h2 i v (by simpa using hv)
  | some b :: H, some b' :: H', h => by
    obtain ⟨h1, h2⟩ := nilH_get h.2
    refine ⟨by simp [h1], fun i v hv => ?_⟩
    cases i with
    | zero => simp at hv; subst hv; exact ⟨b', rfl, h.1⟩
    | succ i => simpa using h2 i v (by simpa using hv)
theorem nilr_val {ρ : Env} {x x' : AV} {cv : Value} (h : nilr ρ.rw.length x x') (hv : VR ρ x' cv) : VR (ρ.push none) x cv := by
  rcases h with rfl | ⟨rfl, rfl⟩
  · exact VR.mono (Env.le_push ρ none) _ _ hv
  · simp only [VR] at hv ⊢
    subst hv
    exact ⟨none, 0, rfl, Nat.le_refl _, .inl ⟨rfl, rfl, rfl⟩⟩

theorem nil_rel {C : Ctx} {ρ : Env} {H H' : Hp} {w : World} (e : Nat) (hH : nilH H'.length H H') (h4 : HRel C ρ H' w) : HRel C (ρ.push none) (H ++ [some ⟨e, []⟩]) w := by
  have hl := h4.len
  obtain ⟨hle, hget⟩ := nilH_get hH
  have low : ∀ i, i < H'.length → (ρ.push none).rw[i]? = ρ.rw[i]? := fun i hi => by simp [Env.push, List.getElem?_append_left (show i < ρ.rw.length by omega)]
  have none' : ∀ (i : Nat) x, (ρ.push none).rw[i]? = some (some x) → ρ.rw[i]? = some (some x) := fun i x hx => by
    rcases push_get ρ none i _ hx with ⟨_, h⟩ | ⟨_, h⟩
    · exact h
    · simp at h
  have blk : ∀ (i : Nat) b, (H ++ [some (⟨e, []⟩ : Blk)])[i]? = some (some b) → (i < H'.length ∧ H[i]? = some (some b)) ∨ (i = H'.length ∧ b = ⟨e, []⟩) := fun i b hb => by
    by_cases hi : i < H.length
    · rw [List.getElem?_append_left hi] at hb; exact .inl ⟨by omega, hb⟩
    · rw [List.getElem?_append_right (by omega)] at hb
      have : i = H.length := by have := (List.getElem?_eq_some_iff.1 hb).1; simp at this; omega
      subst this
      simp at hb; exact .inr ⟨hle, hb.symm⟩
  refine ⟨by simp [Env.push, hl, hle], h4.base, fun i x hx => h4.ents i x (none' i x hx), fun i b hb => ?_, fun i j b b' x x' q1 q2 q3 q4 q5 => ?_, fun i b d hr => ⟨(h4.ro i b d hr).1, fun j x e q1 q2 => ?_, (h4.ro i b d hr).2.2⟩, fun D hD => ⟨(h4.df D hD).1, fun i x hx => (h4.df D hD).2.1 i x (none' i x hx), (h4.df D hD).2.2⟩⟩
  · rcases blk i b hb with ⟨hi, hb⟩ | ⟨rfl, rfl⟩
    · rw [low i hi]
      obtain ⟨b', g1, g2, g3⟩ := hget i b hb
      obtain ⟨gl, gg⟩ := nilrs_get g3
      have := h4.live i b' g1
      match hx : ρ.rw[i]?, this with
      | some (some en), this =>
        have hrr : isRec b = isRec b' := by unfold isRec; rw [g2]
        cases hr0 : isRec b' with
        | true =>
          obtain ⟨h1, r, h2, p, ps, a, bd, F, q1, q2, q3, q4, q5, q6, q7⟩ := this.rec hr0
          rw [q1] at g3 gl gg
          obtain ⟨F', hF'⟩ : ∃ F', b.cells = .rcd p ps a bd :: F' := by
            cases hc : b.cells with
            | nil => rw [hc] at gl; simp at gl
            | cons x F' =>
              rw [hc] at g3
              rcases g3.1 with h | ⟨_, h⟩
              · exact ⟨F', by rw [h]⟩
              · simp at h
          refine .ofRec (hrr.trans hr0) ⟨by rw [h1, g2], r, h2, p, ps, a, bd, F', hF', q2, q3, q4, q5, ?_, fun k v hv => ?_⟩
          · rw [hF'] at gl; rw [← q6]; simpa using gl
          · obtain ⟨v', e1, e2⟩ := gg (k + 1) v (by rw [hF']; simpa using hv)
            exact nilr_val (by rw [hl]; exact e2) (q7 k v' (by simpa using e1))
        | false =>
        obtain ⟨h1, cs, ty, fz, h2, h3, h5, h6, h7⟩ := this.cs hr0
        refine .of (hrr.trans hr0) ⟨by rw [h1, g2], cs, ty, fz, h2, h3, by omega, fun k v hv => ?_, h7⟩
        obtain ⟨v', e1, e2⟩ := gg k v hv
        obtain ⟨cv, e3, e4⟩ := h6 k v' e1
        exact ⟨cv, e3, nilr_val (by rw [hl]; exact e2) e4⟩
      | some none, this =>
        have hc : b'.cells = [] := this
        show b.cells = []
        rw [hc] at gl
        exact List.length_eq_zero_iff.1 (by simpa using gl)
    · have : (ρ.push none).rw[H'.length]? = some none := by simp [Env.push, ← hl]
      rw [this]
      rfl
  · have r3 := none' i x q3
    have r4 := none' j x' q4
    have l3 : i < H'.length := by rw [← hl]; exact (List.getElem?_eq_some_iff.1 r3).1
    have l4 : j < H'.length := by rw [← hl]; exact (List.getElem?_eq_some_iff.1 r4).1
    rw [List.getElem?_append_left (by omega)] at q1
    rw [List.getElem?_append_left (by omega)] at q2
    obtain ⟨b1, g1, _⟩ := hget i b q1
    obtain ⟨b2, g2, _⟩ := hget j b' q2
    exact h4.inj i j b1 b2 x x' g1 g2 r3 r4 q5
  · have r2 := none' j e q2
    have l2 : j < H'.length := by rw [← hl]; exact (List.getElem?_eq_some_iff.1 r2).1
    rw [List.getElem?_append_left (by omega)] at q1
    obtain ⟨b1, g1, _⟩ := hget j x q1
    exact (h4.ro i b d hr).2.1 j b1 e g1 r2
theorem nil_frame {C : Ctx} {ρ : Env} {H' : Hp} {w : World} {F F' : Fr} {a : Act} (h4 : HRel C ρ H' w) (hF : nilrs H'.length F F') (h : FRel ρ F' a) : FRel (ρ.push none) F a := by
  obtain ⟨gl, gg⟩ := nilrs_get hF
  refine ⟨h.nod, by rw [gl, h.len], fun i v hv => ?_⟩
  obtain ⟨v', e1, e2⟩ := gg i v hv
  exact nilr_val (by rw [h4.len]; exact e2) (h.val i v' e1)
theorem nil_frm {ρ : Env} {w : World} : Frm ρ w (ρ.push none) w := by
  have none' : ∀ (i : Nat) x, (ρ.push none).rw[i]? = some (some x) → ρ.rw[i]? = some (some x) := fun i x hx => by
    rcases push_get ρ none i _ hx with ⟨_, h⟩ | ⟨_, h⟩
    · exact h
    · simp at h
  exact ⟨rfl, rfl, rfl, Nat.le_refl _, fun _ _ _ => rfl, fun i x hx => .inl ⟨i, x, none' i x hx, rfl⟩, fun _ _ _ h => h, fun _ _ _ h => .inl h, fun _ h => .inl h⟩
/-- A nil list may be looked at as an empty one. -/
theorem AWp.nil {C : Ctx} {m : Nat} {c : Code} {F F' : Fr} {H H' : Hp} {Q : Post} (e : Nat) (hm : m ≤ H'.length) (hF : nilrs H'.length F F') (hH : nilH H'.length H H') (h : AWp C m c F (H ++ [some ⟨e, []⟩]) Q) : AWp C m c F' H' Q := by
  intro r hr ρ a w h4 h5
  have := h r hr (ρ.push none) a w (nil_rel e hH h4) (nil_frame h4 hF h5)
  refine Code.wpIn_mono (fun e' a' w' h => AP.link ?_ nil_frm h) this
  intro i hi
  have : i < ρ.rw.length := by rw [h4.len]; omega
  simp [Env.push, List.getElem?_append_left this]

theorem fixes1 {θ : List Nat} : ∀ i, i < 1 → (0 :: θ).getD i 0 = i := fun i hi => by
  have : i = 0 := by omega
  subst this; rfl
theorem fixes2 {θ : List Nat} : ∀ i, i < 2 → (0 :: 1 :: θ).getD i 0 = i := fun i hi => by
  have : i = 0 ∨ i = 1 := by omega
  rcases this with rfl | rfl <;> rfl
/-- a view that leaves the first blocks where they are -/
theorem View.renM {m : Nat} {θ : List Nat} {F F' : Fr} {H H' : Hp} (hm : m ≤ H.length) (hfix : ∀ i, i < m → θ.getD i 0 = i) (hnd : θ.Nodup) (hb : blks θ H' H.length θ H) (hF : bnds H.length F = true) (hF' : wk (rens θ F) F') : View m F H F' H' := by
  obtain ⟨θ', g1, _, _, g2, g3, g4, g5, g6⟩ := (View.ren hnd hb hF hF').ex
  have hl := blks_len hb
  have hg := blks_get hb
  refine ⟨θ, hl, hm, hfix, fun i hi => (hg i hi).1, fun i j b b' h1 h2 he => ?_, fun i b h => ?_, g5, fun k v hk => ?_⟩
  · have hi : i < θ.length := by rw [hl]; exact (List.getElem?_eq_some_iff.1 h1).1
    have hj : j < θ.length := by rw [hl]; exact (List.getElem?_eq_some_iff.1 h2).1
    simp only [List.getD, List.getElem?_eq_getElem hi, List.getElem?_eq_getElem hj, Option.getD_some] at he
    exact (List.getElem_inj hnd).1 he
  · have hi : i < θ.length := by rw [hl]; exact (List.getElem?_eq_some_iff.1 h).1
    obtain ⟨q1, q2⟩ := (hg i hi).2 b h
    refine ⟨_, q2, by rw [rens_eq]; simp, rfl, fun k v hk => ?_, fun _ => ⟨by rw [rens_eq]; simp, by rw [rens_eq]; simp⟩⟩
    rw [bnds_eq, List.all_eq_true] at q1
    refine ⟨by rw [hl]; exact q1 v (List.mem_of_getElem? hk), .inr ?_⟩
    rw [rens_eq]; simp [hk]
  · rw [bnds_eq, List.all_eq_true] at hF
    refine ⟨by rw [hl]; exact hF v (List.mem_of_getElem? hk), ?_⟩
    rcases wk_get hF' k (Go.Am.ren θ v) (by rw [rens_eq]; simp [hk]) with h | h
    · left
      cases v with
      | undef => rfl
      | ptr r o => cases r <;> simp [Go.Am.ren] at h
      | slice m r o n => cases r <;> simp [Go.Am.ren] at h
      | _ => simp [Go.Am.ren] at h
    · exact .inr h
theorem nilrs_map {k : Nat} {f g : Nat → AV} : ∀ (l : List Nat), (∀ i ∈ l, nilr k (f i) (g i)) → nilrs k (l.map f) (l.map g)
  | [], _ => trivial
  | x :: l, h => ⟨h x (by simp), nilrs_map l fun i hi => h i (by simp [hi])⟩
theorem nilrs_find {k i : Nat} : ∀ (live : List Nat) (vs vs' : List AV), nilrs k vs vs' → nilr k ((((live.zip vs).find? fun p => Nat.beq p.1 i).map (·.2)).getD .undef) ((((live.zip vs').find? fun p => Nat.beq p.1 i).map (·.2)).getD .undef)
  | [], _, _, _ => by simp [nilr]
  | j :: live, [], [], _ => by simp [nilr]
  | j :: live, [], _ :: _, h => h.elim
  | j :: live, _ :: _, [], h => h.elim
  | j :: live, x :: vs, y :: vs', h => by
    simp only [List.zip_cons_cons, List.find?_cons]
    split
    · simpa using h.1
    · exact nilrs_find live vs vs' h.2
theorem nilrs_fl {k N : Nat} {live : List Nat} {vs vs' : List AV} (h : nilrs k vs vs') : nilrs k (fl N live vs) (fl N live vs') :=
  nilrs_map _ fun i _ => nilrs_find live vs vs' h

theorem AWp.pin {C : Ctx} {m m' : Nat} {c : Code} {F : Fr} {H : Hp} {Q : Post} (hm : m' ≤ m) (h : AWp C m c F H Q) : AWp C m' c F H Q := by
  intro r hr ρ a w hH hF
  refine Code.wpIn_mono ?_ (h r hr ρ a w hH hF)
  rintro e a' w' ⟨ae, ρ', F', H', h1, h2, h3, h4⟩
  exact ⟨ae, ρ', F', H', h1, h2, fun i hi => h3 i (by omega), h4⟩
/-- a loop's summary is proved once, for all blocks that stay -/
theorem DLoopOk.of {C : Ctx} {M : Nat} {c : Code} {d : DL} (h : ∀ vs H o, d.S vs H = some o → ∀ n (Q : Ex → List AV → Hp → Prop), lHolds C.G (fun e vs' H' => Q e (vVs C.G vs') (vHp C.G H')) n o →
    AWp C M (.loop c) (fl d.N d.live (vVs C.G vs)) (vHp C.G H) (lv d.N d.live (Lp M Q))) : DLoopOk C M c d :=
  fun m vs H o hm ho n Q hQ => ((h vs H o ho n Q hQ).pin hm).lmono fun e vs H' hl => hl.pin hm

theorem fv_refl {n : Nat} : ∀ (F : Fr), bnds n F = true → fv n F F
  | [], _ => trivial
  | x :: F, h => by
    simp only [bnds, Bool.and_eq_true] at h
    have := fv_refl F h.2
    cases x <;> first | exact this | exact ⟨⟨h.1, rfl⟩, this⟩
theorem bnds_fl {n N : Nat} {live : List Nat} {vs : List AV} (h : bnds n vs = true) : bnds n (fl N live vs) = true := by
  rw [bnds_eq, List.all_eq_true]
  intro v hv
  obtain ⟨i, hi⟩ := List.getElem?_of_mem hv
  rcases fl_get hi with rfl | ⟨j, _, h2⟩
  · rfl
  · rw [bnds_eq, List.all_eq_true] at h
    exact h v (List.mem_of_getElem? h2)
/-- what lies behind the blocks that one looks at may be forgotten ahead of a loop -/
theorem AWp.forget {C : Ctx} {m : Nat} {c : Code} {N : Nat} {live : List Nat} {vs : List AV} {H G : Hp} {Q : Post} (hm : m ≤ H.length) (hb : hpB H.length H = true) (hv : bnds H.length vs = true) (h : AWp C m c (fl N live vs) H Q) : AWp C m c (fl N live vs) (H ++ G) Q :=
  h.pre (View.same hm hb (fv_refl _ (bnds_fl hv)))
end Go.Am
namespace Go
theorem DataW.TrodAll.len {H : Type} {enc : TypeId × Value → H} {P : Program} {w : World} {base : Nat} {spare : Nat → Bool} {held : Bool} : ∀ {ts : List TypeId} {vs : List Value} {ds : List (DataW H)} {ps : List MemPlace}, DataW.TrodAll enc P w base spare held ts vs ds ps → vs.length = ts.length ∧ ds.length = ts.length
  | [], vs, ds, ps, h => by
    obtain ⟨rfl, rfl, rfl⟩ := ChangeShapes.trodAll_nil h
    exact ⟨rfl, rfl⟩
  | t :: ts, vs, ds, ps, h => by
    obtain ⟨v, vs, d, ds, p, q, rfl, rfl, rfl, h1, h2⟩ := ChangeShapes.trodAll_cons h
    have := DataW.TrodAll.len h2
    simp [this]
end Go
namespace Go.Am
section
variable {H : Type} {P : Program} {L : List RoE} {n : Nat} {t e : TypeId} {cs : List AV} {a : AV} {d : DataW H}

theorem TyD.asBool (ht : P.underlying t = some .bool) (h : TyD P L (n + 1) t cs d) : ∃ b, cs = [.bool b] ∧ d = .lit (.bool b) := by unfold TyD at h; rw [ht] at h; exact h
theorem TyD.asInt {k : IntKind} (ht : P.underlying t = some (.int k)) (h : TyD P L (n + 1) t cs d) : ∃ i, cs = [.int k i] ∧ (Lit.int k i).wf = true ∧ d = .lit (.int k i) := by unfold TyD at h; rw [ht] at h; exact h
theorem TyD.asSlice (ht : P.underlying t = some (.slice e)) (h : TyD P L (n + 1) t cs d) : (cs = [.nils] ∧ d = .nil) ∨ ∃ (k : Nat) (ds sp : List (DataW H)) (en : RoE), cs = [.slice false (.ro k) 0 ds.length] ∧ d = .slice ds sp ∧ L[k]? = some en ∧
        en.cells.length = ds.length * P.cellsOf e ∧ ds.length + sp.length ≤ maxLen ∧ ∀ (i : Nat) x, ds[i]? = some x → TyD P L n e ((en.cells.drop (i * P.cellsOf e)).take (P.cellsOf e)) x := by unfold TyD at h; rw [ht] at h; exact h
theorem TyD.asStruct {fs : Array Field} (ht : P.underlying t = some (.struct fs)) (h : TyD P L (n + 1) t cs d) : cs.length = P.cellsOf t ∧ ∃ ds, d = .agg ds ∧ ds.length = fs.size ∧ ∀ (i : Nat) f x, fs[i]? = some f → ds[i]? = some x → TyD P L n f.type ((cs.drop f.offset).take (P.cellsOf f.type)) x := by unfold TyD at h; rw [ht] at h; exact h
theorem TyD.asArray {m : Nat} (ht : P.underlying t = some (.array m e)) (h : TyD P L (n + 1) t cs d) : cs.length = P.cellsOf t ∧ ∃ ds, d = .agg ds ∧ ds.length = m ∧ ∀ (i : Nat) x, ds[i]? = some x → TyD P L n e ((cs.drop (i * P.cellsOf e)).take (P.cellsOf e)) x := by unfold TyD at h; rw [ht] at h; exact h

theorem GL_eq {k : Nat} {en : RoE} (h : L[k]? = some en) : GL L k = en.cells := by simp [GL, h]

theorem wf_u8 {i : Int} (h : (Lit.int .u8 i).wf = true) : 0 ≤ i ∧ i ≤ 255 := by simpa [Lit.wf, IntKind.min, IntKind.max, IntKind.signed, IntKind.bits] using h
theorem wf_u32 {i : Int} (h : (Lit.int .u32 i).wf = true) : 0 ≤ i ∧ i < 4294967296 := by
  have : 0 ≤ i ∧ i ≤ 4294967295 := by simpa [Lit.wf, IntKind.min, IntKind.max, IntKind.signed, IntKind.bits] using h
  omega
theorem wf_i64 {i : Int} (h : (Lit.int .i64 i).wf = true) : -9223372036854775808 ≤ i ∧ i ≤ 9223372036854775807 := by simpa [Lit.wf, IntKind.min, IntKind.max, IntKind.signed, IntKind.bits] using h
theorem wf_u64 {i : Int} (h : (Lit.int .u64 i).wf = true) : 0 ≤ i ∧ i ≤ 18446744073709551615 := by simpa [Lit.wf, IntKind.min, IntKind.max, IntKind.signed, IntKind.bits] using h

/-- a slice of numbers: its cells -/
structure IntsAt (L : List RoE) (kd : IntKind) (k m : Nat) : Prop where
  len : (GL L k).length = m
  ok : okI kd (GL L k) 0 m = true
  wf : ∀ j, j < m → (Lit.int kd (getI (GL L k) j)).wf = true

theorem IntsAt.flat {L : List RoE} {kd : IntKind} {k m : Nat} (h : IntsAt L kd k m) : ∀ v ∈ GL L k, ∃ i, v = .int kd i := by
  intro v hv
  obtain ⟨j, hj⟩ := List.getElem?_of_mem hv
  have hlt : j < m := by rw [← h.len]; exact (List.getElem?_eq_some_iff.1 hj).1
  have := isI_some (okI_get h.ok hlt)
  rw [Nat.zero_add, hj] at this
  exact ⟨_, Option.some.inj this⟩
theorem IntsAt.norw {L : List RoE} {kd : IntKind} {k m : Nat} (h : IntsAt L kd k m) : (GL L k).all norw = true := by
  rw [List.all_eq_true]
  intro v hv
  obtain ⟨i, rfl⟩ := h.flat v hv
  simp [Go.Am.norw]

theorem TyD.asInts {kd : IntKind} (ht : P.underlying t = some (.slice e)) (he : P.underlying e = some (.int kd)) (hc : P.cellsOf e = 1) (h : TyD P L (n + 2) t cs d) :
    (cs = [.nils] ∧ d = .nil) ∨ ∃ (k : Nat) (ds sp : List (DataW H)), cs = [.slice false (.ro k) 0 ds.length] ∧ d = .slice ds sp ∧ ds.length + sp.length ≤ maxLen ∧ IntsAt L kd k ds.length := by
  rcases TyD.asSlice ht h with h | ⟨k, ds, sp, en, h1, h2, h3, h4, h5, h6⟩
  · exact .inl h
  · refine .inr ⟨k, ds, sp, h1, h2, h5, ?_⟩
    rw [hc, Nat.mul_one] at h4
    have key : ∀ j, j < ds.length → ∃ i, en.cells[j]? = some (.int kd i) ∧ (Lit.int kd i).wf = true := fun j hj => by
      obtain ⟨i, g1, g2, _⟩ := TyD.asInt he (h6 j ds[j] (List.getElem?_eq_getElem hj))
      rw [hc, Nat.mul_one] at g1
      refine ⟨i, ?_, g2⟩
      have := congrArg (fun l : List AV => l[0]?) g1
      simp only [List.getElem?_take, List.getElem?_drop, List.getElem?_cons_zero] at this
      simpa using this
    refine ⟨by rw [GL_eq h3, h4], okI_of fun j hj => ?_, fun j hj => ?_⟩
    · obtain ⟨i, g1, _⟩ := key j hj
      rw [GL_eq h3, Nat.zero_add]
      simp [isI, g1]
    · obtain ⟨i, g1, g2⟩ := key j hj
      rw [GL_eq h3]
      simp [getI, g1, g2]

theorem ArgD.slice (ht : P.underlying t = some (.slice e)) (h : ArgD P L n t a d) : TyD P L n t [a] d := by unfold ArgD at h; rw [ht] at h; exact h
theorem ArgD.int {k : IntKind} (ht : P.underlying t = some (.int k)) (h : ArgD P L n t a d) : TyD P L n t [a] d := by unfold ArgD at h; rw [ht] at h; exact h
theorem ArgD.bool (ht : P.underlying t = some .bool) (h : ArgD P L n t a d) : TyD P L n t [a] d := by unfold ArgD at h; rw [ht] at h; exact h
theorem ArgD.struct {fs : Array Field} (ht : P.underlying t = some (.struct fs)) (h : ArgD P L n t a d) : ∃ cs, a = .agg cs ∧ TyD P L n t cs d := by unfold ArgD at h; rw [ht] at h; exact h
theorem ArgD.array {m : Nat} (ht : P.underlying t = some (.array m e)) (h : ArgD P L n t a d) : ∃ cs, a = .agg cs ∧ TyD P L n t cs d := by unfold ArgD at h; rw [ht] at h; exact h
theorem ArgDs.nil {xs : List AV} {ds : List (DataW H)} (h : ArgDs P L n [] xs ds) : xs = [] ∧ ds = [] := by
  match xs, ds, h with
  | [], [], _ => exact ⟨rfl, rfl⟩
theorem ArgDs.cons {ts : List TypeId} {xs : List AV} {ds : List (DataW H)} (h : ArgDs P L n (t :: ts) xs ds) : ∃ x xs' d ds', xs = x :: xs' ∧ ds = d :: ds' ∧ ArgD P L n t x d ∧ ArgDs P L n ts xs' ds' := by
  match xs, ds, h with
  | x :: xs, d :: ds, h => exact ⟨x, xs, d, ds, rfl, rfl, h.1, h.2⟩
/-- beyond the list nothing stands -/
theorem GL_out {L : List RoE} {k : Nat} (h : L.length ≤ k) : GL L k = [] := by simp [GL, h]

/-- nil, as a slice of nothing -/
theorem VR_nils {ρ : Env} {v : Value} (k o : Nat) (h : VR ρ .nils v) : VR ρ (.slice true (.ro k) o 0) v := by
  simp only [VR] at h ⊢
  subst h
  exact ⟨none, 0, rfl, Nat.le_refl _, .inl ⟨rfl, rfl, rfl⟩⟩
theorem VR_may {ρ : Env} {v : Value} {mb : Bool} {r : Ref} {o m : Nat} (h : VR ρ (.slice mb r o m) v) : VR ρ (.slice true r o m) v := by
  simp only [VR] at h ⊢
  obtain ⟨ca, cap, h1, h2, h3⟩ := h
  refine ⟨ca, cap, h1, h2, ?_⟩
  rcases h3 with ⟨h3, h4, _⟩ | h3
  · exact .inl ⟨h3, h4, rfl⟩
  · exact .inr h3
end
end Go.Am
namespace Go.Am
variable {C : Ctx}

theorem vHp_set_same {G : Nat → List AV} {H : DHp} {i : Nat} {b : DBlk} (hi : H[i]? = some (some b)) : (vHp G H).set i (some (vBlk G b)) = vHp G H := by
  have hg := vHp_some (G := G) hi
  have hlt : i < (vHp G H).length := (List.getElem?_eq_some_iff.1 hg).1
  have : (vHp G H)[i] = some (vBlk G b) := by
    have := hg
    rw [List.getElem?_eq_getElem hlt] at this
    simpa using this
  rw [← this]
  exact List.set_getElem_self hlt
/-- it reads two blocks -/
theorem DOut.get2 {f : FuncId} {args0 : List AV} {args : List EV} {H : DHp} {i j : Nat} {b0 b1 : DBlk} {v : EV} (hij : i ≠ j) (hi : H[i]? = some (some b0)) (hj : H[j]? = some (some b1))
    (h : ACalls C f args0 [some (vBlk C.G b0), some (vBlk C.G b1)] fun v' H' => v' = vV C.G v ∧ H'.take 2 = [some (vBlk C.G b0), some (vBlk C.G b1)])
    (h0 : bnds 0 (vL C.G b0.cells) = true) (h1 : bnds 0 (vL C.G b1.cells) = true) (ha : bnds 2 args0 = true) (he : vVs C.G args = rens [i, j] args0) (hv : bnd 0 (vV C.G v) = true) (hu : vV C.G v ≠ .undef) : DOut C f args H v [] := by
  have h := h.keep (by simp) (by simp [hpB, vBlk, bnds_mono (Nat.zero_le _) _ h0, bnds_mono (Nat.zero_le _) _ h1]) (bnd_mono (Nat.zero_le _) _ hv) hu
  have ri : ∀ (b : DBlk), bnds 0 (vL C.G b.cells) = true → renB [i, j] (vBlk C.G b) = vBlk C.G b := fun b hb => by simp only [renB, vBlk, rens_flat _ _ hb]
  have key := frame_call h [i, j] rfl (by simp [hij]) (fun k b hk => by
    match k with
    | 0 => simp at hk; subst hk; exact ⟨_, rfl, bnds_mono (Nat.zero_le _) _ h0, by rw [ri _ h0]; simpa using vHp_some (G := C.G) hi⟩
    | 1 => simp at hk; subst hk; exact ⟨_, rfl, bnds_mono (Nat.zero_le _) _ h1, by rw [ri _ h1]; simpa using vHp_some (G := C.G) hj⟩
    | k + 2 => simp at hk) (H := vHp C.G H) (by simpa using ha) (fun v0 H0' hk => by
    obtain ⟨rfl, rfl⟩ := hk
    refine ⟨Nat.le_refl _, bnd_mono (Nat.zero_le _) _ hv, fun k b hb => ?_⟩
    match k with
    | 0 => simp at hb; subst hb; exact bnds_mono (Nat.zero_le _) _ h0
    | 1 => simp at hb; subst hb; exact bnds_mono (Nat.zero_le _) _ h1
    | k + 2 => simp at hb)
  unfold DOut
  rw [he]
  refine key.monoK ?_
  rintro v' H' ⟨v0, H0', ⟨rfl, rfl⟩, rfl, rfl⟩
  refine ⟨ren_flat _ _ hv, ?_⟩
  simp only [List.map_nil, acts, merge, List.length_cons, List.length_nil, lay, renO, Option.map_some, List.drop_succ_cons, List.drop_nil, List.append_nil]
  have rw' : ∀ (b : DBlk) (θ : List Nat), bnds 0 (vL C.G b.cells) = true → renB θ (vBlk C.G b) = vBlk C.G b := fun b θ hb => by simp only [renB, vBlk, rens_flat _ _ hb]
  rw [rw' _ _ h0, rw' _ _ h1, vHp_set_same hi, vHp_set_same hj]
/-- it reads one block, told of it more than once -/
theorem DOut.get1g {f : FuncId} {args0 : List AV} {args : List EV} {H : DHp} {i : Nat} {b0 : DBlk} {v : EV} (hi : H[i]? = some (some b0))
    (h : ACalls C f args0 [some (vBlk C.G b0)] fun v' H' => v' = vV C.G v ∧ H'.take 1 = [some (vBlk C.G b0)])
    (h0 : bnds 0 (vL C.G b0.cells) = true) (ha : bnds 1 args0 = true) (he : vVs C.G args = rens [i] args0) (hv : bnd 0 (vV C.G v) = true) (hu : vV C.G v ≠ .undef) : DOut C f args H v [] := by
  have h := h.keep (by simp) (by simp [hpB, vBlk, bnds_mono (Nat.zero_le _) _ h0]) (bnd_mono (Nat.zero_le _) _ hv) hu
  have rw' : ∀ (b : DBlk) (θ : List Nat), bnds 0 (vL C.G b.cells) = true → renB θ (vBlk C.G b) = vBlk C.G b := fun b θ hb => by simp only [renB, vBlk, rens_flat _ _ hb]
  have key := frame_call h [i] rfl (by simp) (fun k b hk => by
    match k with
    | 0 => simp at hk; subst hk; exact ⟨_, rfl, bnds_mono (Nat.zero_le _) _ h0, by rw [rw' _ _ h0]; simpa using vHp_some (G := C.G) hi⟩
    | k + 1 => simp at hk) (H := vHp C.G H) (by simpa using ha) (fun v0 H0' hk => by
    obtain ⟨rfl, rfl⟩ := hk
    refine ⟨Nat.le_refl _, bnd_mono (Nat.zero_le _) _ hv, fun k b hb => ?_⟩
    match k with
    | 0 => simp at hb; subst hb; exact bnds_mono (Nat.zero_le _) _ h0
    | k + 1 => simp at hb)
  unfold DOut
  rw [he]
  refine key.monoK ?_
  rintro v' H' ⟨v0, H0', ⟨rfl, rfl⟩, rfl, rfl⟩
  refine ⟨ren_flat _ _ hv, ?_⟩
  simp only [List.map_nil, acts, merge, List.length_cons, List.length_nil, lay, renO, Option.map_some, List.drop_succ_cons, List.drop_nil, List.append_nil]
  rw [rw' _ _ h0, vHp_set_same hi]
/-- it lays one new block -/
theorem DOut.new0 {f : FuncId} {args0 : List AV} {args : List EV} {H : DHp} {b : DBlk} {v : EV} {v0 : AV} (h : ACalls C f args0 [] fun v' H' => v' = v0 ∧ H' = [some (vBlk C.G b)])
    (hb : bnds 0 (vL C.G b.cells) = true) (ha : bnds 0 args0 = true) (he : vVs C.G args = args0) (hv0 : bnd 1 v0 = true) (hv : vV C.G v = ren [H.length] v0) : DOut C f args H v [.new b] := by
  have key := frame_call h [] rfl (by simp) (fun k b hk => by simp at hk) (H := vHp C.G H) (by simpa using ha) (fun v1 H0' hk => by
    obtain ⟨rfl, rfl⟩ := hk
    refine ⟨by simp, hv0, fun k b' hb' => ?_⟩
    match k with
    | 0 => simp at hb'; subst hb'; exact bnds_mono (Nat.zero_le _) _ hb
    | k + 1 => simp at hb')
  unfold DOut
  rw [he, show args0 = rens [] args0 from (rens_flat _ _ ha).symm]
  refine key.monoK ?_
  rintro v' H' ⟨v1, H0', ⟨rfl, rfl⟩, rfl, rfl⟩
  refine ⟨by rw [hv]; simp [wide, vHp_length], ?_⟩
  simp only [List.map_cons, List.map_nil, acts, Hop.act, vHop, merge, lay, List.length_nil, List.drop_zero, renO, Option.map_some]
  congr 2
  simp only [renB, vBlk, rens_flat _ _ hb]
end Go.Am
namespace Go.Am
variable {C : Ctx}
theorem hpB_get {n : Nat} : ∀ {H : Hp}, hpB n H = true → ∀ (i : Nat) b, H[i]? = some (some b) → bnds n b.cells = true
  | [], _, i, b, h => by simp at h
  | none :: H, hb, i, b, h => by
    cases i with
    | zero => simp at h
    | succ i => exact hpB_get (H := H) (by simpa [hpB] using hb) i b (by simpa using h)
  | some b0 :: H, hb, i, b, h => by
    simp only [hpB, Bool.and_eq_true] at hb
    cases i with
    | zero => simp at h; subst h; exact hb.1
    | succ i => exact hpB_get (H := H) hb.2 i b (by simpa using h)
/-- a call in a small heap, told in a larger one -/
theorem DOut.fr {f : FuncId} {args0 : List AV} {args : List EV} {H : DHp} {θ : List Nat} {H0 H1 : Hp} {v0 : AV} {v : EV} {hs : List DHop} (hnd : θ.Nodup) (hl : θ.length = H0.length)
    (hlive : ∀ (i : Nat) b, H0[i]? = some b → ∃ b0, b = some b0 ∧ bnds θ.length b0.cells = true ∧ (vHp C.G H)[θ.getD i 0]? = some (some (renB θ b0)))
    (ha : bnds θ.length args0 = true) (he : vVs C.G args = rens θ args0) (h : ACalls C f args0 H0 fun v' H' => v' = v0 ∧ H' = H1) (hle : H0.length ≤ H1.length) (hv0 : bnd H1.length v0 = true) (hb : hpB H1.length H1 = true)
    (hv : vV C.G v = ren (wide θ H.length (H1.length - θ.length)) v0) (hm : acts (vHp C.G H) (hs.map (vHop C.G)) = merge θ (vHp C.G H) H1) : DOut C f args H v hs := by
  have key := frame_call h θ hl hnd hlive ha (fun v1 H0' hk => by
    obtain ⟨rfl, rfl⟩ := hk
    exact ⟨hle, hv0, hpB_get hb⟩)
  unfold DOut
  rw [he]
  refine key.monoK ?_
  rintro v' H' ⟨v1, H0', ⟨rfl, rfl⟩, rfl, rfl⟩
  exact ⟨by rw [hv, vHp_length], hm.symm⟩
/-- it lets its block go, and lays a new one -/
theorem DOut.app1 {f : FuncId} {args0 : List AV} {args : List EV} {H : DHp} {i : Nat} {b0 b1 : DBlk} {v : EV} {v0 : AV} (hi : H[i]? = some (some b0))
    (h : ACalls C f args0 [some (vBlk C.G b0)] fun v' H' => v' = v0 ∧ H' = [none, some (vBlk C.G b1)])
    (h0 : bnds 0 (vL C.G b0.cells) = true) (h1 : bnds 0 (vL C.G b1.cells) = true) (ha : bnds 1 args0 = true) (he : vVs C.G args = rens [i] args0) (hv0 : bnd 2 v0 = true) (hv : vV C.G v = ren [i, H.length] v0) : DOut C f args H v [.app i b1] := by
  have rw' : ∀ (b : DBlk) (θ : List Nat), bnds 0 (vL C.G b.cells) = true → renB θ (vBlk C.G b) = vBlk C.G b := fun b θ hb => by simp only [renB, vBlk, rens_flat _ _ hb]
  refine DOut.fr (θ := [i]) (by simp) rfl (fun k b hk => ?_) ha he h (by simp) hv0 (by simp [hpB, vBlk, bnds_mono (Nat.zero_le _) _ h1]) (by rw [hv]; simp [wide]) ?_
  · match k with
    | 0 => simp at hk; subst hk; exact ⟨_, rfl, bnds_mono (Nat.zero_le _) _ h0, by rw [rw' _ _ h0]; simpa using vHp_some (G := C.G) hi⟩
    | k + 1 => simp at hk
  · simp [acts, Hop.act, vHop, merge, lay, renO, rw' _ _ h1]
theorem blks_of {θ : List Nat} {H' : Hp} {n : Nat} : ∀ {js : List Nat} {H : Hp}, js.length = H.length → (∀ (i : Nat), i < js.length → js.getD i 0 < H'.length ∧ ∀ b, H[i]? = some (some b) → bnds n b.cells = true ∧ H'[js.getD i 0]? = some (some ⟨b.esz, rens θ b.cells⟩)) → blks θ H' n js H
  | [], [], _, _ => trivial
  | [], _ :: _, h, _ => by simp at h
  | _ :: _, [], h, _ => by simp at h
  | j :: js, none :: H, h, g => ⟨(g 0 (by simp)).1, blks_of (by simpa using h) fun i hi => by simpa using g (i + 1) (by simpa using hi)⟩
  | j :: js, some b :: H, h, g => ⟨(g 0 (by simp)).2 b rfl, blks_of (by simpa using h) fun i hi => by simpa using g (i + 1) (by simpa using hi)⟩
/-- the last block was laid anew -/
theorem View.snoc {m : Nat} {H0 : Hp} {e : Nat} {X : List AV} {F F' : Fr} (hm : m ≤ H0.length) (h0 : hpB 0 H0 = true) (hX : bnds 0 X = true) (hF : bnds (H0.length + 1) F = true) (hF' : wk (rens (List.range H0.length ++ [H0.length + 1]) F) F') :
    View m F (H0 ++ [some ⟨e, X⟩]) F' (H0 ++ [none, some ⟨e, X⟩]) := by
  have hg : ∀ i, i < H0.length → (List.range H0.length ++ [H0.length + 1]).getD i 0 = i := fun i hi => by
    simp [List.getD, List.getElem?_append_left, hi]
  refine View.renM (θ := List.range H0.length ++ [H0.length + 1]) (by simp; omega) (fun i hi => hg i (by omega)) ?_ (blks_of (by simp) fun i hi => ?_) (by simpa using hF) hF'
  · rw [List.nodup_append]
    exact ⟨List.nodup_range, by simp, fun a ha b hb => by simp at ha hb; omega⟩
  · simp only [List.length_append, List.length_range, List.length_cons, List.length_nil] at hi
    by_cases h : i < H0.length
    · rw [hg i h]
      refine ⟨by simp; omega, fun b hb => ?_⟩
      rw [List.getElem?_append_left h] at hb
      have hb0 := hpB_get h0 i b hb
      refine ⟨bnds_mono (Nat.zero_le _) _ hb0, ?_⟩
      rw [List.getElem?_append_left h, hb, rens_flat _ _ hb0]
    · have : i = H0.length := by omega
      subst this
      have e1 : (List.range H0.length ++ [H0.length + 1]).getD H0.length 0 = H0.length + 1 := by simp [List.getD]
      rw [e1]
      refine ⟨by simp, fun b hb => ?_⟩
      simp at hb
      subst hb
      refine ⟨bnds_mono (Nat.zero_le _) _ hX, ?_⟩
      rw [List.getElem?_append_right (by omega), rens_flat _ _ hX]
      simp
theorem lay_same (θ' : List Nat) : ∀ (θ : List Nat) (bs : List (Option Blk)) (H : Hp), (∀ (i : Nat) b, i < θ.length → bs[i]? = some b → H[θ.getD i 0]? = some (renO θ' b)) → lay θ' θ bs H = H
  | [], _, _, _ => by simp [lay]
  | _ :: _, [], _, _ => by simp [lay]
  | j :: θ, b :: bs, H, h => by
    have h0 := h 0 b (by simp) rfl
    have hj : H[j]? = some (renO θ' b) := by simpa using h0
    have hlt : j < H.length := (List.getElem?_eq_some_iff.1 hj).1
    have e : H.set j (renO θ' b) = H := by
      have : H[j] = renO θ' b := by rw [List.getElem?_eq_getElem hlt] at hj; simpa using hj
      rw [← this]; exact List.set_getElem_self hlt
    simp only [lay, e]
    exact lay_same θ' θ bs H fun i b' hi hb => by
      have := h (i + 1) b' (by simpa using hi) (by simpa using hb)
      simpa using this
/-- it reads some blocks and lays a new one -/
theorem DOut.newN {f : FuncId} {args0 : List AV} {args : List EV} {H : DHp} {θ : List Nat} {H0 : Hp} {b : DBlk} {v0 : AV} {v : EV} (hnd : θ.Nodup) (hl : θ.length = H0.length)
    (hlive : ∀ (i : Nat) b, H0[i]? = some b → ∃ b0, b = some b0 ∧ bnds θ.length b0.cells = true ∧ (vHp C.G H)[θ.getD i 0]? = some (some (renB θ b0)))
    (ha : bnds θ.length args0 = true) (he : vVs C.G args = rens θ args0) (h : ACalls C f args0 H0 fun v' H' => v' = v0 ∧ H' = H0 ++ [some (vBlk C.G b)]) (hb : bnds 0 (vL C.G b.cells) = true) (hv0 : bnd (H0.length + 1) v0 = true)
    (hv : vV C.G v = ren (wide θ H.length 1) v0) : DOut C f args H v [.new b] := by
  have hH0 : ∀ (i : Nat) x, H0[i]? = some (some x) → bnds θ.length x.cells = true := fun i x hx => by
    obtain ⟨b0, e, g, _⟩ := hlive i _ hx
    simp at e; subst e; exact g
  have hpb : hpB (H0 ++ [some (vBlk C.G b)]).length (H0 ++ [some (vBlk C.G b)]) = true := by
    have key : ∀ (n : Nat) (A : Hp), (∀ (i : Nat) x, A[i]? = some (some x) → bnds n x.cells = true) → hpB n A = true := by
      intro n A
      induction A with
      | nil => intro _; rfl
      | cons x A ih =>
        intro g
        have := ih fun i y hy => g (i + 1) y (by simpa using hy)
        cases x with
        | none => simpa [hpB] using this
        | some x => simp only [hpB, Bool.and_eq_true]; exact ⟨g 0 x rfl, this⟩
    refine key _ _ fun i x hx => ?_
    by_cases hi : i < H0.length
    · rw [List.getElem?_append_left hi] at hx
      exact bnds_mono (by simp; omega) _ (hH0 i x hx)
    · rw [List.getElem?_append_right (by omega)] at hx
      have : i - H0.length = 0 := by have := (List.getElem?_eq_some_iff.1 hx).1; simp at this; omega
      rw [this] at hx
      simp at hx
      subst hx
      exact bnds_mono (Nat.zero_le _) _ hb
  have hd : (H0 ++ [some (vBlk C.G b)]).length - θ.length = 1 := by simp; omega
  refine DOut.fr hnd hl hlive ha he h (by simp) (by simpa using hv0) hpb (by rw [hd]; exact hv) ?_
  unfold merge
  rw [hd]
  have e1 : lay (wide θ (vHp C.G H).length 1) θ (H0 ++ [some (vBlk C.G b)]) (vHp C.G H) = vHp C.G H := by
    refine lay_same _ _ _ _ fun i x hi hx => ?_
    rw [List.getElem?_append_left (by omega)] at hx
    obtain ⟨b0, rfl, g1, g2⟩ := hlive i x hx
    rw [g2]
    simp only [renO, Option.map_some, renB, rens_wide _ g1]
  rw [e1, hl]
  simp [acts, Hop.act, vHop, renO, renB, vBlk, rens_flat _ _ hb]
end Go.Am
namespace Go.Am
open Go.ChangeShapes Go.WideShapes Go.ChangeAt Go.RowKit
section
variable {H : Type} {P : Program} {L : List RoE} {n : Nat} {t e : TypeId} {cs : List AV} {d : DataW H} {a : AV}
/-- a struct of so many whole numbers of a kind -/
def rowI (P : Program) (e : TypeId) (kd : IntKind) (z : Nat) : Bool :=
  match P.underlying e with
  | some (.struct fs) => Nat.beq fs.size z && (Nat.beq (P.cellsOf e) z && (List.range z).all fun i => match fs[i]? with
    | some f => Nat.beq f.offset i && (Nat.beq (P.cellsOf f.type) 1 && (match P.underlying f.type with
      | some (.int k) => k == kd
      | _ => false))
    | none => false)
  | _ => false
theorem TyD.asRow {kd : IntKind} {z : Nat} (hr : rowI P e kd z = true) (h : TyD P L (n + 2) e cs d) : cs.length = z ∧ ∀ j, j < z → ∃ i, cs[j]? = some (.int kd i) ∧ (Lit.int kd i).wf = true := by
  unfold rowI at hr
  split at hr
  · rename_i fs hu
    simp only [Bool.and_eq_true, List.all_eq_true, List.mem_range] at hr
    obtain ⟨h1, h2, h3⟩ := hr
    obtain ⟨g1, ds, g2, g3, g4⟩ := TyD.asStruct hu h
    rw [Nat.eq_of_beq_eq_true h2] at g1
    refine ⟨g1, fun j hj => ?_⟩
    have hf := h3 j hj
    split at hf
    · rename_i f hfj
      simp only [Bool.and_eq_true] at hf
      obtain ⟨k1, k2, k3⟩ := hf
      split at k3
      · rename_i k hk
        have k3 := eq_of_beq k3
        subst k3
        have hl : j < ds.length := by rw [g3, Nat.eq_of_beq_eq_true h1]; exact hj
        obtain ⟨i, e1, e2, _⟩ := TyD.asInt hk (g4 j f ds[j] hfj (List.getElem?_eq_getElem hl))
        rw [Nat.eq_of_beq_eq_true k1, Nat.eq_of_beq_eq_true k2] at e1
        refine ⟨i, ?_, e2⟩
        have := congrArg (fun l : List AV => l[0]?) e1
        simpa only [List.getElem?_take, List.getElem?_drop, List.getElem?_cons_zero, Nat.add_zero, Nat.lt_one_iff, if_true] using this
      · simp at k3
    · simp at hf
  · simp at hr
/-- a list of rows: some cells that are read alone -/
theorem ArgD.rows {kd : IntKind} {z : Nat} (ht : P.underlying t = some (.slice e)) (hr : rowI P e kd z = true) (h : ArgD P L (n + 3) t a d) :
    ∃ k m, (∀ (ρ : Env) v, VR ρ a v → VR ρ (.slice true (.ro k) 0 m) v) ∧ IntsAt L kd k (m * z) := by
  rcases TyD.asSlice ht (ArgD.slice ht h) with ⟨h1, _⟩ | ⟨k, ds, sp, en, h1, h2, h3, h4, h5, h6⟩
  · simp only [List.cons.injEq, and_true] at h1
    subst h1
    exact ⟨L.length, 0, fun ρ v hv => VR_nils _ _ hv, by rw [GL_out (Nat.le_refl _)]; simp, okI_of fun j hj => by omega, fun j hj => by omega⟩
  · simp only [List.cons.injEq, and_true] at h1
    subst h1
    have hz : P.cellsOf e = z := by
      unfold rowI at hr
      split at hr
      · simp only [Bool.and_eq_true] at hr; exact Nat.eq_of_beq_eq_true hr.2.1
      · simp at hr
    rw [hz] at h4 h6
    have key : ∀ j, j < ds.length * z → ∃ i, en.cells[j]? = some (.int kd i) ∧ (Lit.int kd i).wf = true := fun j hj => by
      have hz0 : 0 < z := by
        rcases Nat.eq_zero_or_pos z with rfl | h0
        · simp at hj
        · exact h0
      have hq : j / z < ds.length := (Nat.div_lt_iff_lt_mul hz0).2 hj
      obtain ⟨_, g2⟩ := TyD.asRow hr (h6 (j / z) ds[j / z] (List.getElem?_eq_getElem hq))
      obtain ⟨i, e1, e2⟩ := g2 (j % z) (Nat.mod_lt _ hz0)
      refine ⟨i, ?_, e2⟩
      rw [List.getElem?_take, if_pos (Nat.mod_lt _ hz0), List.getElem?_drop] at e1
      rw [← e1]
      congr 1
      rw [Nat.mul_comm]
      exact (Nat.div_add_mod j z).symm
    refine ⟨k, ds.length, fun ρ v hv => VR_may hv, by rw [GL_eq h3, h4], okI_of fun j hj => ?_, fun j hj => ?_⟩
    · obtain ⟨i, g1, _⟩ := key j hj
      rw [GL_eq h3, Nat.zero_add]
      simp [isI, g1]
    · obtain ⟨i, g1, g2⟩ := key j hj
      rw [GL_eq h3]
      simp [getI, g1, g2]
theorem ArgD.i64 {k : IntKind} (ht : P.underlying t = some (.int k)) (h : ArgD P L (n + 1) t a d) : ∃ i, a = .int k i ∧ (Lit.int k i).wf = true := by
  obtain ⟨i, h1, h2, _⟩ := TyD.asInt ht (ArgD.int ht h)
  simp only [List.cons.injEq, and_true] at h1
  exact ⟨i, h1, h2⟩
/-- an array of two whole numbers -/
theorem ArgD.two {k : IntKind} (ht : P.underlying t = some (.array 2 e)) (he : P.underlying e = some (.int k)) (hc : P.cellsOf e = 1) (hc' : P.cellsOf t = 2) (h : ArgD P L (n + 2) t a d) : ∃ i j, a = .agg [.int k i, .int k j] ∧ (Lit.int k i).wf = true ∧ (Lit.int k j).wf = true := by
  obtain ⟨cs, rfl, h1⟩ := ArgD.array ht h
  obtain ⟨g1, ds, g2, g3, g4⟩ := TyD.asArray ht h1
  rw [hc'] at g1
  rw [hc] at g4
  match cs, g1, ds, g3 with
  | [x, y], _, [d1, d2], _ =>
    obtain ⟨i, e1, e2, _⟩ := TyD.asInt he (g4 0 d1 rfl)
    obtain ⟨j, e3, e4, _⟩ := TyD.asInt he (g4 1 d2 rfl)
    simp only [Nat.zero_mul, Nat.one_mul, List.drop_zero, List.take_succ_cons, List.take_zero, List.drop_succ_cons, List.cons.injEq, and_true] at e1 e3
    subst e1 e3
    exact ⟨i, j, rfl, e2, e4⟩
end
end Go.Am
namespace Go.Am
variable {C : Ctx}
/-- a slice's cells, and how many elements -/
def rdT (H : DHp) (x : EV) : Option (EL × EN) :=
  match x with
  | .nils => some (.of [], .lit 0)
  | .slice _ (.ro k) (.lit 0) n => some (.ro k, n)
  | .slice _ (.rw i) (.lit 0) n => match H[i]? with
    | some (some b) => match isRecD b with
      | true => none
      | false => some (b.cells, n)
    | _ => none
  | _ => none
theorem rdT_ok {H : DHp} {x : EV} {L : EL} {n : EN} (h : rdT H x = some (L, n)) :
    ∃ r : Ref, (∀ (ρ : Env) v, VR ρ (vV C.G x) v → VR ρ (.slice true r 0 (vN C.G n)) v) ∧ (vL C.G L = [] ∨ cellsAt C (vHp C.G H) r = some (vL C.G L)) := by
  unfold rdT at h
  split at h
  · simp only [Option.some.injEq, Prod.mk.injEq] at h; obtain ⟨rfl, rfl⟩ := h
    exact ⟨.ro 0, fun ρ v hv => VR_nils _ _ (by simpa only [vV] using hv), .inl (by simp only [vL, vVs])⟩
  · simp only [Option.some.injEq, Prod.mk.injEq] at h; obtain ⟨rfl, rfl⟩ := h
    rename_i mb k n'
    refine ⟨.ro (vN C.G k), fun ρ v hv => ?_, .inr (by simp only [cellsAt, vL])⟩
    simp only [vV, vR, vN] at hv
    exact VR_may hv
  · rename_i mb i n'
    split at h
    · rename_i b hb
      split at h
      · simp at h
      · rename_i hr
        simp only [Option.some.injEq, Prod.mk.injEq] at h; obtain ⟨rfl, rfl⟩ := h
        refine ⟨.rw i, fun ρ v hv => ?_, .inr ?_⟩
        · simp only [vV, vR, vN] at hv
          exact VR_may hv
        · have hr : isRec (vBlk C.G b) = false := hr
          simp only [cellsAt, vHp_some hb]
          rw [hr]; rfl
    · simp at h
  · simp at h
theorem flatN {cs : List AV} (h : bnds 0 cs = true ∧ noros cs = true) (j : Nat) (v : AV) (hv : cs[j]? = some v) (σ : Sig) : norw v = true ∧ sb σ 0 v = v := by
  have key : ∀ {l : List AV}, bnds 0 l = true → noros l = true → ∀ v ∈ l, bnd 0 v = true ∧ noro v = true := by
    intro l
    induction l with
    | nil => intro _ _ v hv; simp at hv
    | cons x l ih =>
      intro h1 h2 v hv
      simp only [bnds, noros, Bool.and_eq_true] at h1 h2
      rcases List.mem_cons.1 hv with rfl | hv
      · exact ⟨h1.1, h2.1⟩
      · exact ih h1.2 h2.2 v hv
  obtain ⟨h1, h2⟩ := key h.1 h.2 v (List.mem_of_getElem? hv)
  exact ⟨flat_norw v h1, sb_flat v h2⟩
/-- THE READING CALL -/
theorem DOut.rdN {f : FuncId} {args : List EV} {H : DHp} {v : EV} {σ : Sig} {G' : Nat → List AV} {args0 : List AV} (hs : Sees C (vHp C.G H) σ G') (ha : norws args0 = true) (hw : ∀ (ρ : Env) vs, VRs ρ (vVs C.G args) vs → VRs ρ (sbs σ 0 args0) vs)
    (h : ∀ B, ACalls ⟨C.P, G', B⟩ f args0 [] fun v' _ => v' = vV C.G v) (hv : bnd 0 (vV C.G v) = true ∧ noro (vV C.G v) = true) : DOut C f args H v [] := by
  unfold DOut
  refine ((ro_flat hs h ha rfl (fun v' e => by subst e; exact hv)).weaken hw).monoK ?_
  rintro v' H' ⟨rfl, rfl⟩
  exact ⟨rfl, by simp [acts]⟩
/-- one slice, and plain values -/
theorem DOut.rd1 {f : FuncId} {x : EV} {rest : List EV} {H : DHp} {v : EV} {L : EL} {n : EN} (m : Nat) (hx : rdT H x = some (L, n)) (hf : bnds 0 ((vL C.G L).take m) = true ∧ noros ((vL C.G L).take m) = true) (hr : norws (vVs C.G rest) = true ∧ noros (vVs C.G rest) = true)
    (h : ∀ G B, G 0 = (vL C.G L).take m → ACalls ⟨C.P, G, B⟩ f (.slice true (.ro 0) 0 (vN C.G n) :: vVs C.G rest) [] fun v' _ => v' = vV C.G v) (hv : bnd 0 (vV C.G v) = true ∧ noro (vV C.G v) = true) : DOut C f (x :: rest) H v [] := by
  obtain ⟨r, h1, h2⟩ := rdT_ok (C := C) hx
  refine DOut.rdN (σ := fun _ => (r, 0)) (G' := fun _ => (vL C.G L).take m) (args0 := .slice true (.ro 0) 0 (vN C.G n) :: vVs C.G rest) (fun k => ?_) (by simp [norws, norw, hr.1]) (fun ρ vs hvs => ?_) (fun B => h _ B rfl) hv
  · rcases h2 with h2 | h2
    · exact .inl (by simp [h2])
    · refine .inr ⟨_, h2, fun j v hj => ?_⟩
      obtain ⟨g1, g2⟩ := flatN hf j v hj (fun _ => (r, 0))
      rw [g2]
      rw [List.getElem?_take] at hj
      split at hj
      · exact ⟨g1, by simpa using hj⟩
      · simp at hj
  · simp only [vVs, sbs, sb, VRs] at hvs ⊢
    obtain ⟨v, vs', e, q1, q2⟩ := hvs
    exact ⟨v, vs', e, h1 ρ v q1, by rw [sbs_flat _ hr.2]; exact q2⟩
/-- two slices, and plain values -/
theorem DOut.rd2 {f : FuncId} {x y : EV} {rest : List EV} {H : DHp} {v : EV} {L L' : EL} {n n' : EN} (m m' : Nat) (hx : rdT H x = some (L, n)) (hy : rdT H y = some (L', n')) (hf : bnds 0 ((vL C.G L).take m) = true ∧ noros ((vL C.G L).take m) = true) (hf' : bnds 0 ((vL C.G L').take m') = true ∧ noros ((vL C.G L').take m') = true) (hr : norws (vVs C.G rest) = true ∧ noros (vVs C.G rest) = true)
    (h : ∀ G B, G 0 = (vL C.G L).take m → G 1 = (vL C.G L').take m' → ACalls ⟨C.P, G, B⟩ f (.slice true (.ro 0) 0 (vN C.G n) :: .slice true (.ro 1) 0 (vN C.G n') :: vVs C.G rest) [] fun v' _ => v' = vV C.G v) (hv : bnd 0 (vV C.G v) = true ∧ noro (vV C.G v) = true) : DOut C f (x :: y :: rest) H v [] := by
  obtain ⟨r, h1, h2⟩ := rdT_ok (C := C) hx
  obtain ⟨r', h1', h2'⟩ := rdT_ok (C := C) hy
  have gen : ∀ (σ : Sig) {L : EL} {m : Nat} {r : Ref}, (vL C.G L = [] ∨ cellsAt C (vHp C.G H) r = some (vL C.G L)) → (bnds 0 ((vL C.G L).take m) = true ∧ noros ((vL C.G L).take m) = true) →
      (vL C.G L).take m = [] ∨ ∃ cs, cellsAt C (vHp C.G H) r = some cs ∧ ∀ (j : Nat) v, ((vL C.G L).take m)[j]? = some v → norw v = true ∧ cs[0 + j]? = some (sb σ 0 v) := by
    intro σ L m r h2 hf
    rcases h2 with h2 | h2
    · exact .inl (by simp [h2])
    · refine .inr ⟨_, h2, fun j v hj => ?_⟩
      obtain ⟨g1, g2⟩ := flatN hf j v hj σ
      rw [g2]
      rw [List.getElem?_take] at hj
      split at hj
      · exact ⟨g1, by simpa using hj⟩
      · simp at hj
  refine DOut.rdN (σ := fun k => if k = 0 then (r, 0) else (r', 0)) (G' := fun k => if k = 0 then (vL C.G L).take m else (vL C.G L').take m') (args0 := .slice true (.ro 0) 0 (vN C.G n) :: .slice true (.ro 1) 0 (vN C.G n') :: vVs C.G rest) (fun k => ?_) (by simp [norws, norw, hr.1]) (fun ρ vs hvs => ?_) (fun B => h _ B rfl rfl) hv
  · by_cases hk : k = 0
    · simp only [hk, if_true]; exact gen _ h2 hf
    · simp only [hk, if_false]; exact gen _ h2' hf'
  · simp only [vVs, sbs, sb, VRs] at hvs ⊢
    obtain ⟨v, vs', e, q1, w, vs'', e', q2, q3⟩ := hvs
    exact ⟨v, vs', e, h1 ρ v q1, w, vs'', e', h1' ρ w q2, by rw [sbs_flat _ hr.2]; exact q3⟩
end Go.Am
namespace Go.Am
open Go.RowKit

mutual
def fz (m k : Nat) : AV → AV
  | .ptr (.rw i) off => bif Nat.beq i m then .ptr (.ro k) off else .ptr (.rw i) off
  | .slice mb (.rw i) off len => bif Nat.beq i m then .slice mb (.ro k) off len else .slice mb (.rw i) off len
  | .func f cap => .func f (fzs m k cap)
  | .agg cs => .agg (fzs m k cs)
  | .tup vs => .tup (fzs m k vs)
  | v => v
def fzs (m k : Nat) : List AV → List AV
  | [] => []
  | v :: vs => fz m k v :: fzs m k vs
end

def fzB (m k : Nat) (b : Option Blk) : Option Blk := match b with
  | some b => some ⟨b.esz, fzs m k b.cells⟩
  | none => none
def fzH (m k : Nat) (H : Hp) : Hp := (H.map (fzB m k)).set m none

theorem fzs_eq (m k : Nat) : ∀ l, fzs m k l = l.map (fz m k)
  | [] => by simp [fzs]
  | v :: l => by simp [fzs, fzs_eq m k l]

/-- the environment in which the block e stands for the contents k, too -/
def Env.frz (ρ : Env) (k : Nat) (x : Option Ent) : Env := ⟨ρ.rw, fun i b d => ρ.ro i b d ∨ ∃ e, x = some e ∧ i = k ∧ b = e.blk ∧ d = 0, ρ.dfs⟩

theorem Env.le_frz (ρ : Env) (k : Nat) (x : Option Ent) : ρ.le (ρ.frz k x) := ⟨fun _ _ h => h, fun _ _ _ h => .inl h, fun _ h => h⟩

theorem PtrR_fz {ρ : Env} {m k : Nat} {x : Option Ent} (hx : ρ.rw[m]? = some x) {off : Nat} {v : Value} (h : PtrR ρ (.rw m) off v) : PtrR (ρ.frz k x) (.ro k) off v := by
  obtain ⟨e, h1, rfl⟩ := h
  rw [hx] at h1
  simp at h1; subst h1
  exact ⟨e.blk, 0, .inr ⟨e, rfl, rfl, rfl, rfl⟩, by rw [Nat.zero_add]⟩

theorem SliceR_fz {ρ : Env} {m k : Nat} {x : Option Ent} (hx : ρ.rw[m]? = some x) {mb : Bool} {off len : Nat} {v : Value} (h : SliceR ρ mb (.rw m) off len v) : SliceR (ρ.frz k x) mb (.ro k) off len v := by
  obtain ⟨ca, cap, hv, hl, hc⟩ := h
  refine ⟨ca, cap, hv, hl, ?_⟩
  rcases hc with hc | hc | ⟨e, h1, h2, _⟩
  · exact .inl hc
  · exact .inr (.inl hc)
  · rw [hx] at h1
    simp at h1; subst h1
    exact .inr (.inr ⟨e.blk, 0, .inr ⟨e, rfl, rfl, rfl, rfl⟩, by rw [Nat.zero_add]; exact h2⟩)

mutual
theorem VR_fz {ρ : Env} {m k : Nat} {x : Option Ent} (hx : ρ.rw[m]? = some x) : ∀ (v : AV) (cv : Value), VR ρ v cv → VR (ρ.frz k x) (fz m k v) cv
  | .undef, _, _ => by simp [fz, VR]
  | .bool _, _, h => by simpa [fz, VR] using h
  | .int _ _, _, h => by simpa [fz, VR] using h
  | .str _, _, h => by simpa [fz, VR] using h
  | .nilp, _, h => by simpa [fz, VR] using h
  | .nils, _, h => by simpa [fz, VR] using h
  | .nilf, _, h => by simpa [fz, VR] using h
  | .ptr (.rw i) off, cv, h => by
    simp only [fz]
    cases hi : Nat.beq i m with
    | true =>
      have := Nat.eq_of_beq_eq_true hi
      subst this
      simp only [cond_true, VR] at h ⊢
      exact PtrR_fz hx h
    | false => exact VR.mono (Env.le_frz ρ k x) _ _ h
  | .ptr (.ro i) off, cv, h => by simp only [fz]; exact VR.mono (Env.le_frz ρ k x) _ _ h
  | .slice mb (.rw i) off len, cv, h => by
    simp only [fz]
    cases hi : Nat.beq i m with
    | true =>
      have := Nat.eq_of_beq_eq_true hi
      subst this
      simp only [cond_true, VR] at h ⊢
      exact SliceR_fz hx h
    | false => exact VR.mono (Env.le_frz ρ k x) _ _ h
  | .slice mb (.ro i) off len, cv, h => by simp only [fz]; exact VR.mono (Env.le_frz ρ k x) _ _ h
  | .func f cap, cv, h => by
    simp only [fz, VR] at h ⊢
    obtain ⟨cs, e, hs⟩ := h
    exact ⟨cs, e, VRs_fz hx cap _ hs⟩
  | .agg cap, cv, h => by
    simp only [fz, VR] at h ⊢
    obtain ⟨cs, e, hs⟩ := h
    exact ⟨cs, e, VRs_fz hx cap _ hs⟩
  | .tup cap, cv, h => by
    simp only [fz, VR] at h ⊢
    obtain ⟨cs, e, hs⟩ := h
    exact ⟨cs, e, VRs_fz hx cap _ hs⟩
  | .yld i, cv, h => by simp only [fz]; exact VR.mono (Env.le_frz ρ k x) _ _ h
  | .rcd .., cv, h => by simp only [VR] at h
theorem VRs_fz {ρ : Env} {m k : Nat} {x : Option Ent} (hx : ρ.rw[m]? = some x) : ∀ (l : List AV) (cl : List Value), VRs ρ l cl → VRs (ρ.frz k x) (fzs m k l) cl
  | [], _, h => by simpa [fzs, VRs] using h
  | v :: l, cl, h => by
    simp only [fzs, VRs] at h ⊢
    obtain ⟨y, ys, e, h1, h2⟩ := h
    exact ⟨y, ys, e, VR_fz hx v y h1, VRs_fz hx l ys h2⟩
end

mutual
/-- what names no block of the heap hangs on the read-only places alone -/
theorem VR_norw {ρ ρ' : Env} (h : ∀ i b d, ρ.ro i b d → ρ'.ro i b d) : ∀ (v : AV) (cv : Value), norw v = true → VR ρ v cv → VR ρ' v cv
  | .undef, _, _, _ => by simp [VR]
  | .bool _, _, _, hv => by simpa [VR] using hv
  | .int _ _, _, _, hv => by simpa [VR] using hv
  | .str _, _, _, hv => by simpa [VR] using hv
  | .nilp, _, _, hv => by simpa [VR] using hv
  | .nils, _, _, hv => by simpa [VR] using hv
  | .nilf, _, _, hv => by simpa [VR] using hv
  | .ptr (.rw i) off, _, hb, _ => by simp [norw] at hb
  | .ptr (.ro i) off, cv, _, hv => by
    simp only [VR] at hv ⊢
    obtain ⟨b, d, h1, h2⟩ := hv
    exact ⟨b, d, h _ _ _ h1, h2⟩
  | .slice mb (.rw i) off len, _, hb, _ => by simp [norw] at hb
  | .slice mb (.ro i) off len, cv, _, hv => by
    simp only [VR] at hv ⊢
    obtain ⟨ca, cap, hv, hl, hc⟩ := hv
    refine ⟨ca, cap, hv, hl, ?_⟩
    rcases hc with hc | hc | ⟨b, d, h1, h2⟩
    · exact .inl hc
    · exact .inr (.inl hc)
    · exact .inr (.inr ⟨b, d, h _ _ _ h1, h2⟩)
  | .func f cap, cv, hb, hv => by
    simp only [norw] at hb
    simp only [VR] at hv ⊢
    obtain ⟨cs, e, hs⟩ := hv
    exact ⟨cs, e, VRs_norw h cap _ hb hs⟩
  | .agg cap, cv, hb, hv => by
    simp only [norw] at hb
    simp only [VR] at hv ⊢
    obtain ⟨cs, e, hs⟩ := hv
    exact ⟨cs, e, VRs_norw h cap _ hb hs⟩
  | .tup cap, cv, hb, hv => by
    simp only [norw] at hb
    simp only [VR] at hv ⊢
    obtain ⟨cs, e, hs⟩ := hv
    exact ⟨cs, e, VRs_norw h cap _ hb hs⟩
  | .yld i, cv, hb, _ => by simp [norw] at hb
  | .rcd .., cv, _, hv => by simp only [VR] at hv
theorem VRs_norw {ρ ρ' : Env} (h : ∀ i b d, ρ.ro i b d → ρ'.ro i b d) : ∀ (l : List AV) (cl : List Value), norws l = true → VRs ρ l cl → VRs ρ' l cl
  | [], _, _, hv => by simpa [VRs] using hv
  | v :: l, cl, hb, hv => by
    simp only [norws, Bool.and_eq_true] at hb
    simp only [VRs] at hv ⊢
    obtain ⟨x, xs, e, h1, h2⟩ := hv
    exact ⟨x, xs, e, VR_norw h v x hb.1 h1, VRs_norw h l xs hb.2 h2⟩
end

/-- x may be told as y -/
def Tells (x y : AV) : Prop := ∀ (ρ : Env) cv, VR ρ x cv → VR ρ y cv

/-- the block m of the heap may be told as the contents k -/
def FzOk (C : Ctx) (m k : Nat) (H : Hp) : Prop :=
  ∃ b, H[m]? = some (some b) ∧ isRec b = false ∧ ∀ (j : Nat) v, (C.G k)[j]? = some v → ∃ x, b.cells[j]? = some x ∧ norw x = true ∧ Tells x v

theorem HRel.frz {C : Ctx} {ρ : Env} {H : Hp} {w : World} {m k : Nat} (hH : HRel C ρ H w) (hf : FzOk C m k H) :
    ∃ ρ', ρ.le ρ' ∧ ρ'.rw = ρ.rw ∧ ρ'.dfs = ρ.dfs ∧ HRel C ρ' (fzH m k H) w ∧ Frm ρ w ρ' w ∧ ∀ v cv, VR ρ v cv → VR ρ' (fz m k v) cv := by
  obtain ⟨b, hb, hr, hc⟩ := hf
  have hl := hH.live m b hb
  obtain ⟨x, hx⟩ : ∃ x, ρ.rw[m]? = some x := by
    cases h : ρ.rw[m]? with
    | none => rw [h] at hl; exact hl.elim
    | some x => exact ⟨x, rfl⟩
  have le := Env.le_frz ρ k x
  have key : ∀ (i : Nat) c, (fzH m k H)[i]? = some (some c) → i ≠ m ∧ ∃ c0, H[i]? = some (some c0) ∧ c = ⟨c0.esz, fzs m k c0.cells⟩ := fun i c h => by
    unfold fzH at h
    rw [List.getElem?_set] at h
    by_cases hi : m = i
    · rw [if_pos hi] at h
      split at h <;> simp at h
    · rw [if_neg hi, List.getElem?_map] at h
      obtain ⟨o, ho, h⟩ := Option.map_eq_some_iff.1 h
      cases o with
      | none => simp [fzB] at h
      | some c0 => simp [fzB] at h; exact ⟨fun h => hi h.symm, c0, ho, h.symm⟩
  refine ⟨ρ.frz k x, le, rfl, rfl, ⟨by simp [fzH, Env.frz, hH.len], hH.base, hH.ents, fun i c h => ?_, fun i j c c' e e' h1 h2 h3 h4 h5 => ?_, fun i b1 d hro => ?_, fun D hD => ⟨(hH.df D hD).1, (hH.df D hD).2.1, fun i d hro => ?_⟩⟩,
    ⟨rfl, rfl, rfl, Nat.le_refl _, fun _ _ _ => rfl, fun i e h => .inl ⟨i, e, h, rfl⟩, fun _ _ _ h => .inl h, fun i b1 d hro => ?_, fun _ h => .inl h⟩, fun v cv h => VR_fz hx v cv h⟩
  · obtain ⟨_, c0, h1, rfl⟩ := key i c h
    have hl := hH.live i c0 h1
    show BlkR _ _ (ρ.rw[i]?) _
    match hxi : ρ.rw[i]?, hl with
    | some (some e), hl =>
      have hrr : isRec (⟨c0.esz, fzs m k c0.cells⟩ : Blk) = isRec c0 := rfl
      cases hr0 : isRec c0 with
      | true =>
        obtain ⟨g1, r, g2, p, ps, a, bd, F, q1, q2, q3, q4, q5, q6, q7⟩ := hl.rec hr0
        refine .ofRec (hrr.trans hr0) ⟨g1, r, g2, p, ps, a, bd, F.map (fz m k), by simp only [q1, fzs_eq, List.map_cons, fz], q2, q3, q4, q5, by simpa using q6, fun j v hv => ?_⟩
        simp only [List.getElem?_map, Option.map_eq_some_iff] at hv
        obtain ⟨v0, hv0, rfl⟩ := hv
        exact VR_fz hx v0 _ (q7 j v0 hv0)
      | false =>
        obtain ⟨g1, cs, ty, fz0, g2, g3, g4, g5, g6⟩ := hl.cs hr0
        refine .of (hrr.trans hr0) ⟨g1, cs, ty, fz0, g2, g3, by simpa [fzs_eq] using g4, fun j v hv => ?_, g6⟩
        simp only [fzs_eq, List.getElem?_map, Option.map_eq_some_iff] at hv
        obtain ⟨v0, hv0, rfl⟩ := hv
        obtain ⟨cv, p1, p2⟩ := g5 j v0 hv0
        exact ⟨cv, p1, VR_fz hx v0 cv p2⟩
    | some none, hl =>
      have : c0.cells = [] := hl
      show fzs m k c0.cells = []
      rw [this]; simp [fzs]
    | none, hl => exact hl.elim
  · obtain ⟨_, c0, g1, _⟩ := key i c h1
    obtain ⟨_, c1, g2, _⟩ := key j c' h2
    exact hH.inj i j c0 c1 e e' g1 g2 h3 h4 h5
  · rcases hro with hro | ⟨e, rfl, rfl, rfl, rfl⟩
    · obtain ⟨g1, g2, g3⟩ := hH.ro i b1 d hro
      refine ⟨g1, fun j c e q1 q2 => ?_, fun j v hv => ?_⟩
      · obtain ⟨_, c0, q3, _⟩ := key j c q1
        exact g2 j c0 e q3 q2
      · obtain ⟨cv, q1, q2⟩ := g3 j v hv
        exact ⟨cv, q1, VR.sub (ρ := ⟨[], ρ.ro, []⟩) ⟨fun _ _ h => by simp at h, fun _ _ _ h => Or.inl h⟩ v cv q2⟩
    · rw [hx] at hl
      obtain ⟨g1, cs, ty, fz0, g2, g3, g4, g5, g6⟩ := hl.cs hr
      refine ⟨(hH.ents m e hx).2, fun j c e' q1 q2 hbe => ?_, fun j v hv => ?_⟩
      · obtain ⟨hne, c0, q3, _⟩ := key j c q1
        exact hne (hH.inj j m c0 b e' e q3 hb q2 hx hbe)
      · obtain ⟨y, q1, q2, q3⟩ := hc j v hv
        obtain ⟨cv, q4, q5⟩ := g5 j y q1
        refine ⟨cv, by simp [World.cell?, g2, q4], q3 _ _ (VR_norw (fun i b d h => ?_) y cv q2 q5)⟩
        exact .inl h
  · rcases hro with hro | ⟨e, rfl, rfl, rfl, rfl⟩
    · exact (hH.df _ hD).2.2 i d hro
    · exact (hH.df _ hD).2.1 m e hx rfl
  · rcases hro with hro | ⟨e, rfl, rfl, rfl, rfl⟩
    · exact .inl hro
    · exact .inr (.inl ⟨m, e, hx, rfl⟩)

theorem FRel.frz {ρ ρ' : Env} {m k : Nat} {F : Fr} {a : Act} (h : FRel ρ F a) (hd : ρ'.dfs = ρ.dfs) (hv : ∀ v cv, VR ρ v cv → VR ρ' (fz m k v) cv) : FRel ρ' (fzs m k F) a := by
  refine ⟨by rw [hd]; exact h.nod, by rw [fzs_eq, List.length_map]; exact h.len, fun i v hi => ?_⟩
  rw [fzs_eq, List.getElem?_map, Option.map_eq_some_iff] at hi
  obtain ⟨v0, h0, rfl⟩ := hi
  exact hv _ _ (h.val i v0 h0)

/-- ahead of a piece of code -/
theorem AWp.frz {C : Ctx} {n : Nat} {c : Code} {F : Fr} {H : Hp} {Q : Post} {m k : Nat} (hf : FzOk C m k H) (h : AWp C n c (fzs m k F) (fzH m k H) Q) : AWp C n c F H Q := by
  intro r hr ρ a w hH hF
  obtain ⟨ρ', h1, h2, h3, h4, h5, h6⟩ := hH.frz hf
  have := h r hr ρ' a w h4 (hF.frz h3 h6)
  refine Code.wpIn_mono (fun e a' w' h => AP.link (fun i _ => by rw [h2]) h5 h) this

/-- behind a piece of code -/
theorem AWp.frzQ {C : Ctx} {n : Nat} {c : Code} {F : Fr} {H : Hp} {Q Q' : Post} (h : AWp C n c F H Q) (hq : ∀ e F' H', Q e F' H' → ∃ m k, FzOk C m k H' ∧ Q' e (fzs m k F') (fzH m k H')) : AWp C n c F H Q' := by
  intro r hr ρ a w hH hF
  refine Code.wpIn_mono ?_ (h r hr ρ a w hH hF)
  rintro e a' w' ⟨ae, ρ', F', H', rfl, h2, h3, h4, h5, h6⟩
  obtain ⟨m, k, g1, g2⟩ := hq _ _ _ h2
  obtain ⟨ρ2, q1, q2, q3, q4, q5, q6⟩ := h4.frz g1
  exact ⟨ae, ρ2, _, _, rfl, g2, fun i hi => by rw [q2]; exact h3 i hi, q4, h5.frz q3 q6, h6.trans q5⟩

/-- behind a call -/
theorem ACalls.frz {C : Ctx} {f : FuncId} {args : List AV} {H : Hp} {K K' : AV → Hp → Prop} (h : ACalls C f args H K) (hk : ∀ v H', K v H' → ∃ m k, FzOk C m k H' ∧ K' (fz m k v) (fzH m k H')) : ACalls C f args H K' := by
  refine ⟨h.1, fun ρ w cargs hH hv => (h.2 ρ w cargs hH hv).mono ?_⟩
  rintro e w' ⟨v, cv, ρ', H', rfl, h2, h3, h4, h5, h6⟩
  obtain ⟨m, k, g1, g2⟩ := hk v H' h2
  obtain ⟨ρ2, q1, q2, q3, q4, q5, q6⟩ := h4.frz g1
  exact ⟨_, cv, ρ2, _, rfl, g2, Env.le_trans h3 q1, q4, q6 v cv h5, h6.trans q5⟩

theorem Tells.rfl {x : AV} : Tells x x := fun _ _ h => h

theorem beqF {i m : Nat} (h : i ≠ m) : Nat.beq i m = false := by
  cases hb : Nat.beq i m with
  | true => exact absurd (Nat.eq_of_beq_eq_true hb) h
  | false => rfl
mutual
theorem fz_bnd {n m k : Nat} (hm : n ≤ m) : ∀ v, bnd n v = true → fz m k v = v
  | .undef, _ => by simp [fz]
  | .bool _, _ => by simp [fz]
  | .int _ _, _ => by simp [fz]
  | .str _, _ => by simp [fz]
  | .nilp, _ => by simp [fz]
  | .nils, _ => by simp [fz]
  | .nilf, _ => by simp [fz]
  | .ptr (.rw i) off, h => by
    simp only [bnd, decide_eq_true_eq] at h
    simp only [fz]
    rw [show Nat.beq i m = false from beqF (by omega)]; rfl
  | .ptr (.ro i) off, _ => by simp [fz]
  | .slice mb (.rw i) off len, h => by
    simp only [bnd, decide_eq_true_eq] at h
    simp only [fz]
    rw [show Nat.beq i m = false from beqF (by omega)]; rfl
  | .slice mb (.ro i) off len, _ => by simp [fz]
  | .func f cap, h => by simp only [bnd] at h; simp only [fz, fzs_bnd hm cap h]
  | .agg cs, h => by simp only [bnd] at h; simp only [fz, fzs_bnd hm cs h]
  | .tup cs, h => by simp only [bnd] at h; simp only [fz, fzs_bnd hm cs h]
  | .yld i, h => by simp [fz]
  | .rcd .., _ => by simp [fz]
theorem fzs_bnd {n m k : Nat} (hm : n ≤ m) : ∀ l, bnds n l = true → fzs m k l = l
  | [], _ => by simp [fzs]
  | v :: l, h => by
    simp only [bnds, Bool.and_eq_true] at h
    simp only [fzs, fz_bnd hm v h.1, fzs_bnd hm l h.2]
end
theorem fzH_bnd {n m k : Nat} (hm : n ≤ m) : ∀ H : Hp, hpB n H = true → H.map (fzB m k) = H
  | [], _ => rfl
  | none :: H, h => by
    simp only [hpB] at h
    simp only [List.map_cons, fzB, fzH_bnd hm H h]
  | some b :: H, h => by
    simp only [hpB, Bool.and_eq_true] at h
    simp only [List.map_cons, fzB, fzH_bnd hm H h.2, fzs_bnd hm _ h.1]

/-- A CALL THAT LAYS ONE BLOCK, its result a list of all of it, which may be told as the contents k. -/
theorem ACalls.frz1 {C : Ctx} {f : FuncId} {args : List AV} {H : Hp} {mb : Bool} {n k : Nat} {b : Blk} (hb : hpB H.length H = true) (hr : isRec b = false) (hc : ∀ (j : Nat) v, (C.G k)[j]? = some v → ∃ x, b.cells[j]? = some x ∧ norw x = true ∧ Tells x v)
    (h : ACalls C f args H fun v H' => v = .slice mb (.rw H.length) 0 n ∧ H' = H ++ [some b]) : ACalls C f args H fun v H' => v = .slice mb (.ro k) 0 n ∧ H' = H := by
  have h1 : ACalls C f args H fun v H' => v = .slice mb (.ro k) 0 n ∧ ∃ G, H' = H ++ G := h.frz fun v H' ⟨h1, h2⟩ => by
    subst h1 h2
    refine ⟨H.length, k, ⟨b, by simp, hr, hc⟩, by simp [fz], [none], ?_⟩
    simp [fzH, fzB, fzH_bnd (Nat.le_refl _) H hb]
  exact h1.trim hb (by simp [bnd]) (by simp)
theorem rdF_fzs (m k : Nat) (live : List Nat) (F : Fr) : rdF live (fzs m k F) = fzs m k (rdF live F) := by
  simp only [rdF, fzs_eq, List.map_map]
  congr 1
  funext i
  simp only [Function.comp, List.getD, List.getElem?_map]
  cases F[i]? with
  | none => simp [fz]
  | some v => rfl
/-- behind a piece of code, by its live slots -/
theorem AWp.frzL {C : Ctx} {n : Nat} {c : Code} {F : Fr} {H : Hp} {N : Nat} {live : List Nat} {Q Q' : Ex → List AV → Hp → Prop} (m k : Nat) (h : AWp C n c F H (lv N live Q)) (hq : ∀ e vs H', Q e vs H' → FzOk C m k H' ∧ Q' e (fzs m k vs) (fzH m k H')) : AWp C n c F H (lv N live Q') :=
  h.frzQ fun e F' H' h => by
    obtain ⟨h1, h2⟩ := chk_true h
    obtain ⟨g1, g2⟩ := hq _ _ _ h2
    refine ⟨m, k, g1, ?_⟩
    have hl : (fzs m k F').length = F'.length := by rw [fzs_eq, List.length_map]
    show chk (Nat.beq (fzs m k F').length N) (Q' e (rdF live (fzs m k F')) (fzH m k H'))
    rw [rdF_fzs, hl, h1]
    exact g2
end Go.Am
namespace Go.Am
variable {C : Ctx}
mutual
theorem sb_flatN {σ : Sig} {n : Nat} : ∀ v, norw v = true → noro v = true → sb σ n v = v
  | .ptr (.ro k) o, _, h => by simp [noro] at h
  | .ptr (.rw i) o, h, _ => by simp [norw] at h
  | .slice mb (.ro k) o len, _, h => by simp [noro] at h
  | .slice mb (.rw i) o len, h, _ => by simp [norw] at h
  | .func f cap, h, h' => by simp only [norw, noro] at h h'; simp only [sb, sbs_flatN cap h h']
  | .agg cs, h, h' => by simp only [norw, noro] at h h'; simp only [sb, sbs_flatN cs h h']
  | .tup cs, h, h' => by simp only [norw, noro] at h h'; simp only [sb, sbs_flatN cs h h']
  | .yld i, h, _ => by simp [norw] at h
  | .undef, _, _ => by simp only [sb]
  | .bool b, _, _ => by simp only [sb]
  | .int k n, _, _ => by simp only [sb]
  | .str s, _, _ => by simp only [sb]
  | .nilp, _, _ => by simp only [sb]
  | .nils, _, _ => by simp only [sb]
  | .nilf, _, _ => by simp only [sb]
  | .rcd .., _, _ => by simp only [sb]
theorem sbs_flatN {σ : Sig} {n : Nat} : ∀ l, norws l = true → noros l = true → sbs σ n l = l
  | [], _, _ => by simp only [sbs]
  | v :: l, h, h' => by
    simp only [norws, noros, Bool.and_eq_true] at h h'
    simp only [sbs, sb_flatN v h.1 h'.1, sbs_flatN l h.2 h'.2]
end
theorem DOut.rnN {f : FuncId} {args : List EV} {H : DHp} {v : EV} {v0 : AV} {b : DBlk} {σ : Sig} {G' : Nat → List AV} {args0 : List AV} (hs : Sees C (vHp C.G H) σ G') (ha : norws args0 = true) (hw : ∀ (ρ : Env) vs, VRs ρ (vVs C.G args) vs → VRs ρ (sbs σ 0 args0) vs)
    (h : ∀ B, ACalls ⟨C.P, G', B⟩ f args0 [] fun v' H' => v' = v0 ∧ H' = [some (vBlk C.G b)]) (hn : noro v0 = true) (hb : bnds 0 (vL C.G b.cells) = true ∧ noros (vL C.G b.cells) = true) (hv : vV C.G v = sh H.length v0) : DOut C f args H v [.new b] := by
  unfold DOut
  refine ((ro_new hs h ha rfl (fun v' H' e => ?_)).weaken hw).monoK ?_
  · obtain ⟨rfl, rfl⟩ := e
    refine ⟨hn, fun i b' hi => ?_⟩
    match i, hi with
    | 0, hi => simp at hi; subst hi; exact hb.2
  · rintro v' H' ⟨v1, H1, ⟨rfl, rfl⟩, rfl, rfl⟩
    refine ⟨by rw [hv, vHp_length], ?_⟩
    simp only [acts, List.map_cons, List.map_nil, vHop, Hop.act, List.foldl]
    have e : shB (List.length (vHp C.G H)) (some (vBlk C.G b)) = some (vBlk C.G b) := by
      have e1 := sbs_flatN (σ := fun _ => (.rw 0, 0)) (n := (vHp C.G H).length) _ (flat_norwL _ hb.1) hb.2
      rw [sbs_eq] at e1
      simp only [shB, vBlk]
      rw [show List.map (sh (vHp C.G H).length) (vL C.G b.cells) = vL C.G b.cells from e1]
    rw [e]
/-- one slice, and plain values; a new block -/
theorem DOut.rn1 {f : FuncId} {x : EV} {rest : List EV} {H : DHp} {v : EV} {v0 : AV} {b : DBlk} {L : EL} {n : EN} (m : Nat) (hx : rdT H x = some (L, n)) (hf : bnds 0 ((vL C.G L).take m) = true ∧ noros ((vL C.G L).take m) = true) (hr : norws (vVs C.G rest) = true ∧ noros (vVs C.G rest) = true)
    (h : ∀ G B, G 0 = (vL C.G L).take m → ACalls ⟨C.P, G, B⟩ f (.slice true (.ro 0) 0 (vN C.G n) :: vVs C.G rest) [] fun v' H' => v' = v0 ∧ H' = [some (vBlk C.G b)]) (hn : noro v0 = true) (hb : bnds 0 (vL C.G b.cells) = true ∧ noros (vL C.G b.cells) = true) (hv : vV C.G v = sh H.length v0) : DOut C f (x :: rest) H v [.new b] := by
  obtain ⟨r, h1, h2⟩ := rdT_ok (C := C) hx
  refine DOut.rnN (σ := fun _ => (r, 0)) (G' := fun _ => (vL C.G L).take m) (args0 := .slice true (.ro 0) 0 (vN C.G n) :: vVs C.G rest) (fun k => ?_) (by simp [norws, norw, hr.1]) (fun ρ vs hvs => ?_) (fun B => h _ B rfl) hn hb hv
  · rcases h2 with h2 | h2
    · exact .inl (by simp [h2])
    · refine .inr ⟨_, h2, fun j v hj => ?_⟩
      obtain ⟨g1, g2⟩ := flatN hf j v hj (fun _ => (r, 0))
      rw [g2]
      rw [List.getElem?_take] at hj
      split at hj
      · exact ⟨g1, by simpa using hj⟩
      · simp at hj
  · simp only [vVs, sbs, sb, VRs] at hvs ⊢
    obtain ⟨v, vs', e, q1, q2⟩ := hvs
    exact ⟨v, vs', e, h1 ρ v q1, by rw [sbs_flat _ hr.2]; exact q2⟩
/-- two slices, and plain values; a new block -/
theorem DOut.rn2 {f : FuncId} {x y : EV} {rest : List EV} {H : DHp} {v : EV} {v0 : AV} {b : DBlk} {L L' : EL} {n n' : EN} (m m' : Nat) (hx : rdT H x = some (L, n)) (hy : rdT H y = some (L', n')) (hf : bnds 0 ((vL C.G L).take m) = true ∧ noros ((vL C.G L).take m) = true) (hf' : bnds 0 ((vL C.G L').take m') = true ∧ noros ((vL C.G L').take m') = true) (hr : norws (vVs C.G rest) = true ∧ noros (vVs C.G rest) = true)
    (h : ∀ G B, G 0 = (vL C.G L).take m → G 1 = (vL C.G L').take m' → ACalls ⟨C.P, G, B⟩ f (.slice true (.ro 0) 0 (vN C.G n) :: .slice true (.ro 1) 0 (vN C.G n') :: vVs C.G rest) [] fun v' H' => v' = v0 ∧ H' = [some (vBlk C.G b)]) (hn : noro v0 = true) (hb : bnds 0 (vL C.G b.cells) = true ∧ noros (vL C.G b.cells) = true) (hv : vV C.G v = sh H.length v0) : DOut C f (x :: y :: rest) H v [.new b] := by
  obtain ⟨r, h1, h2⟩ := rdT_ok (C := C) hx
  obtain ⟨r', h1', h2'⟩ := rdT_ok (C := C) hy
  have gen : ∀ (σ : Sig) {L : EL} {m : Nat} {r : Ref}, (vL C.G L = [] ∨ cellsAt C (vHp C.G H) r = some (vL C.G L)) → (bnds 0 ((vL C.G L).take m) = true ∧ noros ((vL C.G L).take m) = true) →
      (vL C.G L).take m = [] ∨ ∃ cs, cellsAt C (vHp C.G H) r = some cs ∧ ∀ (j : Nat) v, ((vL C.G L).take m)[j]? = some v → norw v = true ∧ cs[0 + j]? = some (sb σ 0 v) := by
    intro σ L m r h2 hf
    rcases h2 with h2 | h2
    · exact .inl (by simp [h2])
    · refine .inr ⟨_, h2, fun j v hj => ?_⟩
      obtain ⟨g1, g2⟩ := flatN hf j v hj σ
      rw [g2]
      rw [List.getElem?_take] at hj
      split at hj
      · exact ⟨g1, by simpa using hj⟩
      · simp at hj
  refine DOut.rnN (σ := fun k => if k = 0 then (r, 0) else (r', 0)) (G' := fun k => if k = 0 then (vL C.G L).take m else (vL C.G L').take m') (args0 := .slice true (.ro 0) 0 (vN C.G n) :: .slice true (.ro 1) 0 (vN C.G n') :: vVs C.G rest) (fun k => ?_) (by simp [norws, norw, hr.1]) (fun ρ vs hvs => ?_) (fun B => h _ B rfl rfl) hn hb hv
  · by_cases hk : k = 0
    · simp only [hk, if_true]; exact gen _ h2 hf
    · simp only [hk, if_false]; exact gen _ h2' hf'
  · simp only [vVs, sbs, sb, VRs] at hvs ⊢
    obtain ⟨v, vs', e, q1, w, vs'', e', q2, q3⟩ := hvs
    exact ⟨v, vs', e, h1 ρ v q1, w, vs'', e', h1' ρ w q2, by rw [sbs_flat _ hr.2]; exact q3⟩
end Go.Am
namespace Go.Am
variable {C : Ctx}
def nilT (k : Nat) : AV → AV → Prop
  | .tup xs, .tup ys => nilrs k xs ys
  | x, y => nilr k x y
theorem nilrs_val {ρ : Env} : ∀ {xs ys : List AV} {cv : List Value}, nilrs ρ.rw.length xs ys → VRs ρ ys cv → VRs (ρ.push none) xs cv
  | [], [], _, _, h => h
  | [], _ :: _, _, h, _ => h.elim
  | _ :: _, [], _, h, _ => h.elim
  | x :: xs, y :: ys, cv, h, hv => by
    simp only [VRs] at hv ⊢
    obtain ⟨v, vs, e, h1, h2⟩ := hv
    exact ⟨v, vs, e, nilr_val h.1 h1, nilrs_val h.2 h2⟩
theorem nilT_val {ρ : Env} {x y : AV} {cv : Value} (h : nilT ρ.rw.length x y) (hv : VR ρ y cv) : VR (ρ.push none) x cv := by
  unfold nilT at h
  split at h
  · simp only [VR] at hv ⊢
    obtain ⟨vs, e, hs⟩ := hv
    exact ⟨vs, e, nilrs_val h hs⟩
  · exact nilr_val h hv
theorem ACalls.nil {f : FuncId} {args : List AV} {H : Hp} {K K' : AV → Hp → Prop} (e : Nat) (h : ACalls C f args H K) (hk : ∀ v H', K v H' → K' v H' ∨ ∃ v', K' v' (H' ++ [some ⟨e, []⟩]) ∧ nilH H'.length H' H' ∧ nilT H'.length v' v) : ACalls C f args H K' := by
  refine ⟨h.1, fun ρ w cargs hH hv => (h.2 ρ w cargs hH hv).mono ?_⟩
  rintro ex w' ⟨v, cv, ρ', H', rfl, h2, h3, h4, h5, h6⟩
  rcases hk v H' h2 with g | ⟨v', g1, g2, g3⟩
  · exact ⟨v, cv, ρ', H', rfl, g, h3, h4, h5, h6⟩
  · refine ⟨v', cv, ρ'.push none, _, rfl, g1, ?_, nil_rel e g2 h4, nilT_val (by rw [h4.len]; exact g3) h5, h6.trans nil_frm⟩
    have hl := Env.le_push ρ' none
    refine ⟨fun i x hx => hl.1 i x (h3.1 i x hx), fun i b d h => hl.2 i b d (h3.2 i b d h), fun D hD => hl.3 D (h3.3 D hD)⟩
theorem nilH_refl {k : Nat} : ∀ (H : Hp), nilH k H H
  | [] => trivial
  | none :: H => nilH_refl H
  | some b :: H => ⟨⟨rfl, nilrs_refl _⟩, nilH_refl H⟩
theorem ACalls.conv {f : FuncId} {args : List AV} {H : Hp} {K K' : AV → Hp → Prop} (h : ACalls C f args H K) (hk : ∀ v H', K v H' → ∃ v', K' v' H' ∧ ∀ (ρ : Env) cv, VR ρ v cv → VR ρ v' cv) : ACalls C f args H K' := by
  refine ⟨h.1, fun ρ w cargs hH hv => (h.2 ρ w cargs hH hv).mono ?_⟩
  rintro ex w' ⟨v, cv, ρ', H', rfl, h2, h3, h4, h5, h6⟩
  obtain ⟨v', g1, g2⟩ := hk v H' h2
  exact ⟨v', cv, ρ', H', rfl, g1, h3, h4, g2 _ _ h5, h6⟩
end Go.Am
namespace Go.Am
variable {C : Ctx}
/-- a loop whose state at its head is told by the round's number -/
theorem scan {m : Nat} {c : Code} {N : Nat} {live : List Nat} {Q : Ex → List AV → Hp → Prop} (n : Nat) (st : Nat → List AV) (hp : Nat → Hp)
    (h : ∀ i, i ≤ n → AWp C m c (fl N live (st i)) (hp i) (lv N live fun e vs H => match e with
      | .normal => i < n ∧ ((vs = st (i + 1) ∧ H = hp (i + 1)) ∨ View m (st (i + 1)) (hp (i + 1)) vs H)
      | e => Q e vs H)) : AWp C m (.loop c) (fl N live (st 0)) (hp 0) (lv N live Q) := by
  refine aloop_lv (fun j vs H => ∃ i : Nat, i ≤ n ∧ j = n - i ∧ vs = st i ∧ H = hp i) n ⟨0, by omega, rfl, rfl, rfl⟩ ?_
  rintro j vs H ⟨i, hi, rfl, rfl, rfl⟩
  refine (h i hi).lmono ?_
  intro e vs' H' hq
  match e, hq with
  | .normal, ⟨hin, hq⟩ =>
    refine ⟨n - (i + 1), by omega, ?_⟩
    rcases hq with ⟨rfl, rfl⟩ | hq
    · exact .inl ⟨i + 1, by omega, rfl, rfl, rfl⟩
    · exact .inr ⟨_, _, ⟨i + 1, by omega, rfl, rfl, rfl⟩, hq⟩
  | .ret, hq => exact hq
  | .exit i, hq => exact hq
/-- ... while something is so of all rounds so far -/
theorem scanP {m : Nat} {c : Code} {N : Nat} {live : List Nat} {Q : Ex → List AV → Hp → Prop} (P : Nat → Prop) (n : Nat) (st : Nat → List AV) (hp : Nat → Hp) (h0 : P 0)
    (h : ∀ i, i ≤ n → P i → AWp C m c (fl N live (st i)) (hp i) (lv N live fun e vs H => match e with
      | .normal => i < n ∧ P (i + 1) ∧ ((vs = st (i + 1) ∧ H = hp (i + 1)) ∨ View m (st (i + 1)) (hp (i + 1)) vs H)
      | e => Q e vs H)) : AWp C m (.loop c) (fl N live (st 0)) (hp 0) (lv N live Q) := by
  refine aloop_lv (fun j vs H => ∃ i : Nat, i ≤ n ∧ P i ∧ j = n - i ∧ vs = st i ∧ H = hp i) n ⟨0, by omega, h0, rfl, rfl, rfl⟩ ?_
  rintro j vs H ⟨i, hi, hP, rfl, rfl, rfl⟩
  refine (h i hi hP).lmono ?_
  intro e vs' H' hq
  match e, hq with
  | .normal, ⟨hin, hP', hq⟩ =>
    refine ⟨n - (i + 1), by omega, ?_⟩
    rcases hq with ⟨rfl, rfl⟩ | hq
    · exact .inl ⟨i + 1, by omega, hP', rfl, rfl, rfl⟩
    · exact .inr ⟨_, _, ⟨i + 1, by omega, hP', rfl, rfl, rfl⟩, hq⟩
  | .ret, hq => exact hq
  | .exit i, hq => exact hq

/-! ### is a state just this one? -/
mutual
def sameV : AV → AV → Bool
  | .undef, .undef => true
  | .bool a, .bool b => a == b
  | .int k n, .int k' m => k == k' && n == m
  | .str s, .str t => s == t
  | .nilp, .nilp => true
  | .ptr r o, .ptr r' o' => decide (r = r') && Nat.beq o o'
  | .nils, .nils => true
  | .slice b r o n, .slice b' r' o' n' => b == b' && (decide (r = r') && (Nat.beq o o' && Nat.beq n n'))
  | .nilf, .nilf => true
  | .func f c, .func f' c' => Nat.beq f f' && sameVs c c'
  | .agg c, .agg c' => sameVs c c'
  | .tup c, .tup c' => sameVs c c'
  | .yld i, .yld j => Nat.beq i j
  | _, _ => false
termination_by structural x => x
def sameVs : List AV → List AV → Bool
  | [], [] => true
  | x :: l, y :: k => sameV x y && sameVs l k
  | _, _ => false
termination_by structural x => x
end
mutual
def noRcd : AV → Bool
  | .rcd .. => false
  | .func _ c => noRcds c
  | .agg c => noRcds c
  | .tup c => noRcds c
  | _ => true
def noRcds : List AV → Bool
  | [] => true
  | x :: l => noRcd x && noRcds l
end
mutual
theorem sameV_eq : ∀ x y, sameV x y = true → x = y
  | .undef, y, h => by cases y <;> simp [sameV] at h ⊢
  | .bool a, y, h => by cases y <;> simp [sameV] at h ⊢; exact h
  | .int k n, y, h => by cases y <;> simp [sameV] at h ⊢; exact h
  | .str s, y, h => by cases y <;> simp [sameV] at h ⊢; exact h
  | .nilp, y, h => by cases y <;> simp [sameV] at h ⊢
  | .ptr r o, y, h => by cases y <;> simp [sameV] at h ⊢; exact h
  | .nils, y, h => by cases y <;> simp [sameV] at h ⊢
  | .slice b r o n, y, h => by cases y <;> simp [sameV] at h ⊢; exact h
  | .nilf, y, h => by cases y <;> simp [sameV] at h ⊢
  | .func f c, y, h => by cases y <;> simp [sameV] at h ⊢; exact ⟨h.1, sameVs_eq c _ h.2⟩
  | .agg c, y, h => by cases y <;> simp [sameV] at h ⊢; exact sameVs_eq c _ h
  | .tup c, y, h => by cases y <;> simp [sameV] at h ⊢; exact sameVs_eq c _ h
  | .yld i, y, h => by cases y <;> simp [sameV] at h ⊢; exact h
  | .rcd .., y, h => by cases y <;> simp [sameV] at h
theorem sameVs_eq : ∀ l k, sameVs l k = true → l = k
  | [], k, h => by cases k <;> simp [sameVs] at h ⊢
  | x :: l, k, h => by
    cases k with
    | nil => simp [sameVs] at h
    | cons y k =>
      simp [sameVs] at h ⊢
      exact ⟨sameV_eq x y h.1, sameVs_eq l k h.2⟩
end
mutual
theorem sameV_refl : ∀ x, noRcd x = true → sameV x x = true
  | .undef, h => by simp [sameV]
  | .bool a, h => by simp [sameV]
  | .int k n, h => by simp [sameV]
  | .str s, h => by simp [sameV]
  | .nilp, h => by simp [sameV]
  | .ptr r o, h => by simp [sameV]
  | .nils, h => by simp [sameV]
  | .slice b r o n, h => by simp [sameV]
  | .nilf, h => by simp [sameV]
  | .func f c, h => by simp [sameV]; exact sameVs_refl c (by simpa [noRcd] using h)
  | .agg c, h => by simp [sameV]; exact sameVs_refl c (by simpa [noRcd] using h)
  | .tup c, h => by simp [sameV]; exact sameVs_refl c (by simpa [noRcd] using h)
  | .yld i, h => by simp [sameV]
  | .rcd .., h => by simp [noRcd] at h
theorem sameVs_refl : ∀ l, noRcds l = true → sameVs l l = true
  | [], h => by simp [sameVs]
  | x :: l, h => by
    simp only [noRcds, Bool.and_eq_true] at h
    simp [sameVs, sameV_refl x h.1, sameVs_refl l h.2]
end
def encHB (H : Hp) : List AV := H.map fun b => match b with
  | some b => .tup [.int .i64 (b.esz : Int), .agg b.cells]
  | none => .undef
def encHD (H : DHp) : List EV := H.map fun b => match b with
  | some b => .tup [.int .i64 (.lit (b.esz : Int)), .agg b.cells]
  | none => .undef
theorem encH_ok {G : Nat → List AV} : ∀ H : DHp, vVs G (encHD H) = encHB (vHp G H)
  | [] => rfl
  | none :: H => by
    have := encH_ok (G := G) H
    simp only [encHD, encHB, vHp, List.map_cons, vVs, vV, Option.map_none] at this ⊢
    rw [this]
  | some b :: H => by
    have := encH_ok (G := G) H
    simp only [encHD, encHB, vHp, List.map_cons, vVs, vV, vI, Option.map_some, vBlk] at this ⊢
    rw [this]
theorem encH_inj : ∀ H H' : Hp, encHB H = encHB H' → H = H'
  | [], [], _ => rfl
  | [], _ :: _, h => by simp [encHB] at h
  | _ :: _, [], h => by simp [encHB] at h
  | b :: H, b' :: H', h => by
    simp only [encHB, List.map_cons, List.cons.injEq] at h
    have h2 := encH_inj H H' h.2
    subst h2
    have h1 := h.1
    match b, b', h1 with
    | none, none, _ => rfl
    | none, some b', h1 => simp at h1
    | some b, none, h1 => simp at h1
    | some ⟨e, c⟩, some ⟨e', c'⟩, h1 =>
      simp at h1
      obtain ⟨h3, h4⟩ := h1
      have : e = e' := by omega
      subst this; subst h4; rfl
/-- is the state just this one? -/
def stIs (vs0 : List AV) (H0 : Hp) : List AV → Bool := fun xs => match xs with
  | [.agg vs, .agg hs] => sameVs vs vs0 && sameVs hs (encHB H0)
  | _ => false
theorem stIs_eq {vs0 vs : List AV} {H0 H : Hp} (h : stIs vs0 H0 [.agg vs, .agg (encHB H)] = true) : vs = vs0 ∧ H = H0 := by
  simp only [stIs, Bool.and_eq_true] at h
  exact ⟨sameVs_eq _ _ h.1, encH_inj _ _ (sameVs_eq _ _ h.2)⟩
theorem stIs_refl {vs0 : List AV} {H0 : Hp} (h : noRcds vs0 = true) (h' : noRcds (encHB H0) = true) : stIs vs0 H0 [.agg vs0, .agg (encHB H0)] = true := by
  simp only [stIs, Bool.and_eq_true]
  exact ⟨sameVs_refl _ h, sameVs_refl _ h'⟩
/-- ... where something holds -/
def stQ (c : Bool) (vs0 : List AV) (H0 : Hp) : List AV → Bool := fun xs => c && stIs vs0 H0 xs
theorem stQ_refl {c : Bool} {vs0 : List AV} {H0 : Hp} (hc : c = true) (h : noRcds vs0 = true) (h' : noRcds (encHB H0) = true) : stQ c vs0 H0 [.agg vs0, .agg (encHB H0)] = true := by
  simp only [stQ, Bool.and_eq_true]
  exact ⟨hc, stIs_refl h h'⟩
theorem noRcds_app : ∀ {l k : List AV}, noRcds l = true → noRcds k = true → noRcds (l ++ k) = true
  | [], k, _, h => h
  | x :: l, k, h, h' => by
    simp only [noRcds, Bool.and_eq_true, List.cons_append] at h ⊢
    exact ⟨h.1, noRcds_app h.2 h'⟩
theorem noRcd_int {k : IntKind} {n : Int} : noRcd (.int k n) = true := rfl
theorem noRcds_of {l : List AV} (h : ∀ v ∈ l, noRcd v = true) : noRcds l = true := by
  induction l with
  | nil => rfl
  | cons x l ih => simp [noRcds, h x (by simp), ih fun v hv => h v (by simp [hv])]

/-- what a loop's outcome says behind it -/
def LOut.post (G : Nat → List AV) (m : Nat) : LOut → Ex → List AV → Hp → Prop
  | .one e vs H => fun e' vs' H' => e' = e ∧ ((wk (vVs G vs) vs' ∧ H' = vHp G H) ∨ View m (vVs G vs) (vHp G H) vs' H')
  | .tst b x y => fun e' vs' H' => (vB G b = true ∧ x.post G m e' vs' H') ∨ (vB G b = false ∧ y.post G m e' vs' H')
  | .chk _ x => x.post G m
  | _ => fun _ _ _ => False
theorem post_holds {G : Nat → List AV} {m : Nat} {Q : Ex → List AV → Hp → Prop} {e : Ex} {vs : List AV} {H : Hp} : ∀ (o : LOut) (n : Nat), lHolds G (fun e vs' H' => Q e (vVs G vs') (vHp G H')) n o → o.post G m e vs H → Lp m Q e vs H
  | .one e' vs' H', n, h, hp => by
    simp only [lHolds] at h
    obtain ⟨rfl, hp⟩ := hp
    rcases hp with ⟨h1, rfl⟩ | hp
    · exact .inl ⟨_, h1, h⟩
    · exact .inr ⟨_, _, hp, h⟩
  | .tst b x y, n, h, hp => by
    simp only [lHolds] at h
    rcases hp with ⟨hb, hp⟩ | ⟨hb, hp⟩
    · exact post_holds x n (h.1 hb) hp
    · exact post_holds y n (h.2 hb) hp
  | .chk b x, n, h, hp => by
    simp only [lHolds] at h
    exact post_holds x n h.2 hp
  | .imp .., n, h, hp => hp.elim
  | .allI .., n, h, hp => hp.elim
  | .allN .., n, h, hp => hp.elim
  | .allB .., n, h, hp => hp.elim
  | .allL .., n, h, hp => hp.elim
  | .namI .., n, h, hp => hp.elim
  | .namN .., n, h, hp => hp.elim
  | .namB .., n, h, hp => hp.elim
  | .namL .., n, h, hp => hp.elim
/-- the loop with this exit, entered in one state: j names the question whether it is that state -/
def DLat (j : Nat) (q : List AV → Bool) (ex N : Nat) (live : List Nat) (o : LOut) : DL :=
  ⟨ex, N, live, fun vs H => some (.chk (.uf j q [.agg (.of vs), .agg (.of (encHD H))]) o)⟩
theorem DLat_ok {M : Nat} {c : Code} {j : Nat} {ex N : Nat} {live : List Nat} {o : LOut} {vs0 : List AV} {H0 : Hp} {q : List AV → Bool} {cb : Bool} (hq : q = stQ cb vs0 H0)
    (h : cb = true → AWp C M (.loop c) (fl N live vs0) H0 (lv N live (o.post C.G M))) : DLoopOk C M c (DLat j q ex N live o) := by
  refine .of fun vs H o' ho n Q hQ => ?_
  simp only [DLat, Option.some.injEq] at ho
  subst ho
  obtain ⟨h1, h2⟩ := hQ
  simp only [vB, vVs, vV, vL, encH_ok] at h1
  rw [hq] at h1
  simp only [stQ, Bool.and_eq_true] at h1
  obtain ⟨e1, e2⟩ := stIs_eq h1.2
  rw [e1, e2]
  exact (h h1.1).lmono fun e vs H hp => post_holds o n h2 hp
theorem DLoopsOk.miss {M : Nat} {c : Code} {cs : List Code} {l : List DL} {i : Nat} (he : exOf c = some i) (hp : dpick i l = none) (k : DLoopsOk C M cs (dloops l)) : DLoopsOk C M (c :: cs) (dloops l) := by
  intro m c' F H o hm hc ho n Q hQ
  rcases List.mem_cons.1 hc with rfl | hc
  · obtain ⟨d', h1, _⟩ := dloops_pick he l ho
    rw [hp] at h1; cases h1
  · exact k m c' F H o hm hc ho n Q hQ
/-- a result that stands in one block, behind others that nobody sees; nil: an empty one -/
theorem ACalls.one {f : FuncId} {args : List AV} {K : AV → Hp → Prop} {v0 : AV} {b : Blk} (h : ACalls C f args [] K) (hb : bnds 0 b.cells = true) (hv : bnd 1 v0 = true) (hu : ∀ j, ren [j] v0 ≠ .undef)
    (hk : ∀ v H', K v H' → (∃ j, H'[j]? = some (some b) ∧ v = ren [j] v0) ∨ (b.cells = [] ∧ nilT H'.length (ren [H'.length] v0) v)) : ACalls C f args [] fun v H' => v = v0 ∧ H' = [some b] := by
  have h1 := ACalls.nil (K' := fun v H' => ∃ j, H'[j]? = some (some b) ∧ v = ren [j] v0) b.esz h (fun v H' hK => by
    rcases hk v H' hK with h | ⟨h1, h2⟩
    · exact .inl h
    · refine .inr ⟨_, ⟨H'.length, ?_, rfl⟩, nilH_refl _, h2⟩
      rw [List.getElem?_append_right (Nat.le_refl _), Nat.sub_self]
      obtain ⟨e, cs⟩ := b
      simp only at h1; subst h1; rfl)
  refine h1.view fun v H' hj => ⟨v0, [some b], ⟨rfl, rfl⟩, ?_⟩
  obtain ⟨j, hj, rfl⟩ := hj
  have hjl : j < H'.length := (List.getElem?_eq_some_iff.1 hj).1
  refine View.ren (θ := [j]) (by simp) ⟨⟨bnds_mono (Nat.zero_le _) _ hb, ?_⟩, trivial⟩ (by simp [bnds, hv]) ?_
  · rw [rens_flat _ _ hb]
    exact hj
  · simp only [rens]
    have := hu j
    cases hr : ren [j] v0 <;> simp_all [wk]
/-- it writes the block that it is handed a slice of, or a place in -/
theorem DOut.set1g {f : FuncId} {args0 : List AV} {args : List EV} {H : DHp} {i : Nat} {b0 b1 : DBlk} {v : EV} {v0 : AV} (hi : H[i]? = some (some b0))
    (h : ACalls C f args0 [some (vBlk C.G b0)] fun v' H' => v' = v0 ∧ H'.take 1 = [some (vBlk C.G b1)])
    (h0 : bnds 0 (vL C.G b0.cells) = true) (h1 : bnds 0 (vL C.G b1.cells) = true) (ha : bnds 1 args0 = true) (he : vVs C.G args = rens [i] args0) (hv : bnd 1 v0 = true) (hu : v0 ≠ .undef) (hvv : vV C.G v = ren [i] v0) : DOut C f args H v [.set i b1] := by
  have h := h.keep (by simp) (by simp [hpB, vBlk, bnds_mono (Nat.zero_le _) _ h1]) hv hu
  have rw' : ∀ (b : DBlk) (θ : List Nat), bnds 0 (vL C.G b.cells) = true → renB θ (vBlk C.G b) = vBlk C.G b := fun b θ hb => by simp only [renB, vBlk, rens_flat _ _ hb]
  have key := frame_call h [i] rfl (by simp) (fun k b hk => by
    match k with
    | 0 => simp at hk; subst hk; exact ⟨_, rfl, bnds_mono (Nat.zero_le _) _ h0, by rw [rw' _ _ h0]; simpa using vHp_some (G := C.G) hi⟩
    | k + 1 => simp at hk) (H := vHp C.G H) (by simpa using ha) (fun v1 H0' hk => by
    obtain ⟨rfl, rfl⟩ := hk
    refine ⟨Nat.le_refl _, hv, fun k b hb => ?_⟩
    match k with
    | 0 => simp at hb; subst hb; exact bnds_mono (Nat.zero_le _) _ h1
    | k + 1 => simp at hb)
  unfold DOut
  rw [he]
  refine key.monoK ?_
  rintro v' H' ⟨v1, H0', ⟨rfl, rfl⟩, rfl, rfl⟩
  refine ⟨?_, ?_⟩
  · rw [hvv]; simp [wide]
  · simp only [List.map_cons, List.map_nil, acts, merge, List.length_cons, List.length_nil, lay, renO, Option.map_some, List.drop_succ_cons, List.drop_nil, List.append_nil, vHop, Hop.act, List.foldl]
    rw [rw' _ _ h1]
/-- a nil list among the live slots may be looked at as an empty one -/
theorem AWp.nilL {m : Nat} {c : Code} {N : Nat} {live : List Nat} {H : Hp} {Q : Post} {vs : List AV} (vs' : List AV) (e : Nat) (hm : m ≤ H.length) (hv : nilrs H.length vs' vs) (h : AWp C m c (fl N live vs') (H ++ [some ⟨e, []⟩]) Q) : AWp C m c (fl N live vs) H Q :=
  AWp.nil e hm (nilrs_fl hv) (nilH_refl H) h
end Go.Am
namespace Go.Am
variable {C : Ctx}
/-- a loop over a function, by its iterator's contract -/
theorem AWp.rng {m : Nat} {F : Fr} {H : Hp} {g : Operand} {ps : Array Tmp} {as bd : Code} {f : FuncId} {cap : List AV} {Q0 : Post} (hm : m ≤ H.length) (hg : ev F g = .func f cap)
    (call : ACalls C f (.yld H.length :: cap) (H ++ [some ⟨4294967291, .rcd 0 ps as bd :: F⟩]) (rngEnd H.length F Q0)) : AWp C m (.rangeFunc g ps as bd) F H Q0 := by
  intro r hr ρ a w hH hF
  cases r with
  | none => exact rng_sound hm hH hF hg call
  | some r => simp [okR, noRange] at hr
/-- a yield, by what is assigned and by the body -/
theorem AYld.of {i : Nat} {args : List AV} {H : Hp} {e : Nat} {ps : Array Nat} {as bd : Code} {F0 : Fr} {R : AV → Hp → Prop} (hi : H[i]? = some (some ⟨e, .rcd 0 ps as bd :: F0⟩)) (he : Nat.beq e 4294967291 = true) (hl : args.length = ps.size) (na : noRange as = true) (nb : noRange bd = true) {Q1 Q2 : Post}
    (A : AWp C H.length as (setsP F0 ps.toList args) H Q1)
    (B : ∀ ex F1 H1, H.length ≤ H1.length → Q1 ex F1 H1 → ex = .normal ∧ ∃ e ps' as' bd' F', H1[i]? = some (some ⟨e, .rcd 0 ps' as' bd' :: F'⟩) ∧ Nat.beq e 4294967291 = true ∧ AWp C H.length bd F1 (H1.set i (some ⟨e, .rcd 1 ps' as' bd' :: F'⟩)) Q2)
    (E : ∀ ex F2 H2, H.length ≤ H2.length → Q2 ex F2 H2 → ∃ e ps' as' bd' F', H2[i]? = some (some ⟨e, .rcd 1 ps' as' bd' :: F'⟩) ∧ Nat.beq e 4294967291 = true ∧ R (.bool (isNormal ex)) (H2.set i (some ⟨e, .rcd (stEx ex) ps' as' bd' :: F'⟩))) : AYld C i args H R := by
  intro ρ F w a o r next Q hH hF ho hn
  refine yld_sound hH hF ho hi he hl (fun r ρ a w hH hF => A (some r) na ρ a w hH hF) (fun ex F1 H1 hm hq => ?_) E hn
  obtain ⟨h1, e, ps', as', bd', F', h2, h3, h4⟩ := B ex F1 H1 hm hq
  exact ⟨h1, e, ps', as', bd', F', h2, h3, fun r ρ a w hH hF => h4 (some r) nb ρ a w hH hF⟩
/-- a yield through a view -/
theorem AYld.view {i : Nat} {args : List AV} {H : Hp} {K K' : AV → Hp → Prop} (h : AYld C i args H K) (hk : ∀ v H', K v H' → ∃ v' H'', K' v' H'' ∧ View H.length [v'] H'' [v] H') : AYld C i args H K' := by
  intro ρ F w a o r next Q hH hF ho hn
  refine h ρ F w a o r next Q hH hF ho ?_
  intro v H' ρ' cv w' h2 h4 h5 h3 h6
  obtain ⟨v', H'', g1, g2⟩ := hk v H' h2
  obtain ⟨ρ2, q1, q2, q3, q4, q5⟩ := g2.use' (a := ⟨#[cv], []⟩) h4 ⟨⟨[], rfl, List.nodup_nil, fun _ h => by simp at h⟩, rfl, fun i x hx => by
    cases i with
    | zero => simp at hx; subst hx; simpa using h5
    | succ i => simp at hx⟩
  refine hn v' H'' ρ2 cv w' g1 q1 (by have := q2.val 0 v' rfl; simpa using this) ?_ (h6.trans q4)
  refine ⟨fun i x hx => ?_, fun i b d h => q4.ro i b d (h3.2 i b d h), fun D hD => by rw [q5]; exact h3.3 D hD⟩
  have hi : i < ρ.rw.length := (List.getElem?_eq_some_iff.1 hx).1
  rw [q3 i (by rw [← hH.len]; exact hi)]
  exact h3.1 i x hx
/-- behind a yield what was laid in its round is forgotten -/
theorem AYld.trim {i : Nat} {args : List AV} {H : Hp} {K : AV → Hp → Prop} {b : Bool} {H1 : Hp} (hm : H.length ≤ H1.length) (hb : hpB H1.length H1 = true) (h : AYld C i args H fun v H' => v = .bool b ∧ ∃ G, H' = H1 ++ G) (hk : K (.bool b) H1) : AYld C i args H K :=
  h.view fun v H' ⟨h1, G, h2⟩ => ⟨.bool b, H1, hk, by
    subst h1 h2
    exact View.same hm hb ⟨⟨rfl, rfl⟩, trivial⟩⟩
theorem AYld.mono {i : Nat} {args : List AV} {H : Hp} {K K' : AV → Hp → Prop} (h : AYld C i args H K) (hk : ∀ v H', K v H' → K' v H') : AYld C i args H K' :=
  fun ρ F w a o r next Q hH hF ho hn => h ρ F w a o r next Q hH hF ho fun v H' ρ' cv w' h1 => hn v H' ρ' cv w' (hk v H' h1)
/-- a yield, run: its assignment, then its body -/
theorem AYld.dx {K : DCfg} {f1 f2 n1 n2 N : Nat} {live : List Nat} {i e : Nat} {args : List AV} {ps : Array Nat} {ac bd : Code} {F0 : Fr} {vs vs1 : List EV} {H H1 H2 : DHp} {R : AV → Hp → Prop} (ka : DGood C K (loopsOf ac)) (kb : DGood C K (loopsOf bd))
    (hi : (vHp C.G H)[i]? = some (some ⟨e, .rcd 0 ps ac bd :: F0⟩)) (he : Nat.beq e 4294967291 = true) (hl : args.length = ps.size) (na : noRange ac = true) (nb : noRange bd = true) (hF : setsP F0 ps.toList args = fl N live (vVs C.G vs))
    (A : vT C.G (fun ex ws H' => ex = .normal ∧ ws = vVs C.G vs1 ∧ H' = vHp C.G H1) (fun _ _ => False) (dloop K f1 n1 H.length ac N live vs H))
    (h1 : (vHp C.G H1)[i]? = some (some ⟨e, .rcd 0 ps ac bd :: F0⟩)) (hlen : H.length ≤ H2.length) (h2 : vHp C.G H2 = (vHp C.G H1).set i (some ⟨e, .rcd 1 ps ac bd :: F0⟩))
    (D : vT C.G (fun ex _ H' => H'[i]? = some (some ⟨e, .rcd 1 ps ac bd :: F0⟩) ∧ ∃ H'' Gx, H'.set i (some ⟨e, .rcd (stEx ex) ps ac bd :: F0⟩) = H'' ++ Gx ∧ H.length ≤ H''.length ∧ hpB H''.length H'' = true ∧ R (.bool (isNormal ex)) H'') (fun _ _ => False) (dloop K f2 n2 H.length bd N live vs1 H2)) : AYld C i args (vHp C.G H) R := by
  have hA := dloop_ok ka (Nat.le_refl _) A
  have hB := dloop_ok kb hlen D
  rw [← hF] at hA
  have e0 : (vHp C.G H).length = H.length := vHp_length H
  refine AYld.view (K := fun v H' => ∃ ex H'' Gx, v = .bool (isNormal ex) ∧ H' = H'' ++ Gx ∧ H.length ≤ H''.length ∧ hpB H''.length H'' = true ∧ R (.bool (isNormal ex)) H'')
    (AYld.of hi he hl na nb (Q1 := lv N live fun ex ws H' => ex = .normal ∧ ws = vVs C.G vs1 ∧ H' = vHp C.G H1)
      (Q2 := lv N live fun ex _ H' => H'[i]? = some (some ⟨e, .rcd 1 ps ac bd :: F0⟩) ∧ ∃ H'' Gx, H'.set i (some ⟨e, .rcd (stEx ex) ps ac bd :: F0⟩) = H'' ++ Gx ∧ H.length ≤ H''.length ∧ hpB H''.length H'' = true ∧ R (.bool (isNormal ex)) H'') ?_ ?_ ?_) ?_
  · rw [e0]; exact hA
  · intro ex F1 H1' _ hq
    obtain ⟨q1, q2, q3, q4⟩ := chk_true hq
    have hN : F1.length = N := Nat.eq_of_beq_eq_true q1
    refine ⟨q2, e, ps, ac, bd, F0, by rw [q4]; exact h1, he, ?_⟩
    refine AWp.rd live hN ?_
    rw [q3, q4, ← h2, e0]
    exact hB
  · intro ex F2 H2' _ hq
    obtain ⟨q1, q2, H'', Gx, q3, q4, q5, q6⟩ := chk_true hq
    exact ⟨e, ps, ac, bd, F0, q2, he, ex, H'', Gx, rfl, q3, q4, q5, q6⟩
  · rintro v H' ⟨ex, H'', Gx, rfl, rfl, q4, q5, q6⟩
    exact ⟨_, H'', q6, View.same (by rw [e0]; exact q4) q5 ⟨⟨rfl, rfl⟩, trivial⟩⟩
/-- ... whatever the heap looks like behind it -/
theorem AYld.dxv {K : DCfg} {f1 f2 n1 n2 N : Nat} {live : List Nat} {i e : Nat} {args : List AV} {ps : Array Nat} {ac bd : Code} {F0 : Fr} {vs vs1 : List EV} {H H1 H2 : DHp} {R : AV → Hp → Prop} (ka : DGood C K (loopsOf ac)) (kb : DGood C K (loopsOf bd))
    (hi : (vHp C.G H)[i]? = some (some ⟨e, .rcd 0 ps ac bd :: F0⟩)) (he : Nat.beq e 4294967291 = true) (hl : args.length = ps.size) (na : noRange ac = true) (nb : noRange bd = true) (hF : setsP F0 ps.toList args = fl N live (vVs C.G vs))
    (A : vT C.G (fun ex ws H' => ex = .normal ∧ ws = vVs C.G vs1 ∧ H' = vHp C.G H1) (fun _ _ => False) (dloop K f1 n1 H.length ac N live vs H))
    (h1 : (vHp C.G H1)[i]? = some (some ⟨e, .rcd 0 ps ac bd :: F0⟩)) (hlen : H.length ≤ H2.length) (h2 : vHp C.G H2 = (vHp C.G H1).set i (some ⟨e, .rcd 1 ps ac bd :: F0⟩))
    (D : vT C.G (fun ex _ H' => H'[i]? = some (some ⟨e, .rcd 1 ps ac bd :: F0⟩) ∧ ∃ H'', View H.length [.bool (isNormal ex)] H'' [.bool (isNormal ex)] (H'.set i (some ⟨e, .rcd (stEx ex) ps ac bd :: F0⟩)) ∧ R (.bool (isNormal ex)) H'') (fun _ _ => False) (dloop K f2 n2 H.length bd N live vs1 H2)) : AYld C i args (vHp C.G H) R := by
  have hA := dloop_ok ka (Nat.le_refl _) A
  have hB := dloop_ok kb hlen D
  rw [← hF] at hA
  have e0 : (vHp C.G H).length = H.length := vHp_length H
  refine AYld.view (K := fun v H' => ∃ ex H'', v = .bool (isNormal ex) ∧ View H.length [.bool (isNormal ex)] H'' [.bool (isNormal ex)] H' ∧ R (.bool (isNormal ex)) H'')
    (AYld.of hi he hl na nb (Q1 := lv N live fun ex ws H' => ex = .normal ∧ ws = vVs C.G vs1 ∧ H' = vHp C.G H1)
      (Q2 := lv N live fun ex _ H' => H'[i]? = some (some ⟨e, .rcd 1 ps ac bd :: F0⟩) ∧ ∃ H'', View H.length [.bool (isNormal ex)] H'' [.bool (isNormal ex)] (H'.set i (some ⟨e, .rcd (stEx ex) ps ac bd :: F0⟩)) ∧ R (.bool (isNormal ex)) H'') ?_ ?_ ?_) ?_
  · rw [e0]; exact hA
  · intro ex F1 H1' _ hq
    obtain ⟨q1, q2, q3, q4⟩ := chk_true hq
    have hN : F1.length = N := Nat.eq_of_beq_eq_true q1
    refine ⟨q2, e, ps, ac, bd, F0, by rw [q4]; exact h1, he, ?_⟩
    refine AWp.rd live hN ?_
    rw [q3, q4, ← h2, e0]
    exact hB
  · intro ex F2 H2' _ hq
    obtain ⟨q1, q2, H'', q3, q4⟩ := chk_true hq
    exact ⟨e, ps, ac, bd, F0, q2, he, ex, H'', rfl, q3, q4⟩
  · rintro v H' ⟨ex, H'', rfl, q4, q5⟩
    exact ⟨_, H'', q5, by rw [e0]; exact q4⟩
def rgP : Code → Array Nat
  | .rangeFunc _ ps _ _ => ps
  | _ => #[]
def rgA : Code → Code
  | .rangeFunc _ _ as _ => as
  | _ => .skip
def rgB : Code → Code
  | .rangeFunc _ _ _ bd => bd
  | _ => .skip
def rgG : Code → Operand
  | .rangeFunc g _ _ _ => g
  | _ => .tmp 0
/-- what stands in the place of a record -/
def rcA (c : Code) (p : Nat) (F : Fr) : List AV := .rcd p (rgP c) (rgA c) (rgB c) :: F
open Classical in
/-- is it just this record? -/
noncomputable def isRc (rc0 : List AV) : List AV → Bool := fun xs => decide (xs = [.agg rc0])
theorem isRc_iff {rc0 rc : List AV} : isRc rc0 [.agg rc] = true ↔ rc = rc0 := by
  unfold isRc
  simp
end Go.Am
namespace Go.Am
variable {C : Ctx}
open Classical in
/-- is the state just this one? -/
noncomputable def isSt (vs0 : List AV) (H0 : Hp) : List AV → Bool := fun xs => decide (xs = [.agg vs0, .agg (encHB H0)])
theorem isSt_eq {vs0 vs : List AV} {H0 H : Hp} (h : isSt vs0 H0 [.agg vs, .agg (encHB H)] = true) : vs = vs0 ∧ H = H0 := by
  unfold isSt at h
  simp only [decide_eq_true_eq, List.cons.injEq, AV.agg.injEq, and_true] at h
  exact ⟨h.1, encH_inj _ _ h.2⟩
theorem isSt_refl {vs0 : List AV} {H0 : Hp} : isSt vs0 H0 [.agg vs0, .agg (encHB H0)] = true := by
  unfold isSt
  simp
/-- what outcomes say -/
def oOut (G : Nat → List AV) (H0 : Hp) : Outs → AV → Hp → Prop
  | .one v hs => fun v' H' => v' = vV G v ∧ H' = acts H0 (hs.map (vHop G))
  | .chk _ x => oOut G H0 x
  | .tst b x y => fun v' H' => (vB G b = true ∧ oOut G H0 x v' H') ∨ (vB G b = false ∧ oOut G H0 y v' H')
  | _ => fun _ _ => False
theorem oOut_all {G : Nat → List AV} {H0 : Hp} {P : EV → List DHop → Prop} (R : (AV → Hp → Prop) → Prop) (mono : ∀ K K' : AV → Hp → Prop, (∀ v H', K v H' → K' v H') → R K → R K') (abs : R (fun _ _ => False) → ∀ v hs, P v hs)
    (one : ∀ v hs, R (fun v' H' => v' = vV G v ∧ H' = acts H0 (hs.map (vHop G))) → P v hs) : ∀ o, R (oOut G H0 o) → oAll G P o
  | .one v hs, h => one v hs h
  | .chk b x, h => fun _ => oOut_all R mono abs one x h
  | .tst b x y, h => ⟨fun hb => oOut_all R mono abs one x (mono _ _ (fun v H' h => by
      rcases h with ⟨_, h⟩ | ⟨h1, _⟩
      · exact h
      · rw [hb] at h1; cases h1) h), fun hb => oOut_all R mono abs one y (mono _ _ (fun v H' h => by
      rcases h with ⟨h1, _⟩ | ⟨_, h⟩
      · rw [hb] at h1; cases h1
      · exact h) h)⟩
  | .namI e f, h => fun j => oAll_of abs h _
  | .namN e f, h => fun j => oAll_of abs h _
  | .namB e f, h => fun j => oAll_of abs h _
  | .namL e f, h => fun j => oAll_of abs h _
where
  oAll_of {G : Nat → List AV} {P : EV → List DHop → Prop} {R : (AV → Hp → Prop) → Prop} (abs : R (fun _ _ => False) → ∀ v hs, P v hs) (h : R (fun _ _ => False)) : ∀ o, oAll G P o
    | .one v hs => abs h v hs
    | .chk b x => fun _ => oAll_of abs h x
    | .tst b x y => ⟨fun _ => oAll_of abs h x, fun _ => oAll_of abs h y⟩
    | .namI e f => fun j => oAll_of abs h _
    | .namN e f => fun j => oAll_of abs h _
    | .namB e f => fun j => oAll_of abs h _
    | .namL e f => fun j => oAll_of abs h _
/-- a yield, asked for in one state; j names the question whether it is that state -/
def yAt (j i0 : Nat) (q : List AV → Bool) (o : Outs) : DYsum := fun i args H => match Nat.beq i i0 with
  | true => some (.chk (.uf j q [.agg (.of args), .agg (.of (encHD H))]) o)
  | false => none
theorem yAt_ok {j i0 : Nat} {o : Outs} {vs0 : List AV} {H0 : Hp} {q : List AV → Bool} (hq : q = isSt vs0 H0) (h : AYld C i0 vs0 H0 (oOut C.G H0 o)) : DYsumOk C (yAt j i0 q o) := by
  intro i args H o' ho
  unfold yAt at ho
  split at ho
  · rename_i hi
    have := Nat.eq_of_beq_eq_true hi
    subst this
    simp only [Option.some.injEq] at ho
    subst ho
    intro h1
    simp only [vB, vVs, vV, vL, encH_ok, hq] at h1
    obtain ⟨e1, e2⟩ := isSt_eq h1
    refine oOut_all (H0 := H0) (fun K => AYld C i vs0 H0 K) (fun K K' hk h => h.mono hk) (fun h v hs => ?_) (fun v hs h => ?_) o h
    · unfold DYld; rw [e1, e2]; exact h.mono fun _ _ h => h.elim
    · unfold DYld; rw [e1, e2]; exact h
  · simp at ho
/-- a call, asked for in one state -/
def sAt (j : Nat) (q : List AV → Bool) (o : Outs) : DSum := fun args H => some (.chk (.uf j q [.agg (.of args), .agg (.of (encHD H))]) o)
theorem sAt_ok {f j : Nat} {o : Outs} {vs0 : List AV} {H0 : Hp} {q : List AV → Bool} (hq : q = isSt vs0 H0) (h : ACalls C f vs0 H0 (oOut C.G H0 o)) : DSumOk C f (sAt j q o) := by
  intro args H o' ho
  simp only [sAt, Option.some.injEq] at ho
  subst ho
  intro h1
  simp only [vB, vVs, vV, vL, encH_ok, hq] at h1
  obtain ⟨e1, e2⟩ := isSt_eq h1
  refine oOut_all (H0 := H0) (fun K => ACalls C f vs0 H0 K) (fun K K' hk h => h.monoK hk) (fun h v hs => ?_) (fun v hs h => ?_) o h
  · unfold DOut; rw [e1, e2]; exact h.monoK fun _ _ h => h.elim
  · unfold DOut; rw [e1, e2]; exact h
/-- a loop, entered in one state -/
theorem DLat_okC {M : Nat} {c : Code} {j : Nat} {ex N : Nat} {live : List Nat} {o : LOut} {vs0 : List AV} {H0 : Hp} {q : List AV → Bool} (hq : q = isSt vs0 H0)
    (h : AWp C M (.loop c) (fl N live vs0) H0 (lv N live (o.post C.G M))) : DLoopOk C M c (DLat j q ex N live o) := by
  refine .of fun vs H o' ho n Q hQ => ?_
  simp only [DLat, Option.some.injEq] at ho
  subst ho
  obtain ⟨h1, h2⟩ := hQ
  simp only [vB, vVs, vV, vL, encH_ok, hq] at h1
  obtain ⟨e1, e2⟩ := isSt_eq h1
  rw [e1, e2]
  exact h.lmono fun e vs H hp => post_holds o n h2 hp
/-- a loop over a function, entered in one state (ex: its key) -/
theorem DCode_okC {M : Nat} {c : Code} {j : Nat} {ex N : Nat} {live : List Nat} {o : LOut} {vs0 : List AV} {H0 : Hp} {q : List AV → Bool} (hq : q = isSt vs0 H0)
    (h : AWp C M c (fl N live vs0) H0 (lv N live (o.post C.G M))) : DCodeOk C M c (DLat j q ex N live o) := by
  intro m vs H o' hm ho n Q hQ
  simp only [DLat, Option.some.injEq] at ho
  subst ho
  obtain ⟨h1, h2⟩ := hQ
  simp only [vB, vVs, vV, vL, encH_ok, hq] at h1
  obtain ⟨e1, e2⟩ := isSt_eq h1
  rw [e1, e2]
  exact (h.pin hm).lmono fun e vs H hp => (post_holds o n h2 hp).pin hm
end Go.Am
namespace Go.Am
open Go.RowKit
mutual
/-- names no read-only place from N on -/
def rob (N : Nat) : AV → Bool
  | .ptr (.ro k) _ => Nat.blt k N
  | .slice _ (.ro k) _ _ => Nat.blt k N
  | .func _ cap => robs N cap
  | .agg cs => robs N cs
  | .tup vs => robs N vs
  | _ => true
def robs (N : Nat) : List AV → Bool
  | [] => true
  | v :: vs => rob N v && robs N vs
end
theorem robs_eq (N : Nat) : ∀ l, robs N l = l.all (rob N)
  | [] => by simp [robs]
  | v :: l => by simp [robs, robs_eq N l]
def σN (N : Nat) : Sig := fun k => if k < N then (.ro k, 0) else (.rw 0, 0)
theorem σN_lt {N k : Nat} (h : k < N) : σN N k = (.ro k, 0) := by unfold σN; rw [if_pos h]
theorem blt_lt {k N : Nat} (h : Nat.blt k N = true) : k < N := by
  unfold Nat.blt at h
  exact Nat.le_of_ble_eq_true h
mutual
theorem sb_rob {N : Nat} : ∀ v, rob N v = true → sb (σN N) 0 v = v
  | .undef, _ => by simp [sb]
  | .bool _, _ => by simp [sb]
  | .int _ _, _ => by simp [sb]
  | .str _, _ => by simp [sb]
  | .nilp, _ => by simp [sb]
  | .nils, _ => by simp [sb]
  | .nilf, _ => by simp [sb]
  | .ptr (.ro i) off, h => by simp only [rob] at h; simp only [sb, σN_lt (blt_lt h), Nat.zero_add]
  | .ptr (.rw i) off, _ => by simp [sb]
  | .slice mb (.ro i) off len, h => by simp only [rob] at h; simp only [sb, σN_lt (blt_lt h), Nat.zero_add]
  | .slice mb (.rw i) off len, _ => by simp [sb]
  | .func f cap, h => by simp only [rob] at h; simp only [sb, sbs_rob cap h]
  | .agg cs, h => by simp only [rob] at h; simp only [sb, sbs_rob cs h]
  | .tup cs, h => by simp only [rob] at h; simp only [sb, sbs_rob cs h]
  | .yld i, _ => by simp [sb]
  | .rcd .., _ => by simp [sb]
theorem sbs_rob {N : Nat} : ∀ l, robs N l = true → sbs (σN N) 0 l = l
  | [], _ => by simp [sbs]
  | v :: l, h => by
    simp only [robs, Bool.and_eq_true] at h
    simp only [sbs, sb_rob v h.1, sbs_rob l h.2]
end
theorem enter_more {P : Program} {G G' : Nat → List AV} {B N : Nat} (hG : ∀ k, k < N → G' k = [] ∨ (G' k = G k ∧ robs N (G k) = true ∧ norws (G k) = true)) {ρ : Env} {w : World} (hH : HRel ⟨P, G, B⟩ ρ [] w) : HRel ⟨P, G', w.heap.size⟩ ⟨[], roOf (σN N) ρ, []⟩ [] w := by
  refine ⟨rfl, Nat.le_refl _, fun i e h => by simp at h, fun i b h => by simp at h, fun i j b b' e e' h => by simp at h, fun i b d hr => ?_, fun D h => by simp at h⟩
  have hlen : ρ.rw = [] := List.eq_nil_of_length_eq_zero hH.len
  have hi : i < N ∧ ρ.ro i b d := by
    simp only [roOf] at hr
    by_cases h : i < N
    · rw [σN_lt h] at hr
      obtain ⟨d0, h1, h2⟩ := hr
      simp only [Nat.add_zero] at h2
      exact ⟨h, by rw [h2]; exact h1⟩
    · have : σN N i = (.rw 0, 0) := by unfold σN; rw [if_neg h]
      rw [this] at hr
      obtain ⟨e, h1, _⟩ := hr
      rw [hlen] at h1; simp at h1
  obtain ⟨g1, g2, g3⟩ := hH.ro i b d hi.2
  refine ⟨g1, fun j x e h => by simp at h, fun k v hv => ?_⟩
  have hv' : (G' i)[k]? = some v := hv
  rcases hG i hi.1 with h0 | ⟨h0, h1, h2⟩
  · rw [h0] at hv'; simp at hv'
  · rw [h0] at hv'
    obtain ⟨cv, g4, g5⟩ := g3 k v hv'
    refine ⟨cv, g4, ?_⟩
    have m := List.mem_of_getElem? hv'
    rw [robs_eq, List.all_eq_true] at h1
    rw [norws_eq, List.all_eq_true] at h2
    refine VR_in (n := 0) v cv (h2 v m) ?_
    rw [sb_rob v (h1 v m)]
    exact VR_norw' v cv (h2 v m) g5
where
  VR_norw' {ρ : Env} : ∀ (v : AV) (cv : Value), norw v = true → VR ⟨[], ρ.ro, []⟩ v cv → VR ρ v cv := fun v cv _ h => VR.sub (ρ := ⟨[], ρ.ro, []⟩) (ρ' := ρ) ⟨fun i x hx => by simp at hx, fun _ _ _ h => h⟩ v cv h
/-- THE READING CALL over more places than there are -/
theorem more_ro {P : Program} {G G' : Nat → List AV} {B N : Nat} {f : FuncId} {args : List AV} {R : AV → Prop} (hG : ∀ k, k < N → G' k = [] ∨ (G' k = G k ∧ robs N (G k) = true ∧ norws (G k) = true))
    (h : ∀ B, ACalls ⟨P, G', B⟩ f args [] fun v _ => R v) (ha : norws args = true) (hb : robs N args = true) (hR : ∀ v, R v → bnd 0 v = true ∧ noro v = true) : ACalls ⟨P, G, B⟩ f args [] fun v _ => R v := by
  refine ⟨(h 0).1, fun ρ w cargs hH hv => ?_⟩
  refine ((h w.heap.size).2 ⟨[], roOf (σN N) ρ, []⟩ w cargs (enter_more hG hH) (VRs_in args cargs ha (by rw [sbs_rob args hb]; exact hv))).mono ?_
  rintro e w' ⟨v, cv, ρ', H', rfl, h2, h3, h4, h5, h6⟩
  obtain ⟨hb, hn⟩ := hR v h2
  have hkeep : ∀ b, b < w.heap.size → w'.heap[b]? = w.heap[b]? := fun b hb => h6.keep b hb (.inr fun i e h => by simp at h)
  refine ⟨v, cv, ρ, [], rfl, h2, Env.le_refl ρ, ?_, ?_, ?_⟩
  · refine ⟨hH.len, Nat.le_trans hH.base h6.size, fun i e he => ⟨(hH.ents i e he).1, Nat.lt_of_lt_of_le (hH.ents i e he).2 h6.size⟩, fun i b hb => ?_, hH.inj, fun i b d hr => ?_, fun D hD => ⟨(hkeep D (hH.df_lt hD)).trans (hH.df D hD).1, (hH.df D hD).2⟩⟩
    · exact (hH.live i b hb).mono (Env.le_refl ρ) fun e he => hkeep _ (hH.ents i e he).2
    · obtain ⟨g1, g2, g3⟩ := hH.ro i b d hr
      refine ⟨Nat.lt_of_lt_of_le g1 h6.size, g2, fun k v hv => ?_⟩
      obtain ⟨cv, g4, g5⟩ := g3 k v hv
      refine ⟨cv, ?_, g5⟩
      rw [← g4]
      simp only [World.cell?, hkeep b g1]
  · exact VR_flat hb hn h5
  · exact ⟨h6.os, h6.tape, h6.output, h6.size, fun b hb _ => hkeep b hb, fun i e he => .inl ⟨i, e, he, rfl⟩, fun _ _ _ h => h, fun _ _ _ h => .inl h, fun _ h => .inl h⟩
end Go.Am
