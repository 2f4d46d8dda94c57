/-
  Methods: a call over one block of its own, told in every heap that has the block.
-/
import Derived.Test.YtopenjkaifbnmaaAmDeepUse
namespace Go.Am
variable {C : Ctx}

/-- what is behind the blocks that one looks at is let go -/
theorem ACalls.keep {f : FuncId} {args : List AV} {H H1 : Hp} {v1 : AV} {k : Nat} (h : ACalls C f args H fun v H' => v = v1 ∧ H'.take k = H1) (hk : H.length ≤ H1.length) (hb : hpB H1.length H1 = true) (hv : bnd H1.length v1 = true) (hu : v1 ≠ .undef) :
    ACalls C f args H fun v H' => v = v1 ∧ H' = H1 :=
  h.view fun v H' ⟨e1, e2⟩ => ⟨v1, H1, ⟨rfl, rfl⟩, by
    subst e1
    have e : H' = H1 ++ H'.drop k := by rw [← e2, List.take_append_drop]
    rw [e]
    refine View.same hk hb ?_
    cases v <;> first | exact absurd rfl hu | exact ⟨⟨hv, rfl⟩, trivial⟩⟩

/-- a call over one block: in a heap that has it at i -/
theorem meth {f : FuncId} {e : Nat} {cs cs' : List AV} {rest : List AV} {v : AV} {news : List Blk} (h : ACalls C f (.ptr (.rw 0) 0 :: rest) [some ⟨e, cs⟩] fun v' H' => v' = v ∧ H' = some ⟨e, cs'⟩ :: news.map some)
    (hc : bnds 0 cs = true) (hc' : bnds 0 cs' = true) (hr : bnds 0 rest = true) (hv : bnd (1 + news.length) v = true) (hn : ∀ b ∈ news, bnds 0 b.cells = true) {H : Hp} {i : Nat} (hi : H[i]? = some (some ⟨e, cs⟩)) :
    ACalls C f (.ptr (.rw i) 0 :: rest) H fun v' H' => v' = ren (wide [i] H.length news.length) v ∧ H' = H.set i (some ⟨e, cs'⟩) ++ news.map some := by
  have hlt : i < H.length := (List.getElem?_eq_some_iff.1 hi).1
  have key := frame_call h [i] rfl (by simp) (fun j b hj => by
    cases j with
    | zero =>
      simp at hj; subst hj
      refine ⟨_, rfl, bnds_mono (Nat.zero_le _) _ hc, ?_⟩
      simp only [renB, rens_flat _ _ hc]
      simpa using hi
    | succ j => simp at hj) (H := H) (by simp only [bnds, bnd, Bool.and_eq_true]; exact ⟨by simp, bnds_mono (Nat.zero_le _) _ hr⟩) (fun v0 H0' hk => by
    obtain ⟨rfl, rfl⟩ := hk
    refine ⟨by simp, by simpa [Nat.add_comm] using hv, fun j b hj => ?_⟩
    cases j with
    | zero => simp at hj; subst hj; exact bnds_mono (Nat.zero_le _) _ hc'
    | succ j =>
      have : b ∈ news := List.mem_of_getElem? (i := j) (by simpa using hj)
      exact bnds_mono (Nat.zero_le _) _ (hn _ this))
  have ea : rens [i] (.ptr (.rw 0) 0 :: rest) = .ptr (.rw i) 0 :: rest := by
    simp only [rens, ren, rens_flat _ _ hr]; rfl
  rw [ea] at key
  refine key.monoK ?_
  rintro v' H' ⟨v0, H0', ⟨rfl, rfl⟩, rfl, rfl⟩
  have el : (some (⟨e, cs'⟩ : Blk) :: List.map some news).length - [i].length = news.length := by simp
  refine ⟨by rw [el], ?_⟩
  unfold merge
  rw [el]
  simp only [lay, renO, renB, List.length_cons, List.length_nil, Nat.zero_add, List.drop_succ_cons, List.drop_zero, Option.map_some, rens_flat _ _ hc']
  congr 1
  rw [List.map_map]
  refine List.map_congr_left fun b hb => ?_
  simp only [Function.comp, renO, Option.map_some, renB, rens_flat _ _ (hn b hb)]

/-- it writes its block -/
theorem DOut.set1 {f : FuncId} {rest : List EV} {H : DHp} {i : Nat} {e : Nat} {l l' : EL} {v : EV} (hi : H[i]? = some (some ⟨e, l⟩)) (h : ACalls C f (.ptr (.rw 0) 0 :: vVs C.G rest) [some ⟨e, vL C.G l⟩] fun v' H' => v' = vV C.G v ∧ H'.take 1 = [some ⟨e, vL C.G l'⟩])
    (hc : bnds 0 (vL C.G l) = true) (hc' : bnds 0 (vL C.G l') = true) (hr : bnds 0 (vVs C.G rest) = true) (hv : bnd 0 (vV C.G v) = true) (hu : vV C.G v ≠ .undef) : DOut C f (.ptr (.rw i) (.lit 0) :: rest) H v [.set i ⟨e, l'⟩] := by
  have h := h.keep (by simp) (by simp [hpB, bnds_mono (Nat.zero_le _) _ hc']) (bnd_mono (Nat.zero_le _) _ hv) hu
  have := meth (news := []) h hc hc' hr (bnd_mono (Nat.zero_le _) _ hv) (fun b hb => by simp at hb) (vHp_some hi)
  unfold DOut
  simp only [vVs, vV, vR, vN]
  refine this.monoK ?_
  rintro v' H' ⟨rfl, rfl⟩
  refine ⟨ren_flat _ _ hv, ?_⟩
  simp [acts, Hop.act, vHop, vBlk]
/-- it leaves its block as it is -/
theorem DOut.get1 {f : FuncId} {rest : List EV} {H : DHp} {i : Nat} {e : Nat} {l : EL} {v : EV} (hi : H[i]? = some (some ⟨e, l⟩)) (h : ACalls C f (.ptr (.rw 0) 0 :: vVs C.G rest) [some ⟨e, vL C.G l⟩] fun v' H' => v' = vV C.G v ∧ H'.take 1 = [some ⟨e, vL C.G l⟩])
    (hc : bnds 0 (vL C.G l) = true) (hr : bnds 0 (vVs C.G rest) = true) (hv : bnd 0 (vV C.G v) = true) (hu : vV C.G v ≠ .undef) : DOut C f (.ptr (.rw i) (.lit 0) :: rest) H v [] := by
  have := DOut.set1 hi h hc hc hr hv hu
  unfold DOut at this ⊢
  refine this.monoK ?_
  rintro v' H' ⟨rfl, rfl⟩
  refine ⟨rfl, ?_⟩
  simp only [List.map_cons, List.map_nil, acts, Hop.act, vHop]
  have hg := vHp_some (G := C.G) hi
  have hlt : i < (vHp C.G H).length := (List.getElem?_eq_some_iff.1 hg).1
  have : (vHp C.G H)[i] = some (vBlk C.G ⟨e, l⟩) := by
    have := hg
    rw [List.getElem?_eq_getElem hlt] at this
    simpa using this
  rw [← this]
  exact List.set_getElem_self hlt
/-- it leaves its block as it is, and lays one new block -/
theorem DOut.new1 {f : FuncId} {rest : List EV} {H : DHp} {i : Nat} {e e' : Nat} {l l' : EL} {v : EV} {v0 : AV} (hi : H[i]? = some (some ⟨e, l⟩)) (h : ACalls C f (.ptr (.rw 0) 0 :: vVs C.G rest) [some ⟨e, vL C.G l⟩] fun v' H' => v' = v0 ∧ H' = [some ⟨e, vL C.G l⟩, some ⟨e', vL C.G l'⟩])
    (hc : bnds 0 (vL C.G l) = true) (hc' : bnds 0 (vL C.G l') = true) (hr : bnds 0 (vVs C.G rest) = true) (hv : bnd 2 v0 = true) (he : vV C.G v = ren [i, H.length] v0) : DOut C f (.ptr (.rw i) (.lit 0) :: rest) H v [.new ⟨e', l'⟩] := by
  have := meth (news := [⟨e', vL C.G l'⟩]) h hc hc hr hv (fun b hb => by simp at hb; subst hb; exact hc') (vHp_some hi)
  unfold DOut
  simp only [vVs, vV, vR, vN]
  refine this.monoK ?_
  rintro v' H' ⟨rfl, rfl⟩
  refine ⟨?_, ?_⟩
  · rw [he]; simp [wide, vHp_length]
  · simp only [List.map_cons, List.map_nil, acts, Hop.act, vHop, vBlk]
    congr 1
    have hg := vHp_some (G := C.G) hi
    have hlt : i < (vHp C.G H).length := (List.getElem?_eq_some_iff.1 hg).1
    have : (vHp C.G H)[i] = some (vBlk C.G ⟨e, l⟩) := by
      have := hg
      rw [List.getElem?_eq_getElem hlt] at this
      simpa using this
    show (vHp C.G H).set i (some (vBlk C.G ⟨e, l⟩)) = _
    rw [← this]
    exact List.set_getElem_self hlt
end Go.Am
