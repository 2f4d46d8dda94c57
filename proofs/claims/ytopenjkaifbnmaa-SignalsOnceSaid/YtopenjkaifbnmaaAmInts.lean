/-
  Numbers in a row of cells.
-/
import Derived.Test.YtopenjkaifbnmaaAmLive
import Derived.IntWalk
namespace Go.Am

def ints (cs : List AV) (off n : Nat) : List Int := (List.range n).map fun j => getI cs (off + j)
def okI (k : IntKind) (cs : List AV) (off n : Nat) : Bool := (List.range n).all fun j => isI k cs (off + j)
theorem okI_get {k : IntKind} {cs : List AV} {off n j : Nat} (h : okI k cs off n = true) (hj : j < n) : isI k cs (off + j) = true := by
  simp only [okI, List.all_eq_true, List.mem_range] at h
  exact h j hj
theorem okI_of {k : IntKind} {cs : List AV} {off n : Nat} (h : ∀ j, j < n → isI k cs (off + j) = true) : okI k cs off n = true := by
  simp only [okI, List.all_eq_true, List.mem_range]; exact h
theorem ints_succ (cs : List AV) (off n : Nat) : ints cs off (n + 1) = ints cs off n ++ [getI cs (off + n)] := by simp [ints, List.range_succ]
theorem ints_zero (cs : List AV) (off : Nat) : ints cs off 0 = [] := rfl
theorem ints_length (cs : List AV) (off n : Nat) : (ints cs off n).length = n := by simp [ints]

theorem chk_iff {c : Bool} {K : Prop} : chk c K ↔ c = true ∧ K := by cases c <;> simp [chk]
theorem tst_iff {c : Bool} {A B : Prop} : tst c A B ↔ (c = true → A) ∧ (c = false → B) := by cases c <;> simp [tst]
theorem chk_mk {c : Bool} {K : Prop} (h : c = true) (k : K) : chk c K := chk_iff.2 ⟨h, k⟩
theorem tst_mk {c : Bool} {A B : Prop} (h : c = true → A) (k : c = false → B) : tst c A B := tst_iff.2 ⟨h, k⟩
theorem tst_pos {c : Bool} {A B : Prop} (h : c = true) (k : A) : tst c A B := tst_mk (fun _ => k) (fun h' => by simp [h] at h')
theorem tst_neg {c : Bool} {A B : Prop} (h : c = false) (k : B) : tst c A B := tst_mk (fun h' => by simp [h] at h') (fun _ => k)
theorem i64_in {n : Int} (h : -9223372036854775808 ≤ n ∧ n ≤ 9223372036854775807) : IntKind.i64.wrap n = n := IntWalk.i64_in n h

/-! ### rows that are filled -/
def fill (a : List AV) (g : Nat → AV) (i : Nat) : List AV := (List.range a.length).map fun k => if k < i then g k else a.getD k .undef
theorem fill_zero (a : List AV) (g : Nat → AV) : fill a g 0 = a := by
  apply List.ext_getElem?
  intro k
  simp only [fill, List.getElem?_map]
  by_cases hk : k < a.length
  · simp [hk]
  · rw [List.getElem?_eq_none (by simpa using hk), List.getElem?_eq_none (by omega)]; rfl
theorem fill_length (a : List AV) (g : Nat → AV) (i : Nat) : (fill a g i).length = a.length := by simp [fill]
theorem fill_set (a : List AV) (g : Nat → AV) (i : Nat) (h : i < a.length) : (fill a g i).set i (g i) = fill a g (i + 1) := by
  apply List.ext_getElem?
  intro k
  simp only [List.getElem?_set, fill_length]
  by_cases hk : k < a.length
  · simp only [fill, List.getElem?_map, List.getElem?_range hk, Option.map_some]
    by_cases he : i = k
    · subst he; simp [h]
    · have : k < i + 1 ↔ k < i := by omega
      simp [he, this]
  · have h1 : (fill a g i)[k]? = none := List.getElem?_eq_none (by rw [fill_length]; omega)
    have h2 : (fill a g (i + 1))[k]? = none := List.getElem?_eq_none (by rw [fill_length]; omega)
    rw [h1, h2]
    have : i ≠ k := by omega
    simp [this]
theorem fill_all (a : List AV) (g : Nat → AV) : fill a g a.length = (List.range a.length).map g := by
  unfold fill
  apply List.map_congr_left
  intro k hk
  rw [if_pos (List.mem_range.1 hk)]

/-! ### what is read by a call: one row of plain cells -/
def flat (v : AV) : Bool := bnd 0 v && noro v
theorem flat_norw : ∀ v, bnd 0 v = true → norw v = true := by
  intro v
  have aux : (∀ v, bnd 0 v = true → norw v = true) ∧ ∀ l, bnds 0 l = true → norws l = true := by
    refine ⟨fun v => ?_, fun l => ?_⟩
    · refine AV.rec (motive_1 := fun v => bnd 0 v = true → norw v = true) (motive_2 := fun l => bnds 0 l = true → norws l = true) ?_ ?_ ?_ ?_ ?_ ?_ ?_ ?_ ?_ ?_ ?_ ?_ ?_ ?_ v
      · intro _; simp [norw]
      · intro _ _; simp [norw]
      · intro _ _ _; simp [norw]
      · intro _ _; simp [norw]
      · intro _; simp [norw]
      · intro r o h; cases r <;> simp [bnd, norw] at *
      · intro _; simp [norw]
      · intro m r o n h; cases r <;> simp [bnd, norw] at *
      · intro _; simp [norw]
      · intro f c ih h; simp only [bnd] at h; simp only [norw]; exact ih h
      · intro c ih h; simp only [bnd] at h; simp only [norw]; exact ih h
      · intro c ih h; simp only [bnd] at h; simp only [norw]; exact ih h
      · intro _; simp [norws]
      · intro x xs h1 h2 h; simp only [bnds, Bool.and_eq_true] at h; simp only [norws, Bool.and_eq_true]; exact ⟨h1 h.1, h2 h.2⟩
    · refine AV.rec_1 (motive_1 := fun v => bnd 0 v = true → norw v = true) (motive_2 := fun l => bnds 0 l = true → norws l = true) ?_ ?_ ?_ ?_ ?_ ?_ ?_ ?_ ?_ ?_ ?_ ?_ ?_ ?_ l
      · intro _; simp [norw]
      · intro _ _; simp [norw]
      · intro _ _ _; simp [norw]
      · intro _ _; simp [norw]
      · intro _; simp [norw]
      · intro r o h; cases r <;> simp [bnd, norw] at *
      · intro _; simp [norw]
      · intro m r o n h; cases r <;> simp [bnd, norw] at *
      · intro _; simp [norw]
      · intro f c ih h; simp only [bnd] at h; simp only [norw]; exact ih h
      · intro c ih h; simp only [bnd] at h; simp only [norw]; exact ih h
      · intro c ih h; simp only [bnd] at h; simp only [norw]; exact ih h
      · intro _; simp [norws]
      · intro x xs h1 h2 h; simp only [bnds, Bool.and_eq_true] at h; simp only [norws, Bool.and_eq_true]; exact ⟨h1 h.1, h2 h.2⟩
  exact aux.1 v
def sig1 (r : Ref) (o : Nat) : Sig := fun _ => (r, o)
def G1 (cs : List AV) : Nat → List AV := fun k => match k with | 0 => cs | _ => []
theorem sees1 {C : Ctx} {H : Hp} {r : Ref} {cs : List AV} (hc : cellsAt C H r = some cs) (off n : Nat) (hf : ((cs.drop off).take n).all flat = true) : Sees C H (sig1 r off) (G1 ((cs.drop off).take n)) := by
  intro k
  cases k with
  | succ k => exact .inl rfl
  | zero =>
    refine .inr ⟨cs, hc, fun j v hv => ?_⟩
    have hm : v ∈ (cs.drop off).take n := List.mem_of_getElem? hv
    have := List.all_eq_true.1 hf v hm
    simp only [flat, Bool.and_eq_true] at this
    refine ⟨flat_norw v this.1, ?_⟩
    rw [sb_flat v this.2]
    simp only [G1, List.getElem?_take, List.getElem?_drop] at hv
    split at hv
    · exact hv
    · simp at hv
theorem ints_part (cs : List AV) (off n : Nat) : ints ((cs.drop off).take n) 0 n = ints cs off n := by
  unfold ints
  apply List.map_congr_left
  intro j hj
  have := List.mem_range.1 hj
  simp only [getI, Nat.zero_add, List.getElem?_take, this, if_true, List.getElem?_drop]
theorem okI_part {k : IntKind} {cs : List AV} {off n : Nat} (h : okI k cs off n = true) : okI k ((cs.drop off).take n) 0 n = true := by
  refine okI_of fun j hj => ?_
  have := okI_get h hj
  simp only [isI, Nat.zero_add, List.getElem?_take, hj, if_true, List.getElem?_drop] at this ⊢
  exact this
theorem okI_flat {k : IntKind} {cs : List AV} {off n : Nat} (h : okI k cs off n = true) : ((cs.drop off).take n).all flat = true := by
  rw [List.all_eq_true]
  intro v hv
  obtain ⟨j, hj⟩ := List.getElem?_of_mem hv
  simp only [List.getElem?_take, List.getElem?_drop] at hj
  split at hj
  · rename_i hjn
    have := okI_get h hjn
    simp only [isI, hj] at this
    split at this
    · rename_i e; simp at e; subst e; simp [flat, bnd, noro]
    · simp at this
  · simp at hj

theorem flat_call {C : Ctx} {f : FuncId} {args : List AV} {v0 : AV} (hf : bnd 0 v0 = true ∧ noro v0 = true) (ha : norws args = true ∧ noros args = true) (h : ∀ G B, ACalls ⟨C.P, G, B⟩ f args [] fun v _ => v = v0) (H : Hp) : ACalls C f args H fun v H' => v = v0 ∧ H' = H := by
  have e : args = sbs (fun _ => (.rw 0, 0)) 0 args := (sbs_flat args ha.2).symm
  exact ro_flat (σ := fun _ => (.rw 0, 0)) (G := fun _ => []) (fun k => .inl rfl) (fun B => h _ B) ha.1 e (fun v hv => by subst hv; exact hf)

/-! ### heaps seen with other numbers -/
theorem wk_length : ∀ {a b : List AV}, wk a b → a.length = b.length
  | [], [], _ => rfl
  | [], _ :: _, h => by simp [wk] at h
  | x :: a, [], h => by cases x <;> simp [wk] at h
  | x :: a, y :: b, h => by
    have : wk a b := by cases x <;> simp only [wk] at h <;> first | exact h | exact h.2
    simp [wk_length this]
/-- block i of the one is block θ i of the other -/
def blks (θ : List Nat) (H' : Hp) (n : Nat) : List Nat → Hp → Prop
  | [], [] => True
  | j :: js, none :: H => j < H'.length ∧ blks θ H' n js H
  | j :: js, some b :: H => (bnds n b.cells = true ∧ H'[j]? = some (some ⟨b.esz, rens θ b.cells⟩)) ∧ blks θ H' n js H
  | _, _ => False
theorem blks_len {θ : List Nat} {H' : Hp} {n : Nat} : ∀ {js : List Nat} {H : Hp}, blks θ H' n js H → js.length = H.length
  | [], [], _ => rfl
  | [], _ :: _, h => h.elim
  | _ :: _, [], h => by simp [blks] at h
  | j :: js, none :: H, h => by simp [blks_len h.2]
  | j :: js, some b :: H, h => by simp [blks_len h.2]
theorem blks_get {θ : List Nat} {H' : Hp} {n : Nat} : ∀ {js : List Nat} {H : Hp}, blks θ H' n js H → ∀ (i : Nat), i < js.length → js.getD i 0 < H'.length ∧ ∀ b, H[i]? = some (some b) → bnds n b.cells = true ∧ H'[js.getD i 0]? = some (some ⟨b.esz, rens θ b.cells⟩)
  | [], [], _, i, hi => by simp at hi
  | [], _ :: _, h, _, _ => h.elim
  | _ :: _, [], h, _, _ => by simp [blks] at h
  | j :: js, none :: H, h, i, hi => by
    cases i with
    | zero => exact ⟨h.1, fun b hb => by simp at hb⟩
    | succ i => simpa using blks_get h.2 i (by simpa using hi)
  | j :: js, some b :: H, h, i, hi => by
    cases i with
    | zero => exact ⟨(List.getElem?_eq_some_iff.1 h.1.2).1, fun b' hb => by simp at hb; subst hb; exact h.1⟩
    | succ i => simpa using blks_get h.2 i (by simpa using hi)
theorem View.ren {θ : List Nat} {F F' : Fr} {H H' : Hp} (hnd : θ.Nodup) (hb : blks θ H' H.length θ H) (hF : bnds H.length F = true) (hF' : wk (rens θ F) F') : View 0 F H F' H' := by
  have hl := blks_len hb
  have hg := blks_get hb
  refine ⟨θ, hl, Nat.zero_le _, fun i hi => by omega, fun i hi => (hg i hi).1, fun i j b b' h1 h2 he => ?_, fun i b h => ?_, by rw [← wk_length hF', rens_eq]; simp, fun k v hk => ?_⟩
  · have hi : i < θ.length := by rw [hl]; exact (List.getElem?_eq_some_iff.1 h1).1
    have hj : j < θ.length := by rw [hl]; exact (List.getElem?_eq_some_iff.1 h2).1
    simp only [List.getD, List.getElem?_eq_getElem hi, List.getElem?_eq_getElem hj, Option.getD_some] at he
    exact (List.getElem_inj hnd).1 he
  · have hi : i < θ.length := by rw [hl]; exact (List.getElem?_eq_some_iff.1 h).1
    obtain ⟨g1, g2⟩ := (hg i hi).2 b h
    refine ⟨_, g2, by rw [rens_eq]; simp, rfl, fun k v hk => ?_⟩
    rw [bnds_eq, List.all_eq_true] at g1
    refine ⟨by rw [hl]; exact g1 v (List.mem_of_getElem? hk), .inr ?_⟩
    rw [rens_eq]; simp [hk]
  · rw [bnds_eq, List.all_eq_true] at hF
    refine ⟨by rw [hl]; exact hF v (List.mem_of_getElem? hk), ?_⟩
    rcases wk_get hF' k (Go.Am.ren θ v) (by rw [rens_eq]; simp [hk]) with h | h
    · left
      cases v with
      | undef => rfl
      | ptr r o => cases r <;> simp [Go.Am.ren] at h
      | slice m r o n => cases r <;> simp [Go.Am.ren] at h
      | _ => simp [Go.Am.ren] at h
    · exact .inr h

theorem fr_get {N : Nat} {live : List Nat} {vs : List AV} {i : Nat} (hi : i < N) : (fl N live vs)[i]? = some ((((live.zip vs).find? fun p => Nat.beq p.1 i).map (·.2)).getD .undef) := by
  simp [fl, fr, hi]
theorem rens_find (θ : List Nat) (i : Nat) : ∀ (live : List Nat) (vs : List AV), ((live.zip (rens θ vs)).find? fun p => Nat.beq p.1 i) = ((live.zip vs).find? fun p => Nat.beq p.1 i).map fun p => (p.1, ren θ p.2)
  | [], vs => by simp
  | x :: live, [] => by simp [rens]
  | x :: live, v :: vs => by
    simp only [rens, List.zip_cons_cons, List.find?_cons]
    split
    · rfl
    · exact rens_find θ i live vs
/-- frames by their live slots, seen with other numbers -/
theorem View.frames {N : Nat} {live : List Nat} {θ : List Nat} {vs vs' : List AV} {H H' : Hp} (hnd : θ.Nodup) (hb : blks θ H' H.length θ H) (hl : vs'.length = vs.length) (hll : live.length = vs.length) (hF : bnds H.length vs = true) (hF' : vs' = rens θ vs) : View 0 (fl N live vs) H (fl N live vs') H' := by
  refine View.ren hnd hb ?_ ?_
  · rw [bnds_eq, List.all_eq_true]
    intro v hv
    obtain ⟨i, hi⟩ := List.getElem?_of_mem hv
    rcases fl_get hi with rfl | ⟨j, _, hj⟩
    · simp [bnd]
    · rw [bnds_eq, List.all_eq_true] at hF
      exact hF v (List.mem_of_getElem? hj)
  · have : rens θ (fl N live vs) = fl N live vs' := by
      rw [hF', rens_eq]
      apply List.ext_getElem?
      intro i
      rw [List.getElem?_map]
      by_cases hi : i < N
      · rw [fr_get hi, fr_get hi, rens_find]
        cases (live.zip vs).find? fun p => Nat.beq p.1 i with
        | none => simp [Go.Am.ren]
        | some p => simp
      · have e1 : (fl N live vs)[i]? = none := List.getElem?_eq_none (by rw [fl_length]; omega)
        have e2 : (fl N live (rens θ vs))[i]? = none := List.getElem?_eq_none (by rw [fl_length]; omega)
        rw [e1, e2]; rfl
    rw [this]
    exact wk_refl _

/-! ### summaries, one by one -/
abbrev Sum1 := List AV → Hp → Option (Bool × AV × List Hop)
def sums : List (FuncId × Sum1) → Sums
  | [], _, _, _ => none
  | (g, s) :: l, f, args, H => match Nat.beq f g with
    | true => s args H
    | false => sums l f args H
def SumOk (C : Ctx) (f : FuncId) (s : Sum1) : Prop := ∀ args H v hs, s args H = some (true, v, hs) → ACalls C f args H fun v' H' => v' = v ∧ H' = acts H hs
theorem sums_nil (C : Ctx) : SumsOk C (sums []) := fun _ _ _ _ _ h => by simp [sums] at h
theorem sums_cons {C : Ctx} {g : FuncId} {s : Sum1} {l : List (FuncId × Sum1)} (h1 : SumOk C g s) (h2 : SumsOk C (sums l)) : SumsOk C (sums ((g, s) :: l)) := by
  intro f args H v hs h
  simp only [sums] at h
  split at h
  · rename_i hf
    rw [Nat.eq_of_beq_eq_true hf]
    exact h1 args H v hs h
  · exact h2 f args H v hs h

/-! ### loops, one by one -/
def lps (e : Nat) (a b : Loops) : Loops := fun c F H => match exOf c with
  | some i => match Nat.beq i e with
    | true => a c F H
    | false => b c F H
  | none => none
def LoopOk (C : Ctx) (c : Code) (l : Loops) : Prop := ∀ F H e F' H', l c F H = some (true, e, F', H') → AWp C 0 (.loop c) F H fun e' F'' H'' => e' = e ∧ F'' = F' ∧ H'' = H'
theorem LoopOk.left {C : Ctx} {c : Code} {e : Nat} {a b : Loops} (he : exOf c = some e) (h : LoopOk C c a) : LoopOk C c (lps e a b) := by
  intro F H e' F' H' h'
  simp only [lps, he, Nat.beq_refl] at h'
  exact h F H e' F' H' h'
theorem LoopOk.right {C : Ctx} {c : Code} {e i : Nat} {a b : Loops} (he : exOf c = some i) (hi : Nat.beq i e = false) (h : LoopOk C c b) : LoopOk C c (lps e a b) := by
  intro F H e' F' H' h'
  simp only [lps, he, hi] at h'
  exact h F H e' F' H' h'
theorem LoopsOk.nil {C : Ctx} {l : Loops} : LoopsOk C [] l := fun c F H e F' H' h => by simp at h
theorem LoopsOk.cons {C : Ctx} {c : Code} {cs : List Code} {l : Loops} (h1 : LoopOk C c l) (h2 : LoopsOk C cs l) : LoopsOk C (c :: cs) l := by
  intro c' F H e F' H' h h'
  rcases List.mem_cons.1 h with rfl | h
  · exact h1 F H e F' H' h'
  · exact h2 c' F H e F' H' h h'
theorem LoopsOk.cast {C : Ctx} {cs ds : List Code} {l : Loops} (h : LoopsOk C ds l) (e : cs = ds) : LoopsOk C cs l := by rw [e]; exact h
theorem ls_ok {C : Ctx} {c : Code} {N : Nat} {live : List Nat} {S : List AV → Hp → Option (Bool × Ex × List AV × Hp)}
    (hS : ∀ vs H e vs' H', S vs H = some (true, e, vs', H') → AWp C 0 (.loop c) (fl N live vs) H (lv N live fun e' vs'' H'' => e' = e ∧ wk vs' vs'' ∧ H'' = H')) : LoopOk C c (fun _ F H => lsum N live S F H) :=
  fun _ _ _ _ _ h => lsum_sound hS h
/-- a loop whose heap is trimmed behind it -/
theorem lv_ok {C : Ctx} {c : Code} {N : Nat} {live : List Nat} {S : List AV → Hp → Option (Bool × Ex × List AV × Hp)}
    (hS : ∀ vs H e vs' H', S vs H = some (true, e, vs', H') → AWp C 0 (.loop c) (fl N live vs) H (lv N live fun e' vs'' H'' => e' = e ∧ View 0 vs' H' vs'' H'')) : LoopOk C c (fun _ F H => lsum N live S F H) := by
  intro F H e F' H' h
  have h : lsum N live S F H = some (true, e, F', H') := h
  unfold lsum at h
  split at h
  · rename_i b ae vs H2 hs
    split at h
    rotate_left
    · simp at h
    rename_i hN
    simp only [Option.some.injEq, Prod.mk.injEq] at h
    obtain ⟨rfl, rfl, rfl, rfl⟩ := h
    refine AWp.rd live (Nat.eq_of_beq_eq_true hN) ?_
    intro ρ a w hH hF
    refine Code.wp_mono ?_ (hS _ _ _ _ _ hs ρ a w hH hF)
    rintro e a' w' ⟨ae, ρ', F', H', rfl, h2, h3, h4, h5, h6⟩
    obtain ⟨h7, h8, hv⟩ := chk_true h2
    have hN : F'.length = N := Nat.eq_of_beq_eq_true h7
    obtain ⟨ρ3, g1, g2, g3, g4⟩ := hv.live (N := N) (live := live) (a := a') h4 h5.nod (by rw [← h5.len, hN]) (by simp [rdF]) fun j i v q1 q2 => by
      simp only [rdF, List.getElem?_map, q1, Option.map_some, Option.some.injEq] at q2
      subst q2
      by_cases hi : i < F'.length
      · exact h5.val i _ (by simp [List.getD, hi])
      · simp [List.getD, hi, VR]
    exact ⟨ae, ρ3, _, _, rfl, ⟨h8, rfl, rfl⟩, h3.trans g3, g1, g2, h6.trans g4⟩
  · simp at h
theorem wk_undef {x : AV} {a b : List AV} (h : wk a b) : wk (.undef :: a) (x :: b) := h
theorem wk_eq {x : AV} {a b : List AV} (h : wk a b) : wk (x :: a) (x :: b) := by cases x <;> first | exact h | exact ⟨rfl, h⟩
end Go.Am
