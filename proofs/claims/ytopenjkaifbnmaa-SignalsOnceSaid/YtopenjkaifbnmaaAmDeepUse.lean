/-
  The machine over written terms, as it is used: calls, pieces of code, loops by their live slots, summaries.
-/
import Derived.Test.YtopenjkaifbnmaaAmDeepSound
namespace Go.Am
variable {C : Ctx}

def f0 (n : Nat) : Facts := ⟨n, []⟩
/-- a function's tree: what it hands back, and so many blocks of its heap -/
def dcall (K : DCfg) (fuel n0 : Nat) (fn : Func) (args : List EV) (H : DHp) (keep : Nat) : T :=
  dx K fuel H.length (.code (bodyOf fn)) (frameD fn args) H (f0 n0) (retD K.P fn fun v H' _ => .ret v (H'.take keep))
/-- what it hands back alone -/
def dlaw (K : DCfg) (fuel n0 : Nat) (fn : Func) (args : List EV) (H : DHp) : T :=
  dx K fuel H.length (.code (bodyOf fn)) (frameD fn args) H (f0 n0) (retD K.P fn fun v _ _ => .ret v [])
def rdD (live : List Nat) (F : DFr) : List EV := live.map fun i => F.getD i .undef
def flD (N : Nat) (live : List Nat) (vs : List EV) : DFr := (List.range N).map fun i => (((live.zip vs).find? fun p => Nat.beq p.1 i).map (·.2)).getD .undef
def finL (N : Nat) (live : List Nat) : DK := fun e F H _ => match Nat.beq F.length N with
  | true => .leaf e (rdD live F) H
  | false => .fail
/-- a loop's round -/
def dloop (K : DCfg) (fuel n0 m : Nat) (c : Code) (N : Nat) (live : List Nat) (vs : List EV) (H : DHp) : T :=
  dx K fuel m (.code c) (flD N live vs) H (f0 n0) (finL N live)

theorem vVs_fl {G : Nat → List AV} (N : Nat) (live : List Nat) (vs : List EV) : vVs G (flD N live vs) = fl N live (vVs G vs) := by
  unfold flD fl fr
  rw [vVs_map, List.map_map]
  refine List.map_congr_left fun i _ => ?_
  simp only [Function.comp]
  induction live generalizing vs with
  | nil => simp [vV]
  | cons x live ih =>
    cases vs with
    | nil => simp [vV, vVs]
    | cons v vs =>
      simp only [vVs, List.zip_cons_cons, List.find?_cons]
      split
      · rename_i h
        simp only [Option.map_some, Option.getD_some]
      · rename_i h
        exact ih vs
theorem vVs_rd {G : Nat → List AV} (live : List Nat) (F : DFr) : vVs G (rdD live F) = rdF live (vVs G F) := by
  unfold rdD rdF
  rw [vVs_map, List.map_map]
  refine List.map_congr_left fun i _ => ?_
  simp only [Function.comp, vVs_getD]

theorem dcall_ok {K : DCfg} {fuel n0 : Nat} {f : FuncId} {fn : Func} {args : List EV} {H : DHp} {keep : Nat} {R : AV → Hp → Prop} (hK : DGood C K (loopsOf (bodyOf fn))) (hf : C.P.funcs[f]? = some fn) (hb : fn.body = some (bodyOf fn)) (hn : (fn.name == "runtime.NumGoroutine") = false)
    (h : vT C.G (fun _ _ _ => False) R (dcall K fuel n0 fn args H keep)) : ACalls C f (vVs C.G args) (vHp C.G H) fun v H' => R v (H'.take keep) := by
  refine acalls_of hf hb hn fun ρ a w hH hF => ?_
  have := dx_sound hK fuel H.length (.code (bodyOf fn)) (frameD fn args) H (f0 n0) _ (retK C fn fun v H' => R v (H'.take keep)) (fun _ _ _ => False) R (fun e F1 H1 fs1 ht => by
    unfold retD at ht
    split at ht
    · exact ht.elim
    · rename_i hne
      obtain ⟨cc, v, q1, q2, q3⟩ := vT_opT ht
      rw [hK.hP] at q1
      have e1 := res_wo rfl _ _ q1 q2
      have e2 : vHp C.G (H1.take keep) = (vHp C.G H1).take keep := by simp only [vHp, List.map_take]
      simp only [vT, e2] at q3
      cases e with
      | exit i => exact absurd rfl (hne i)
      | normal => simp only [retK]; rw [e1]; exact q3
      | ret => simp only [retK]; rw [e1]; exact q3) (fun b hb => hb) h
  simp only [vWk, frame_ok] at this
  have := this ρ a w (by simp [vHp_length]) hH hF
  rw [← vHp_length (G := C.G) H] at this
  exact this
theorem dlaw_ok {K : DCfg} {fuel n0 : Nat} {f : FuncId} {fn : Func} {args : List EV} {H : DHp} {R : AV → Hp → Prop} (hK : DGood C K (loopsOf (bodyOf fn))) (hf : C.P.funcs[f]? = some fn) (hb : fn.body = some (bodyOf fn)) (hn : (fn.name == "runtime.NumGoroutine") = false)
    (h : vT C.G (fun _ _ _ => False) R (dlaw K fuel n0 fn args H)) : ACalls C f (vVs C.G args) (vHp C.G H) fun v _ => R v [] := by
  refine acalls_of hf hb hn fun ρ a w hH hF => ?_
  have := dx_sound hK fuel H.length (.code (bodyOf fn)) (frameD fn args) H (f0 n0) _ (retK C fn fun v H' => R v []) (fun _ _ _ => False) R (fun e F1 H1 fs1 ht => by
    unfold retD at ht
    split at ht
    · exact ht.elim
    · rename_i hne
      obtain ⟨cc, v, q1, q2, q3⟩ := vT_opT ht
      rw [hK.hP] at q1
      have e1 := res_wo rfl _ _ q1 q2
      cases e with
      | exit i => exact absurd rfl (hne i)
      | normal => simp only [retK]; rw [e1]; exact q3
      | ret => simp only [retK]; rw [e1]; exact q3) (fun b hb => hb) h
  simp only [vWk, frame_ok] at this
  have := this ρ a w (by simp [vHp_length]) hH hF
  rw [← vHp_length (G := C.G) H] at this
  exact this
theorem dloop_ok {K : DCfg} {fuel n0 m : Nat} {c : Code} {N : Nat} {live : List Nat} {vs : List EV} {H : DHp} {Q : Ex → List AV → Hp → Prop} (hK : DGood C K (loopsOf c)) (hm : m ≤ H.length)
    (h : vT C.G Q (fun _ _ => False) (dloop K fuel n0 m c N live vs H)) : AWp C m c (fl N live (vVs C.G vs)) (vHp C.G H) (lv N live Q) := by
  have := dx_sound hK fuel m (.code c) (flD N live vs) H (f0 n0) _ (lv N live Q) Q (fun _ _ => False) (fun e F1 H1 fs1 ht => by
    unfold finL at ht
    split at ht
    · rename_i hb
      simp only [vT, vVs_rd] at ht
      simp only [lv, vVs_length, hb]
      exact ht
    · exact ht.elim) (fun b hb => hb) h
  rw [vVs_fl] at this
  exact fun ρ a w hH hF => this ρ a w (by simpa [vHp_length] using hm) hH hF

/-! ### summaries of calls -/
abbrev DSum := List EV → DHp → Option Outs
def dsums : List (Nat × DSum) → FuncId → List EV → DHp → Option Outs
  | [], _, _, _ => none
  | (g, s) :: l, f, args, H => match Nat.beq g f with
    | true => s args H
    | false => dsums l f args H
def DSumOk (C : Ctx) (f : FuncId) (s : DSum) : Prop := ∀ args H o, s args H = some o → oAll C.G (DOut C f args H) o
def DSumsOk (C : Ctx) (l : List (Nat × DSum)) : Prop := ∀ f args H o, dsums l f args H = some o → oAll C.G (DOut C f args H) o
theorem DSumsOk.nil : DSumsOk C [] := fun f args H o h => by simp [dsums] at h
theorem DSumsOk.cons {g : Nat} {s : DSum} {l : List (Nat × DSum)} (h : DSumOk C g s) (k : DSumsOk C l) : DSumsOk C ((g, s) :: l) := by
  intro f args H o ho
  simp only [dsums] at ho
  split at ho
  · rename_i hg
    have := Nat.eq_of_beq_eq_true hg
    subst this
    exact h args H o ho
  · exact k f args H o ho
/-- a proved summary of the abstract machine, in written terms -/
theorem DOut.of {f : FuncId} {s : Sum1} (hs : SumOk C f s) {args : List EV} {H : DHp} {v : EV} {hs' : List DHop} (h : s (vVs C.G args) (vHp C.G H) = some (true, vV C.G v, hs'.map (vHop C.G))) : DOut C f args H v hs' :=
  hs _ _ _ _ h

/-! ### summaries of loops -/
/-- of the live slots -/
abbrev DLoop := List EV → DHp → Option LOut
def lmap (N : Nat) (live : List Nat) : LOut → LOut
  | .one e vs H => .one e (flD N live vs) H
  | .chk b x => .chk b (lmap N live x)
  | .tst b x y => .tst b (lmap N live x) (lmap N live y)
  | .imp b x => .imp b (lmap N live x)
  | .allI k => .allI fun x => lmap N live (k x)
  | .allN k => .allN fun x => lmap N live (k x)
  | .allB k => .allB fun x => lmap N live (k x)
  | .allL k => .allL fun x => lmap N live (k x)
  | .namI e k => .namI e fun x => lmap N live (k x)
  | .namN e k => .namN e fun x => lmap N live (k x)
  | .namB e k => .namB e fun x => lmap N live (k x)
  | .namL e k => .namL e fun x => lmap N live (k x)
/-- the loop with this exit -/
structure DL where
  ex : Nat
  N : Nat
  live : List Nat
  S : DLoop
def dloops : List DL → Code → DFr → DHp → Option LOut
  | [], _, _, _ => none
  | d :: l, c, F, H => match exOf c with
    | some i => match Nat.beq i d.ex with
      | true => match Nat.beq F.length d.N with
        | true => match d.S (rdD d.live F) H with
          | some o => some (lmap d.N d.live o)
          | none => none
        | false => none
      | false => dloops l c F H
    | none => none
theorem lHolds_map {G : Nat → List AV} {Q : Ex → DFr → DHp → Prop} {N : Nat} {live : List Nat} : ∀ (o : LOut) (n : Nat), lHolds G Q n (lmap N live o) → lHolds G (fun e vs H => Q e (flD N live vs) H) n o
  | .one e F H, n, h => h
  | .chk b x, n, h => ⟨h.1, lHolds_map x n h.2⟩
  | .tst b x y, n, h => ⟨fun hb => lHolds_map x n (h.1 hb), fun hb => lHolds_map y n (h.2 hb)⟩
  | .imp b x, n, h => fun hb => lHolds_map x n (h hb)
  | .allI f, n, h => fun x => lHolds_map (f (.var n x)) (n + 1) (h x)
  | .allN f, n, h => fun x => lHolds_map (f (.var n x)) (n + 1) (h x)
  | .allB f, n, h => fun x => lHolds_map (f (.var n x)) (n + 1) (h x)
  | .allL f, n, h => fun x => lHolds_map (f (.var n x)) (n + 1) (h x)
  | .namI e f, n, h => lHolds_map (f (.var n _)) (n + 1) h
  | .namN e f, n, h => lHolds_map (f (.var n _)) (n + 1) h
  | .namB e f, n, h => lHolds_map (f (.var n _)) (n + 1) h
  | .namL e f, n, h => lHolds_map (f (.var n _)) (n + 1) h
/-- behind a loop: its live slots, or another view of them -/
def Lp (m : Nat) (Q : Ex → List AV → Hp → Prop) (e : Ex) (vs'' : List AV) (H'' : Hp) : Prop := (∃ vs', wk vs' vs'' ∧ Q e vs' H'') ∨ ∃ vs' H', View m vs' H' vs'' H'' ∧ Q e vs' H'
/-- what a loop's summary owes -/
def DLoopOk (C : Ctx) (M : Nat) (c : Code) (d : DL) : Prop :=
  ∀ m vs H o, m ≤ M → d.S vs H = some o → ∀ n (Q : Ex → List AV → Hp → Prop), lHolds C.G (fun e vs' H' => Q e (vVs C.G vs') (vHp C.G H')) n o →
    AWp C m (.loop c) (fl d.N d.live (vVs C.G vs)) (vHp C.G H) (lv d.N d.live (Lp m Q))
def DLoopsOk (C : Ctx) (M : Nat) (cs : List Code) (ls : Code → DFr → DHp → Option LOut) : Prop := ∀ m c F H o, m ≤ M → c ∈ cs → ls c F H = some o → ∀ n (Q : Post), lHolds C.G (fun e F' H' => Q e (vVs C.G F') (vHp C.G H')) n o → AWp C m (.loop c) (vVs C.G F) (vHp C.G H) Q
theorem DLoopsOk.nil {M : Nat} {ls : Code → DFr → DHp → Option LOut} : DLoopsOk C M [] ls := fun m c F H o _ h => by simp at h
theorem AWp.wkd {m : Nat} {c : Code} {F : Fr} {H : Hp} {N : Nat} {live : List Nat} {Q : Ex → List AV → Hp → Prop} {Q' : Post} (h : AWp C m c F H (lv N live (Lp m Q))) (hq : ∀ e vs H', Q e vs H' → Q' e (fl N live vs) H') : AWp C m c F H Q' := by
  intro ρ a w hH hF
  refine Code.wp_mono ?_ (h ρ a w hH hF)
  rintro e a' w' ⟨ae, ρ', F', H', rfl, h2, h3, h4, h5, h6⟩
  obtain ⟨h7, h8⟩ := chk_true h2
  have hN : F'.length = N := Nat.eq_of_beq_eq_true h7
  rcases h8 with ⟨vs', h8, h9⟩ | ⟨vs', H1, h8, h9⟩
  · exact ⟨ae, ρ', _, H', rfl, hq _ _ _ h9, h3, h4, wk_rel h5 hN h8, h6⟩
  · obtain ⟨ρ2, g1, g2, g3, g4⟩ := h8.live (N := N) (live := live) h4 h5.nod (by rw [← h5.len, hN]) (by simp [rdF]) (fun j i v q1 q2 => by
      simp only [rdF, List.getElem?_map, q1, Option.map_some, Option.some.injEq] at q2
      subst q2
      by_cases hi : i < F'.length
      · exact h5.val i _ (by simp [List.getD, hi])
      · simp [List.getD, hi, VR])
    exact ⟨ae, ρ2, _, H1, rfl, hq _ _ _ h9, h3.trans g3, g1, g2, h6.trans g4⟩
/-- the loop's exit: its place in the list -/
def dpick (i : Nat) : List DL → Option DL
  | [] => none
  | d :: l => match Nat.beq i d.ex with
    | true => some d
    | false => dpick i l
theorem dloops_pick {c : Code} {F : DFr} {H : DHp} {o : LOut} {i : Nat} (he : exOf c = some i) : ∀ (l : List DL), dloops l c F H = some o → ∃ d, dpick i l = some d ∧ F.length = d.N ∧ ∃ o', d.S (rdD d.live F) H = some o' ∧ o = lmap d.N d.live o'
  | [], h => by simp [dloops] at h
  | d :: l, h => by
    simp only [dloops, he] at h
    simp only [dpick]
    split at h
    · rename_i hi
      split at h
      · rename_i hN
        split at h
        · rename_i o' ho
          simp at h; subst h
          exact ⟨d, rfl, Nat.eq_of_beq_eq_true hN, o', ho, rfl⟩
        · simp at h
      · simp at h
    · exact dloops_pick he l h
theorem DLoopsOk.cons {M : Nat} {c : Code} {cs : List Code} {l : List DL} {d : DL} {i : Nat} (he : exOf c = some i) (hp : dpick i l = some d) (h : DLoopOk C M c d) (k : DLoopsOk C M cs (dloops l)) : DLoopsOk C M (c :: cs) (dloops l) := by
  intro m c' F H o hm hc ho n Q hQ
  rcases List.mem_cons.1 hc with rfl | hc
  · obtain ⟨d', h1, h2, o', h3, rfl⟩ := dloops_pick he l ho
    rw [hp] at h1
    simp at h1; subst h1
    have := h m _ _ _ hm h3 n (fun e vs H' => Q e (fl d.N d.live vs) H') (by
      have := lHolds_map o' n hQ
      refine lHolds_mono (fun e vs H' hq => ?_) o' n this
      rw [vVs_fl] at hq
      exact hq)
    have := this.wkd (Q' := Q) fun e vs H' h => h
    intro ρ a w hH hF
    refine this ρ a w hH ?_
    have := rd_rel (live := d.live) (N := d.N) hF (by rw [vVs_length]; exact h2)
    rw [vVs_rd]
    exact this
  · exact k m c' F H o hm hc ho n Q hQ
theorem DLoopsOk.cast {M : Nat} {cs ds : List Code} {ls : Code → DFr → DHp → Option LOut} (h : DLoopsOk C M ds ls) (e : cs = ds) : DLoopsOk C M cs ls := by rw [e]; exact h
/-- a loop that ends one way -/
theorem lone {m m' : Nat} {c : Code} {N : Nat} {live : List Nat} {vs : List AV} {H : Hp} {e : Ex} {vs' : List EV} {H' : DHp} {Q : Ex → List AV → Hp → Prop}
    (h : AWp C m c (fl N live vs) H (lv N live fun e' vs'' H'' => e' = e ∧ wk (vVs C.G vs') vs'' ∧ H'' = vHp C.G H')) (hq : Q e (vVs C.G vs') (vHp C.G H')) :
    AWp C m c (fl N live vs) H (lv N live (Lp m' Q)) :=
  h.lmono fun e' vs'' H'' ⟨h1, h2, h3⟩ => .inl ⟨_, h2, by rw [h1, h3]; exact hq⟩
theorem View.pin {m m' : Nat} (hm : m' ≤ m) {F F' : Fr} {H H' : Hp} (h : View m F H F' H') : View m' F H F' H' := by
  obtain ⟨θ, g1, g2, g3, g4⟩ := h.ex
  exact ⟨θ, g1, by omega, fun i hi => g3 i (by omega), g4⟩
theorem Lp.pin {m m' : Nat} (hm : m' ≤ m) {Q : Ex → List AV → Hp → Prop} {e : Ex} {vs : List AV} {H : Hp} (h : Lp m Q e vs H) : Lp m' Q e vs H := by
  rcases h with h | ⟨vs', H', h1, h2⟩
  · exact .inl h
  · exact .inr ⟨vs', H', h1.pin hm, h2⟩
/-! ### everyday configurations -/
/-- the functions of this list are entered; calls and loops by their summaries; so many blocks stay where they are -/
def Dc (P : Program) (inl : List Nat) (sums : List (Nat × DSum)) (ls : List DL) (M : Nat) : DCfg := { P := P, inl := has inl, sum := dsums sums, loop := dloops ls, M := M }
theorem dgood {P : Program} {G : Nat → List AV} {B : Nat} {inl : List Nat} {sums : List (Nat × DSum)} {ls : List DL} {M : Nat} {cs : List Code} (hm : P.follows .mixedOrders = true) (hp : plainFs P inl = true) (hs : DSumsOk ⟨P, G, B⟩ sums) (hl : DLoopsOk ⟨P, G, B⟩ M cs (dloops ls)) :
    DGood ⟨P, G, B⟩ (Dc P inl sums ls M) cs :=
  ⟨rfl, hm, hs, hl, plain_inl hp⟩
end Go.Am
