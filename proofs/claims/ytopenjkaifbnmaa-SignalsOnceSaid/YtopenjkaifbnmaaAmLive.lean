/-
  Frames by their live slots: loops and their summaries.
-/
import Derived.Test.YtopenjkaifbnmaaAmRo
namespace Go.Am
open Go.RowKit

def fl (N : Nat) (live : List Nat) (vs : List AV) : Fr := fr N (live.zip vs)
def rdF (live : List Nat) (F : Fr) : List AV := live.map fun i => F.getD i .undef
/-- a post-condition on the live slots -/
def lv (N : Nat) (live : List Nat) (Q : Ex → List AV → Hp → Prop) : Post := fun e F H => chk (Nat.beq F.length N) (Q e (rdF live F) H)

theorem chk_true {c : Bool} {K : Prop} (h : chk c K) : c = true ∧ K := by cases c; exact h.elim; exact ⟨rfl, h⟩

theorem fl_length {N : Nat} {live : List Nat} {vs : List AV} : (fl N live vs).length = N := by simp [fl, fr]

theorem find_zip {i i' : Nat} {v : AV} : ∀ {live : List Nat} {vs : List AV}, ((live.zip vs).find? fun p => Nat.beq p.1 i) = some (i', v) → ∃ j : Nat, live[j]? = some i ∧ vs[j]? = some v ∧ i' = i
  | [], vs, h => by simp at h
  | x :: live, [], h => by simp at h
  | x :: live, y :: vs, h => by
    simp only [List.zip_cons_cons, List.find?_cons] at h
    split at h
    · rename_i hx
      simp at h
      exact ⟨0, by simp [Nat.eq_of_beq_eq_true hx], by simp [h.2], by rw [← h.1]; exact Nat.eq_of_beq_eq_true hx⟩
    · obtain ⟨j, h1, h2, h3⟩ := find_zip h
      exact ⟨j + 1, by simpa using h1, by simpa using h2, h3⟩

theorem fl_get {N : Nat} {live : List Nat} {vs : List AV} {i : Nat} {v : AV} (h : (fl N live vs)[i]? = some v) : v = .undef ∨ ∃ j : Nat, live[j]? = some i ∧ vs[j]? = some v := by
  simp only [fl, fr, List.getElem?_map] at h
  obtain ⟨k, hk, rfl⟩ := Option.map_eq_some_iff.1 h
  have hki : k = i := by
    have := List.getElem?_eq_some_iff.1 hk
    obtain ⟨h1, h2⟩ := this
    simp at h2; exact h2.symm
  subst hki
  cases hf : (live.zip vs).find? fun p => Nat.beq p.1 k with
  | none => exact .inl (by simp)
  | some p =>
    obtain ⟨i', v⟩ := p
    obtain ⟨j, h1, h2, _⟩ := find_zip hf
    exact .inr ⟨j, h1, by simp [h2]⟩

theorem fl_rel {N : Nat} {live : List Nat} {vs : List AV} {ρ : Env} {a : Act} (hd : a.defers = []) (hN : a.tmps.size = N) (h : ∀ (j i : Nat) v, live[j]? = some i → vs[j]? = some v → VR ρ v (a.tmps.getD i undef)) : FRel ρ (fl N live vs) a := by
  refine ⟨hd, by rw [fl_length, hN], fun i v hv => ?_⟩
  rcases fl_get hv with rfl | ⟨j, h1, h2⟩
  · simp [VR]
  · exact h j i v h1 h2

theorem rd_rel {N : Nat} {live : List Nat} {F : Fr} {ρ : Env} {a : Act} (h : FRel ρ F a) (hN : F.length = N) : FRel ρ (fl N live (rdF live F)) a := by
  refine fl_rel h.nod (by rw [← h.len, hN]) fun j i v h1 h2 => ?_
  simp only [rdF, List.getElem?_map, h1, Option.map_some, Option.some.injEq] at h2
  subst h2
  by_cases hi : i < F.length
  · exact h.val i _ (by simp [List.getD, hi])
  · simp [List.getD, hi, VR]

theorem AWp.rd {C : Ctx} {m : Nat} {c : Code} {F : Fr} {H : Hp} {Q : Post} {N : Nat} (live : List Nat) (hN : F.length = N) (h : AWp C m c (fl N live (rdF live F)) H Q) : AWp C m c F H Q :=
  fun ρ a w hH hF => h ρ a w hH (rd_rel hF hN)

/-- behind a piece of code the live slots are all one needs -/
theorem AWp.lvd {C : Ctx} {m : Nat} {c : Code} {F : Fr} {H : Hp} {N : Nat} {live : List Nat} {Q : Ex → List AV → Hp → Prop} {Q' : Post} (h : AWp C m c F H (lv N live Q)) (hq : ∀ e vs H', Q e vs H' → Q' e (fl N live vs) H') : AWp C m c F H Q' := by
  intro ρ a w hH hF
  refine Code.wp_mono ?_ (h ρ a w hH hF)
  rintro e a' w' ⟨ae, ρ', F', H', rfl, h2, h3, h4, h5, h6⟩
  obtain ⟨h7, h8⟩ := chk_true h2
  exact ⟨ae, ρ', _, H', rfl, hq _ _ _ h8, h3, h4, rd_rel h5 (Nat.eq_of_beq_eq_true h7), h6⟩

theorem View.live {C : Ctx} {m : Nat} {N : Nat} {live : List Nat} {vs vs' : List AV} {H H' : Hp} (hv : View m vs H vs' H') {ρ' : Env} {a : Act} {w : World} (hH : HRel C ρ' H' w) (hd : a.defers = []) (hN : a.tmps.size = N)
    (hl : vs'.length = live.length) (hF : ∀ (j i : Nat) v, live[j]? = some i → vs'[j]? = some v → VR ρ' v (a.tmps.getD i undef)) :
    ∃ ρ, HRel C ρ H w ∧ FRel ρ (fl N live vs) a ∧ Pin m ρ' ρ ∧ Frm ρ' w ρ w := by
  have hF1 : FRel ρ' vs' ⟨(live.map fun i => a.tmps.getD i undef).toArray, []⟩ := by
    refine ⟨rfl, by simp [hl], fun j v hj => ?_⟩
    have hjl : j < live.length := by rw [← hl]; exact (List.getElem?_eq_some_iff.1 hj).1
    have := hF j live[j] v (List.getElem?_eq_getElem hjl) hj
    simpa [Array.getD_eq_getD_getElem?, hjl] using this
  obtain ⟨ρ, g1, g2, g3, g4⟩ := hv.use hH hF1
  refine ⟨ρ, g1, fl_rel hd hN fun j i v h1 h2 => ?_, g3, g4⟩
  have := g2.val j v h2
  simpa [Array.getD_eq_getD_getElem?, h1] using this

/-- A loop by what its live slots and its heap hold at its head. -/
theorem aloop_lv {C : Ctx} {m : Nat} {c : Code} {N : Nat} {live : List Nat} {vs : List AV} {H : Hp} {Q : Ex → List AV → Hp → Prop} (I : Nat → List AV → Hp → Prop) (k0 : Nat) (h0 : I k0 vs H)
    (round : ∀ k vs H, I k vs H → AWp C m c (fl N live vs) H (lv N live fun e vs' H' => match e with
      | .normal => ∃ k', k' < k ∧ (I k' vs' H' ∨ ∃ vs'' H'', I k' vs'' H'' ∧ View m vs'' H'' vs' H')
      | e => Q e vs' H')) : AWp C m (.loop c) (fl N live vs) H (lv N live Q) := by
  intro ρ a w hH hF
  refine wp_loop_ghost (fun n a' w' => ∃ ρ' vs' H', I n vs' H' ∧ HRel C ρ' H' w' ∧ FRel ρ' (fl N live vs') a' ∧ Pin m ρ ρ' ∧ Frm ρ w ρ' w') k0 ⟨ρ, vs, H, h0, hH, hF, Pin.refl m ρ, Frm.refl ρ w⟩ ?_
  rintro n a1 w1 ⟨ρ1, F1, H1, hI, hH1, hF1, hp1, hf1⟩
  refine Code.wp_mono ?_ (round n F1 H1 hI ρ1 a1 w1 hH1 hF1)
  rintro e a2 w2 ⟨ae, ρ2, F2, H2, rfl, h2, h3, h4, h5, h6⟩
  obtain ⟨h7, h8⟩ := chk_true h2
  have hN : F2.length = N := Nat.eq_of_beq_eq_true h7
  have hF2 := rd_rel (live := live) h5 hN
  cases ae with
  | normal =>
    obtain ⟨n', hlt, hi | ⟨vs'', H'', hI', hv⟩⟩ := h8
    · exact ⟨n', hlt, ρ2, _, H2, hi, h4, hF2, hp1.trans h3, hf1.trans h6⟩
    · obtain ⟨ρ3, g1, g2, g3, g4⟩ := hv.live (N := N) (live := live) (a := a2) h4 h5.nod (by rw [← h5.len, hN]) (by simp [rdF]) fun j i v q1 q2 => by
        simp only [rdF, List.getElem?_map, q1, Option.map_some, Option.some.injEq] at q2
        subst q2
        by_cases hi : i < F2.length
        · exact h5.val i _ (by simp [List.getD, hi])
        · simp [List.getD, hi, VR]
      exact ⟨n', hlt, ρ3, vs'', H'', hI', g1, g2, (hp1.trans h3).trans g3, (hf1.trans h6).trans g4⟩
  | exit i => exact ⟨.exit i, ρ2, _, H2, rfl, by simp only [lv]; rw [show F2.length.beq N = true from h7]; exact h8, hp1.trans h3, h4, h5, hf1.trans h6⟩
  | ret => exact ⟨.ret, ρ2, _, H2, rfl, by simp only [lv]; rw [show F2.length.beq N = true from h7]; exact h8, hp1.trans h3, h4, h5, hf1.trans h6⟩

/-- a loop's summary by its live slots -/
def lsum (N : Nat) (live : List Nat) (S : List AV → Hp → Option (Bool × Ex × List AV × Hp)) (F : Fr) (H : Hp) : Option (Bool × Ex × Fr × Hp) :=
  match S (rdF live F) H with
  | some (c, e, vs, H') => match Nat.beq F.length N with
    | true => some (c, e, fl N live vs, H')
    | false => none
  | none => none

/-- what is said of some slots, weakened -/
def wk : List AV → List AV → Prop
  | [], [] => True
  | .undef :: a, _ :: b => wk a b
  | x :: a, y :: b => y = x ∧ wk a b
  | _, _ => False

theorem wk_get : ∀ {a b : List AV}, wk a b → ∀ (j : Nat) v, a[j]? = some v → v = .undef ∨ b[j]? = some v
  | [], b, _, j, v, h => by simp at h
  | x :: a, [], hw, j, v, h => by cases x <;> simp [wk] at hw
  | x :: a, y :: b, hw, j, v, h => by
    have key : (x = .undef ∨ y = x) ∧ wk a b := by
      cases x <;> simp only [wk] at hw <;> first | exact ⟨.inl rfl, hw⟩ | exact ⟨.inr hw.1, hw.2⟩
    cases j with
    | zero =>
      simp at h; subst h
      rcases key.1 with h0 | h0
      · exact .inl h0
      · exact .inr (by simp [h0])
    | succ j => simpa using wk_get key.2 j v (by simpa using h)

theorem wk_refl : ∀ (a : List AV), wk a a
  | [] => trivial
  | x :: a => by cases x <;> first | exact wk_refl a | exact ⟨rfl, wk_refl a⟩

theorem wk_rel {N : Nat} {live : List Nat} {vs : List AV} {F : Fr} {ρ : Env} {a : Act} (h : FRel ρ F a) (hN : F.length = N) (hw : wk vs (rdF live F)) : FRel ρ (fl N live vs) a := by
  refine fl_rel h.nod (by rw [← h.len, hN]) fun j i v h1 h2 => ?_
  rcases wk_get hw j v h2 with rfl | h2
  · simp [VR]
  simp only [rdF, List.getElem?_map, h1, Option.map_some, Option.some.injEq] at h2
  subst h2
  by_cases hi : i < F.length
  · exact h.val i _ (by simp [List.getD, hi])
  · simp [List.getD, hi, VR]

theorem lsum_sound {C : Ctx} {m : Nat} {c : Code} {N : Nat} {live : List Nat} {S : List AV → Hp → Option (Bool × Ex × List AV × Hp)} {F : Fr} {H : Hp} {e : Ex} {F' : Fr} {H' : Hp}
    (hS : ∀ vs H e vs' H', S vs H = some (true, e, vs', H') → AWp C m c (fl N live vs) H (lv N live fun e' vs'' H'' => e' = e ∧ wk vs' vs'' ∧ H'' = H')) (h : lsum N live S F H = some (true, e, F', H')) :
    AWp C m c F H fun e' F'' H'' => e' = e ∧ F'' = F' ∧ H'' = H' := by
  unfold lsum at h
  split at h
  · rename_i b ae vs H2 hs
    split at h
    rotate_left
    · simp at h
    rename_i hN
    simp only [Option.some.injEq, Prod.mk.injEq] at h
    obtain ⟨rfl, rfl, rfl, rfl⟩ := h
    refine AWp.rd live (Nat.eq_of_beq_eq_true hN) ?_
    intro ρ a w hH hF
    refine Code.wp_mono ?_ (hS _ _ _ _ _ hs ρ a w hH hF)
    rintro e a' w' ⟨ae, ρ', F', H', rfl, h2, h3, h4, h5, h6⟩
    obtain ⟨h7, h8, h9, h10⟩ := chk_true h2
    exact ⟨ae, ρ', _, H', rfl, ⟨h8, rfl, h10⟩, h3, h4, wk_rel h5 (Nat.eq_of_beq_eq_true h7) h9, h6⟩
  · simp at h

theorem AWp.lmono {C : Ctx} {m : Nat} {c : Code} {F : Fr} {H : Hp} {N : Nat} {live : List Nat} {Q Q' : Ex → List AV → Hp → Prop} (h : AWp C m c F H (lv N live Q)) (hq : ∀ e vs H', Q e vs H' → Q' e vs H') : AWp C m c F H (lv N live Q') :=
  h.mono fun e F' H' h => by
    obtain ⟨h1, h2⟩ := chk_true h
    simp only [lv, h1]
    exact hq _ _ _ h2

/-- the first exit of a piece of code: a loop's number -/
def exOf : Code → Option Nat
  | .exit i => some i
  | .seq a b => match exOf a with | some i => some i | none => exOf b
  | .cond _ a b => match exOf a with | some i => some i | none => exOf b
  | .block _ c => exOf c
  | .scope c => exOf c
  | _ => none

/-! ### the everyday configuration: an empty heap at first, calls by their summaries, loops by theirs -/

abbrev Sums := FuncId → List AV → Hp → Option (Bool × AV × List Hop)
abbrev Loops := Code → Fr → Hp → Option (Bool × Ex × Fr × Hp)
def Kl (C : Ctx) (sum : Sums) (loop : Loops) : Cfg :=
  { C := C, inl := fun _ => false, strict := .lazy, unr := false, sum := sum, loop := loop, M := 0 }
/-- the same, numbers that are assigned being named -/
def Kn (C : Ctx) (sum : Sums) (loop : Loops) : Cfg :=
  { C := C, inl := fun _ => false, strict := .lazy, unr := false, nm := true, sum := sum, loop := loop, M := 0 }
def noSum : Sums := fun _ _ _ => none
def noLoop : Loops := fun _ _ _ => none

def SumsOk (C : Ctx) (sum : Sums) : Prop := ∀ f args H v hs, sum f args H = some (true, v, hs) → ACalls C f args H fun v' H' => v' = v ∧ H' = acts H hs
def LoopsOk (C : Ctx) (lps : List Code) (loop : Loops) : Prop := ∀ c F H e F' H', c ∈ lps → loop c F H = some (true, e, F', H') → AWp C 0 (.loop c) F H fun e' F'' H'' => e' = e ∧ F'' = F' ∧ H'' = H'

theorem noSum_ok (C : Ctx) : SumsOk C noSum := fun _ _ _ _ _ h => by simp [noSum] at h
theorem noLoop_ok (C : Ctx) (lps : List Code) : LoopsOk C lps noLoop := fun _ _ _ _ _ _ _ h => by simp [noLoop] at h

theorem good0 {C : Ctx} {lps : List Code} {sum : Sums} {loop : Loops} (hm : C.P.follows .mixedOrders = true) (hs : SumsOk C sum) (hl : LoopsOk C lps loop) : Good (Kl C sum loop) lps := by
  refine ⟨hm, hs, fun m c F H e F' H' h1 h2 h3 => ?_⟩
  have : m = 0 := Nat.le_zero.1 h1
  subst this
  exact hl c F H e F' H' h2 h3
theorem noinl {C : Ctx} {sum : Sums} {loop : Loops} {lps : List Code} : (Kl C sum loop).unr = false → ∀ f fn c, (Kl C sum loop).inl f = true → (Kl C sum loop).C.P.funcs[f]? = some fn → fn.body = some c → ∀ b ∈ loopsOf c, b ∈ lps := fun _ _ _ _ h => by cases h

theorem goodn {C : Ctx} {lps : List Code} {sum : Sums} {loop : Loops} (hm : C.P.follows .mixedOrders = true) (hs : SumsOk C sum) (hl : LoopsOk C lps loop) : Good (Kn C sum loop) lps := by
  refine ⟨hm, hs, fun m c F H e F' H' h1 h2 h3 => ?_⟩
  have : m = 0 := Nat.le_zero.1 h1
  subst this
  exact hl c F H e F' H' h2 h3
theorem wpn {C : Ctx} {sum : Sums} {loop : Loops} (hm : C.P.follows .mixedOrders = true) (hs : SumsOk C sum) {c : Code} (hl : LoopsOk C (loopsOf c) loop) (n : Nat) {F : Fr} {H : Hp} {Q : Post} (h : vc (Kn C sum loop) n 0 (.code c) F H Q) : AWp C 0 c F H Q :=
  wp_of_vc (K := Kn C sum loop) (goodn hm hs hl) (fun _ _ _ _ h => by cases h) n (Nat.zero_le _) (fun _ _ h => h) h
theorem calln {C : Ctx} {sum : Sums} {loop : Loops} (hm : C.P.follows .mixedOrders = true) (hs : SumsOk C sum) {f : FuncId} {fn : Func} {c : Code} (hf : C.P.funcs[f]? = some fn) (hb : fn.body = some c) (hn : (fn.name == "runtime.NumGoroutine") = false)
    (hl : LoopsOk C (loopsOf c) loop) (n : Nat) {args : List AV} {Q : AV → Hp → Prop} (h : vc (Kn C sum loop) n 0 (.code c) (frame0 fn args) [] (retK C fn Q)) : ACalls C f args [] Q :=
  call_of_vc (K := Kn C sum loop) (goodn hm hs hl) (fun _ _ _ _ h => by cases h) n hf hb hn (fun _ _ h => h) h

theorem wp0 {C : Ctx} {sum : Sums} {loop : Loops} (hm : C.P.follows .mixedOrders = true) (hs : SumsOk C sum) {c : Code} (hl : LoopsOk C (loopsOf c) loop) (n : Nat) {F : Fr} {H : Hp} {Q : Post} (h : vc (Kl C sum loop) n 0 (.code c) F H Q) : AWp C 0 c F H Q :=
  wp_of_vc (K := Kl C sum loop) (good0 hm hs hl) noinl n (Nat.zero_le _) (fun _ _ h => h) h

theorem call0 {C : Ctx} {sum : Sums} {loop : Loops} (hm : C.P.follows .mixedOrders = true) (hs : SumsOk C sum) {f : FuncId} {fn : Func} {c : Code} (hf : C.P.funcs[f]? = some fn) (hb : fn.body = some c) (hn : (fn.name == "runtime.NumGoroutine") = false)
    (hl : LoopsOk C (loopsOf c) loop) (n : Nat) {args : List AV} {Q : AV → Hp → Prop} (h : vc (Kl C sum loop) n 0 (.code c) (frame0 fn args) [] (retK C fn Q)) : ACalls C f args [] Q :=
  call_of_vc (K := Kl C sum loop) (good0 hm hs hl) noinl n hf hb hn (fun _ _ h => h) h

theorem LoopsOk.one {C : Ctx} {lps : List Code} {c : Code} {loop : Loops} (he : lps = [c]) (h : ∀ F H e F' H', loop c F H = some (true, e, F', H') → AWp C 0 (.loop c) F H fun e' F'' H'' => e' = e ∧ F'' = F' ∧ H'' = H') : LoopsOk C lps loop := by
  intro c' F H e F' H' h1 h2
  rw [he] at h1
  simp only [List.mem_singleton] at h1
  subst h1
  exact h F H e F' H' h2

end Go.Am
