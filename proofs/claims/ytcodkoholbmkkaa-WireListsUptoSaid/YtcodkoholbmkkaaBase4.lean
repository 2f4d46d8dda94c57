/-
  A law's statement, out of its call in the abstract machine.
  Functions that are called in a heap: loops with blocks that stay where they are.
-/
import Derived.Test.YtcodkoholbmkkaaBase3
namespace Go.Am
open Go.ChangeShapes Go.WideShapes Go.ChangeAt Go.RowKit

/-- an argument, and what it reads as -/
def ArgD {H : Type} (P : Program) (L : List RoE) (n : Nat) (t : TypeId) (a : AV) (d : DataW H) : Prop :=
  match P.underlying t with
  | some (.struct _) => ∃ cs, a = .agg cs ∧ TyD P L n t cs d
  | some (.array _ _) => ∃ cs, a = .agg cs ∧ TyD P L n t cs d
  | _ => TyD P L n t [a] d

def ArgDs {H : Type} (P : Program) (L : List RoE) (n : Nat) : List TypeId → List AV → List (DataW H) → Prop
  | [], [], [] => True
  | t :: ts, a :: as, d :: ds => ArgD P L n t a d ∧ ArgDs P L n ts as ds
  | _, _, _ => False

theorem ArgD.mono {H : Type} {P : Program} {L : List RoE} (M : List RoE) {n : Nat} {t : TypeId} {a : AV} {d : DataW H} (h : ArgD P L n t a d) : ArgD P (L ++ M) n t a d := by
  unfold ArgD at h ⊢
  split at h
  · obtain ⟨cs, h1, h2⟩ := h; exact ⟨cs, h1, h2.mono M⟩
  · obtain ⟨cs, h1, h2⟩ := h; exact ⟨cs, h1, h2.mono M⟩
  · exact TyD.mono M h

section
variable {H : Type} {enc : TypeId × Value → H} {P : Program} {w : World}

theorem one_cell {n : Nat} {t : TypeId} {d : DataW H} {L : List RoE} {cs : List AV} (h : TyD P L n t cs d) (hs : ∀ fs, P.underlying t ≠ some (.struct fs)) (ha : ∀ m e, P.underlying t ≠ some (.array m e)) : ∃ a, cs = [a] := by
  cases n with
  | zero => exact h.elim
  | succ n =>
    unfold TyD at h
    split at h
    · obtain ⟨b, h, _⟩ := h; exact ⟨_, h⟩
    · obtain ⟨b, h, _⟩ := h; exact ⟨_, h⟩
    · obtain ⟨b, h, _⟩ := h; exact ⟨_, h⟩
    · rcases h with ⟨h, _⟩ | ⟨_, _, _, _, h, _⟩
      · exact ⟨_, h⟩
      · exact ⟨_, h⟩
    · rename_i hu; exact absurd hu (hs _)
    · rename_i hu; exact absurd hu (ha _ _)
    · exact h.elim

theorem cells_self {t : TypeId} {v : Value} {r : Reach} {b0 n : Nat} (hp : plainT P n t = true) (hval : Value.okWide P w r b0 t v) (hs : ∀ fs, P.underlying t ≠ some (.struct fs)) (ha : ∀ m e, P.underlying t ≠ some (.array m e)) : v.cells.toList = [v] := by
  cases n with
  | zero => simp [plainT] at hp
  | succ n =>
    unfold plainT at hp
    unfold Value.okWide at hval
    split at hp
    all_goals first
      | (rename_i hu; rw [hu] at hval; simp only [Cell.okWide, hu, Cell.ok] at hval; cases v <;> first | (simp at hval; done) | rfl)
      | (rename_i hu; exact absurd hu (hs _))
      | (rename_i hu; exact absurd hu (ha _ _))
      | simp at hp

theorem open_arg {n : Nat} {t : TypeId} {v : Value} {r : Reach} {b0 : Nat} {d : DataW H} {ps : List MemPlace} (L : List RoE) (hp : plainT P n t = true) (hval : Value.okWide P w r b0 t v) (hL : RoInv w L) (hd : DataW.Trod enc P w 0 (fun _ => true) true t v d ps) :
    ∃ M a, RoInv w (L ++ M) ∧ VR ⟨[], roL (L ++ M)⟩ a v ∧ ArgD P (L ++ M) n t a d := by
  obtain ⟨fuel, hd⟩ := hd
  obtain ⟨M, cs, h1, h2, h3, _⟩ := open_at n fuel t _ _ L hp hL hd
  have agg : ∀ ca, v = .agg ca → VR ⟨[], roL (L ++ M)⟩ (.agg cs) v := fun ca hca => by
    subst hca
    simp only [VR]
    exact ⟨ca, rfl, by simpa [Value.cells] using h2⟩
  by_cases hs : ∃ fs, P.underlying t = some (.struct fs)
  · obtain ⟨fs, hu⟩ := hs
    unfold Value.okWide at hval
    rw [hu] at hval
    obtain ⟨ca, hca, _⟩ := hval
    refine ⟨M, .agg cs, h1, agg ca hca, ?_⟩
    unfold ArgD; rw [hu]; exact ⟨cs, rfl, h3⟩
  by_cases ha : ∃ m e, P.underlying t = some (.array m e)
  · obtain ⟨m, e, hu⟩ := ha
    unfold Value.okWide at hval
    rw [hu] at hval
    obtain ⟨ca, hca, _⟩ := hval
    refine ⟨M, .agg cs, h1, agg ca hca, ?_⟩
    unfold ArgD; rw [hu]; exact ⟨cs, rfl, h3⟩
  have hs' : ∀ fs, P.underlying t ≠ some (.struct fs) := fun fs h => hs ⟨fs, h⟩
  have ha' : ∀ m e, P.underlying t ≠ some (.array m e) := fun m e h => ha ⟨m, e, h⟩
  obtain ⟨a, rfl⟩ := one_cell h3 hs' ha'
  rw [cells_self hp hval hs' ha'] at h2
  simp only [VRs] at h2
  obtain ⟨x, xs, e, g1, g2⟩ := h2
  simp at e
  obtain ⟨rfl, _⟩ := e
  refine ⟨M, a, h1, g1, ?_⟩
  unfold ArgD
  split
  · rename_i hu; exact absurd hu (hs' _)
  · rename_i hu; exact absurd hu (ha' _ _)
  · exact h3

theorem open_args {n : Nat} {r : Reach} {b0 : Nat} : ∀ (ts : List TypeId) (vs : List Value) (ds : List (DataW H)) (ps : List MemPlace) (L : List RoE), (∀ t ∈ ts, plainT P n t = true) → (∀ (j : Nat) t v, ts[j]? = some t → vs[j]? = some v → Value.okWide P w r b0 t v) →
    RoInv w L → DataW.TrodAll enc P w 0 (fun _ => true) true ts vs ds ps → ∃ M as, RoInv w (L ++ M) ∧ VRs ⟨[], roL (L ++ M)⟩ as vs ∧ ArgDs P (L ++ M) n ts as ds
  | [], vs, ds, ps, L, _, _, hL, h => by
    obtain ⟨rfl, rfl, rfl⟩ := trodAll_nil h
    exact ⟨[], [], by simpa using hL, by simp [VRs], trivial⟩
  | t :: ts, vs, ds, ps, L, hp, hv, hL, h => by
    obtain ⟨v, vs, d, ds, p, q, rfl, rfl, rfl, h1, h2⟩ := trodAll_cons h
    obtain ⟨M, a, g1, g2, g3⟩ := open_arg L (hp t (by simp)) (hv 0 t v rfl rfl) hL h1
    obtain ⟨M', as, q1, q2, q3⟩ := open_args ts vs ds q (L ++ M) (fun x hx => hp x (by simp [hx])) (fun j x y hx hy => hv (j + 1) x y (by simpa using hx) (by simpa using hy)) g1 h2
    refine ⟨M ++ M', a :: as, by rw [← List.append_assoc]; exact q1, ?_, ?_⟩
    · rw [← List.append_assoc]
      simp only [VRs]
      exact ⟨v, vs, rfl, VR_ro (roLe_append _ _) _ _ g2, q2⟩
    · rw [← List.append_assoc]
      exact ⟨g3.mono M', q3⟩

theorem stays_args (hl : laidOutB P = true) {W W' : World} (hb : Below W.heap.size W W') {sp : Nat → Bool} : ∀ (ts : List TypeId) (vs : List Value) (ds : List (DataW H)) (ps : List MemPlace), (∀ t ∈ ts, P.readableRec t = true ∧ t < P.types.size) → (∀ p ∈ ps, p.block < W.heap.size ∧ sp p.block = true) →
    DataW.TrodAll enc P W 0 (fun _ => true) true ts vs ds ps → DataW.TrodAll enc P W' 0 sp true ts vs ds ps
  | [], vs, ds, ps, _, _, h => by
    obtain ⟨rfl, rfl, rfl⟩ := trodAll_nil h
    exact trodAll_mk0
  | t :: ts, vs, ds, ps, hp, hq, h => by
    obtain ⟨v, vs, d, ds, p, q, rfl, rfl, rfl, h1, h2⟩ := trodAll_cons h
    obtain ⟨r1, r2⟩ := hp t (by simp)
    refine trodAll_cons_mk (WideElems.Trod_stays hl r1 r2 h1 (fun x hx => hb.same (hq x (by simp [hx])).1) fun x hx => (hq x (by simp [hx])).2) ?_
    exact stays_args hl hb ts vs ds q (fun x hx => hp x (by simp [hx])) (fun x hx => hq x (by simp [hx])) h2

/-- what a law's call owes -/
theorem law_contract {f : FuncId} {fn : Func} {s : ChangeSpec} {fresh handsOn : Bool} {n : Nat} {tb : TypeId} (hl : laidOutB P = true) (hts : ∀ t ∈ fn.params.toList, plainT P n t = true ∧ P.readableRec t = true ∧ t < P.types.size) (hr : fn.resultTypes = #[tb]) (hb : P.underlying tb = some .bool)
    (hvars : s.vars = []) {W : World} {base : Nat} {args : Array Value} {ds gs : List (DataW H)} {before : List MemPlace} (hval : ∀ (j : Nat) t v, fn.params[j]? = some t → args[j]? = some v → Value.okWide P W .any base t v)
    (hW : DataW.Whole enc P fn.params.toList s.vars false W args.toList ds gs before) (hfn : s.fn H ds = { results := [.lit (.bool true)], args := ds })
    (main : ∀ (L : List RoE) (B : Nat) (as : List AV), (∀ k, (GL L k).all norw = true) → ArgDs P L n fn.params.toList as ds → ACalls ⟨P, GL L, B⟩ f as [] fun v _ => v = .bool true) :
    Calls P f args W fun e W' => ∃ v, e = .returned v ∧ s.post enc P fn false fresh handsOn false W args v W' := by
  have hlt := hW.lt
  have hW' := hW
  obtain ⟨p, q, hA, hV, rfl, hfz, hnd⟩ := hW
  rw [hvars] at hV
  obtain ⟨rfl, rfl⟩ := trodVars_none hV
  obtain ⟨M, as, g1, g2, g3⟩ := open_args (n := n) fn.params.toList args.toList ds p [] (fun t ht => (hts t ht).1) (fun j t v h1 h2 => hval j t v (by simpa using h1) (by simpa using h2)) (fun k e h => by simp at h) hA
  simp only [List.nil_append] at g1 g2 g3
  have hnw : ∀ k, (GL M k).all norw = true := fun k => by
    unfold GL
    split
    · rename_i e he
      rw [List.all_eq_true]
      intro v hv
      obtain ⟨j, hj⟩ := List.getElem?_of_mem hv
      exact (g1 k e he j v hj).1
    · rfl
  have := law_call (C := ⟨P, GL M, W.heap.size⟩) (ro := roL M) (W := W) (cargs := args) rfl (fun i k v hv => by
    simp only [GL] at hv
    split at hv
    · rename_i e he
      obtain ⟨_, cv, h1, h2⟩ := g1 i e he k v hv
      refine ⟨e.b, e.d, cv, by simp [roL, he], ?_, h1, h2⟩
      unfold World.cell? at h1
      split at h1
      · rename_i hc
        exact (Array.getElem?_eq_some_iff.1 hc).1
      · simp at h1
    · simp at hv) g2 (main M W.heap.size as hnw g3)
  refine this.mono fun e W' ⟨he, hbl⟩ => ⟨.bool true, he, ?_⟩
  have hfn' : s.fn H (ds ++ []) = { results := [.lit (.bool true)], args := ds } := by rw [List.append_nil]; exact hfn
  simp only [List.append_nil] at hlt
  refine ⟨ds, [], p ++ [], [], p, [], hW', ?_, ?_, ?_, hbl.frame _, fun h => by cases h⟩
  · rw [hfn', hr]
    exact trodAll_cons_mk (shut_bool hb true) trodAll_mk0
  · rw [hfn']
    exact stays_args hl hbl _ _ _ _ (fun t ht => (hts t ht).2) (fun x hx => ⟨hlt x hx, by simpa using hlt x hx⟩) hA
  · rw [hfn', hvars]
    rfl
end

/-! ### closed runs -/
/-- all calls are entered, all loops gone through, all written out -/
abbrev Kc (C : Ctx) : Cfg := { C := C, inl := fun _ => true, strict := .full, unr := true, sum := noSum, loop := noLoop, M := 0 }
def isT : AV → Bool
  | .bool b => b
  | _ => false
theorem goodc {C : Ctx} (hm : C.P.follows .mixedOrders = true) : Good (Kc C) [] := ⟨hm, noSum_ok C, fun m c F H e F' H' _ h => by simp at h⟩
theorem closed_run {C : Ctx} (hm : C.P.follows .mixedOrders = true) {f : FuncId} {fn : Func} (hf : C.P.funcs[f]? = some fn) (hb : fn.body.isSome = true) (hn : (fn.name == "runtime.NumGoroutine") = false) (n : Nat) {args : List AV}
    (h : vc (Kc C) n 0 (.code (bodyOf fn)) (frame0 fn args) [] (retK C fn fun v _ => chk (isT v) True) = True) : ACalls C f args [] fun v _ => v = .bool true := by
  obtain ⟨c, hc⟩ := Option.isSome_iff_exists.1 hb
  have e : bodyOf fn = c := by simp [bodyOf, hc]
  rw [e] at h
  have := call_of_vc (K := Kc C) (H := []) (goodc hm) (fun h => by cases h) n hf hc hn (fun h => by cases h) (of_eq_true h)
  refine ⟨this.1, fun ρ w cargs hH hv => (this.2 ρ w cargs hH hv).mono ?_⟩
  rintro e w' ⟨v, cv, ρ', H', h1, h2, h3⟩
  refine ⟨v, cv, ρ', H', h1, ?_, h3⟩
  obtain ⟨h4, _⟩ := chk_true h2
  cases v with
  | bool b => simp only [isT] at h4; rw [h4]
  | _ => simp [isT] at h4

/-! ### some calls entered, the others by their summaries -/
def has (l : List Nat) (f : Nat) : Bool := match l with
  | [] => false
  | x :: l => match Nat.beq x f with
    | true => true
    | false => has l f
theorem has_mem : ∀ {l : List Nat} {f : Nat}, has l f = true → f ∈ l
  | [], f, h => by simp [has] at h
  | x :: l, f, h => by
    simp only [has] at h
    split at h
    · rename_i hx; rw [Nat.eq_of_beq_eq_true hx]; simp
    · exact List.mem_cons.2 (.inr (has_mem h))
/-- no loop in these -/
def plainFs (P : Program) (l : List Nat) : Bool := l.all fun f => match P.funcs[f]? with
  | some fn => (loopsOf (bodyOf fn)).isEmpty
  | none => true
theorem plain_inl {P : Program} {l : List Nat} {lps : List Code} (h : plainFs P l = true) : ∀ f fn c, has l f = true → P.funcs[f]? = some fn → fn.body = some c → ∀ b ∈ loopsOf c, b ∈ lps := by
  intro f fn c hf hfn hc b hb
  simp only [plainFs, List.all_eq_true] at h
  have := h f (has_mem hf)
  simp only [hfn] at this
  have e : bodyOf fn = c := by simp [bodyOf, hc]
  rw [e, List.isEmpty_iff] at this
  rw [this] at hb
  simp at hb
/-- symbolic runs -/
def Ki (C : Ctx) (l : List Nat) (sum : Sums) (loop : Loops) : Cfg := { C := C, inl := has l, strict := .lazy, unr := false, nm := true, sum := sum, loop := loop, M := 0 }
/-- closed runs -/
def Kci (C : Ctx) (l : List Nat) (sum : Sums) : Cfg := { C := C, inl := has l, strict := .full, unr := true, sum := sum, loop := noLoop, M := 0 }
section
variable {C : Ctx} {sum : Sums} {loop : Loops} {l : List Nat}
theorem goodi {lps : List Code} (hm : C.P.follows .mixedOrders = true) (hs : SumsOk C sum) (hl : LoopsOk C lps loop) : Good (Ki C l sum loop) lps := by
  refine ⟨hm, hs, fun m c F H e F' H' h1 h2 h3 => ?_⟩
  have : m = 0 := Nat.le_zero.1 h1
  subst this
  exact hl c F H e F' H' h2 h3
theorem wpi (hm : C.P.follows .mixedOrders = true) (hp : plainFs C.P l = true) (hs : SumsOk C sum) {c : Code} (hl : LoopsOk C (loopsOf c) loop) (n : Nat) {F : Fr} {H : Hp} {Q : Post} (h : vc (Ki C l sum loop) n 0 (.code c) F H Q) : AWp C 0 c F H Q :=
  wp_of_vc (K := Ki C l sum loop) (goodi hm hs hl) (fun _ => plain_inl hp) n (Nat.zero_le _) (fun _ _ h => h) h
theorem calli (hm : C.P.follows .mixedOrders = true) (hp : plainFs C.P l = true) (hs : SumsOk C sum) {f : FuncId} {fn : Func} {c : Code} (hf : C.P.funcs[f]? = some fn) (hb : fn.body = some c) (hn : (fn.name == "runtime.NumGoroutine") = false)
    (hl : LoopsOk C (loopsOf c) loop) (n : Nat) {args : List AV} {Q : AV → Hp → Prop} (h : vc (Ki C l sum loop) n 0 (.code c) (frame0 fn args) [] (retK C fn Q)) : ACalls C f args [] Q :=
  call_of_vc (K := Ki C l sum loop) (goodi hm hs hl) (fun _ => plain_inl hp) n hf hb hn (fun _ _ h => h) h
theorem goodci (hm : C.P.follows .mixedOrders = true) (hs : SumsOk C sum) : Good (Kci C l sum) [] := ⟨hm, hs, fun m c F H e F' H' _ h => by simp at h⟩
theorem wpci (hm : C.P.follows .mixedOrders = true) (hs : SumsOk C sum) {c : Code} (n : Nat) {F : Fr} {H : Hp} {Q : Post} (h : vc (Kci C l sum) n 0 (.code c) F H Q) : AWp C 0 c F H Q :=
  wp_of_vc (K := Kci C l sum) (goodci hm hs) (fun h => by cases h) n (Nat.zero_le _) (fun h => by cases h) h
theorem callci (hm : C.P.follows .mixedOrders = true) (hs : SumsOk C sum) {f : FuncId} {fn : Func} {c : Code} (hf : C.P.funcs[f]? = some fn) (hb : fn.body = some c) (hn : (fn.name == "runtime.NumGoroutine") = false)
    (n : Nat) {args : List AV} {Q : AV → Hp → Prop} (h : vc (Kci C l sum) n 0 (.code c) (frame0 fn args) [] (retK C fn Q)) : ACalls C f args [] Q :=
  call_of_vc (K := Kci C l sum) (H := []) (goodci hm hs) (fun h => by cases h) n hf hb hn (fun h => by cases h) h
end
/-- a closed sentence's summary: true -/
def true_sum : Sum1 := fun args _ => match args with
  | [] => some (true, .bool true, [])
  | _ => none
theorem true_sum_ok {C : Ctx} {f : FuncId} (h : ∀ G B, ACalls ⟨C.P, G, B⟩ f [] [] fun v _ => v = .bool true) : SumOk C f true_sum := by
  intro args H v hs h'
  unfold true_sum at h'
  split at h'
  · simp only [Option.some.injEq, Prod.mk.injEq, true_and] at h'
    obtain ⟨rfl, rfl⟩ := h'
    exact flat_call ⟨rfl, rfl⟩ ⟨rfl, rfl⟩ h H
  · simp at h'
theorem ACalls.monoK {C : Ctx} {f : FuncId} {args : List AV} {H : Hp} {K K' : AV → Hp → Prop} (h : ACalls C f args H K) (hk : ∀ v H', K v H' → K' v H') : ACalls C f args H K' :=
  ⟨h.1, fun ρ w cargs hH hv => (h.2 ρ w cargs hH hv).mono fun e w' ⟨v, cv, ρ', H', h1, h2, h3⟩ => ⟨v, cv, ρ', H', h1, hk v H' h2, h3⟩⟩
theorem isT_eq {v : AV} (h : chk (isT v) True) : v = .bool true := by
  obtain ⟨h4, _⟩ := chk_true h
  cases v with
  | bool b => simp only [isT] at h4; rw [h4]
  | _ => simp [isT] at h4
/-- the arguments may be told less of -/
theorem ACalls.weaken {C : Ctx} {f : FuncId} {args args' : List AV} {H : Hp} {K : AV → Hp → Prop} (h : ACalls C f args' H K) (hw : ∀ ρ vs, VRs ρ args vs → VRs ρ args' vs) : ACalls C f args H K :=
  ⟨h.1, fun ρ w cargs hH hv => h.2 ρ w cargs hH (hw ρ cargs hv)⟩
end Go.Am
namespace Go.Am
open Go.RowKit

def KiM (C : Ctx) (l : List Nat) (sum : Sums) (loop : Loops) (M : Nat) : Cfg := { C := C, inl := has l, strict := .lazy, unr := false, nm := true, nl := true, sum := sum, loop := loop, M := M }
def LoopOkM (C : Ctx) (M : Nat) (c : Code) (l : Loops) : Prop := ∀ m F H e F' H', m ≤ M → l c F H = some (true, e, F', H') → AWp C m (.loop c) F H fun e' F'' H'' => e' = e ∧ F'' = F' ∧ H'' = H'
def LoopsOkM (C : Ctx) (M : Nat) (cs : List Code) (l : Loops) : Prop := ∀ m c F H e F' H', m ≤ M → c ∈ cs → l c F H = some (true, e, F', H') → AWp C m (.loop c) F H fun e' F'' H'' => e' = e ∧ F'' = F' ∧ H'' = H'
section
variable {C : Ctx} {M : Nat} {sum : Sums} {loop : Loops} {l : List Nat}
theorem LoopsOkM.nil : LoopsOkM C M [] loop := fun m c F H e F' H' _ h => by simp at h
theorem LoopsOkM.cons {c : Code} {cs : List Code} (h1 : LoopOkM C M c loop) (h2 : LoopsOkM C M cs loop) : LoopsOkM C M (c :: cs) loop := by
  intro m c' F H e F' H' hm h h'
  rcases List.mem_cons.1 h with rfl | h
  · exact h1 m F H e F' H' hm h'
  · exact h2 m c' F H e F' H' hm h h'
theorem LoopsOkM.cast {cs ds : List Code} (h : LoopsOkM C M ds loop) (e : cs = ds) : LoopsOkM C M cs loop := by rw [e]; exact h
theorem LoopOkM.left {c : Code} {e : Nat} {a b : Loops} (he : exOf c = some e) (h : LoopOkM C M c a) : LoopOkM C M c (lps e a b) := by
  intro m F H e' F' H' hm h'
  simp only [lps, he, Nat.beq_refl] at h'
  exact h m F H e' F' H' hm h'
theorem LoopOkM.right {c : Code} {e i : Nat} {a b : Loops} (he : exOf c = some i) (hi : Nat.beq i e = false) (h : LoopOkM C M c b) : LoopOkM C M c (lps e a b) := by
  intro m F H e' F' H' hm h'
  simp only [lps, he, hi] at h'
  exact h m F H e' F' H' hm h'
theorem ls_okM {c : Code} {N : Nat} {live : List Nat} {S : List AV → Hp → Option (Bool × Ex × List AV × Hp)}
    (hS : ∀ m vs H e vs' H', m ≤ M → S vs H = some (true, e, vs', H') → AWp C m (.loop c) (fl N live vs) H (lv N live fun e' vs'' H'' => e' = e ∧ wk vs' vs'' ∧ H'' = H')) : LoopOkM C M c (fun _ F H => lsum N live S F H) :=
  fun m _ _ _ _ _ hm h => lsum_sound (fun vs H e vs' H' hs => hS m vs H e vs' H' hm hs) h
theorem goodM {lps : List Code} (hm : C.P.follows .mixedOrders = true) (hs : SumsOk C sum) (hl : LoopsOkM C M lps loop) : Good (KiM C l sum loop M) lps := ⟨hm, hs, hl⟩
theorem wpM (hm : C.P.follows .mixedOrders = true) (hp : plainFs C.P l = true) (hs : SumsOk C sum) {c : Code} (hl : LoopsOkM C M (loopsOf c) loop) (n : Nat) {m : Nat} {F : Fr} {H : Hp} {Q : Post} (hH : m ≤ H.length) (h : vc (KiM C l sum loop M) n m (.code c) F H Q) : AWp C m c F H Q :=
  wp_of_vc (K := KiM C l sum loop M) (goodM hm hs hl) (fun _ => plain_inl hp) n hH (fun _ _ h => h) h
theorem callM (hm : C.P.follows .mixedOrders = true) (hp : plainFs C.P l = true) (hs : SumsOk C sum) {f : FuncId} {fn : Func} {c : Code} (hf : C.P.funcs[f]? = some fn) (hb : fn.body = some c) (hn : (fn.name == "runtime.NumGoroutine") = false)
    (hl : LoopsOkM C M (loopsOf c) loop) (n : Nat) {args : List AV} {H : Hp} {Q : AV → Hp → Prop} (h : vc (KiM C l sum loop M) n H.length (.code c) (frame0 fn args) H (retK C fn Q)) : ACalls C f args H Q :=
  call_of_vc (K := KiM C l sum loop M) (goodM hm hs hl) (fun _ => plain_inl hp) n hf hb hn (fun _ _ h => h) h

theorem noLoopM (C : Ctx) (M : Nat) (cs : List Code) : LoopsOkM C M cs noLoop := fun _ _ _ _ _ _ _ _ _ h => by simp [noLoop] at h

/-- a call that writes one block of its own: in every heap that has it -/
theorem one_block {f : FuncId} {e : Nat} {cs cs' : List AV} {rest : List AV} {v : AV} (h : ACalls C f (.ptr (.rw 0) 0 :: rest) [some ⟨e, cs⟩] fun v' H' => v' = v ∧ H' = [some ⟨e, cs'⟩])
    (hc : bnds 0 cs = true) (hc' : bnds 0 cs' = true) (hr : bnds 0 rest = true) (hv : bnd 0 v = true) {H : Hp} {i : Nat} (hi : H[i]? = some (some ⟨e, cs⟩)) :
    ACalls C f (.ptr (.rw i) 0 :: rest) H fun v' H' => v' = v ∧ H' = H.set i (some ⟨e, cs'⟩) := by
  have hlt : i < H.length := (List.getElem?_eq_some_iff.1 hi).1
  have key := frame_call h [i] rfl (by simp) (fun j b hj => by
    cases j with
    | zero =>
      simp at hj; subst hj
      refine ⟨_, rfl, bnds_mono (Nat.zero_le _) _ hc, ?_⟩
      simp only [renB, rens_flat _ _ hc]
      simpa using hi
    | succ j => simp at hj) (H := H) (by simp only [bnds, bnd, Bool.and_eq_true]; exact ⟨by simp, bnds_mono (Nat.zero_le _) _ hr⟩) (fun v0 H0' hk => by
    obtain ⟨rfl, rfl⟩ := hk
    refine ⟨Nat.le_refl _, bnd_mono (Nat.zero_le _) _ hv, fun j b hj => ?_⟩
    cases j with
    | zero => simp at hj; subst hj; exact bnds_mono (Nat.zero_le _) _ hc'
    | succ j => simp at hj)
  have ea : rens [i] (.ptr (.rw 0) 0 :: rest) = .ptr (.rw i) 0 :: rest := by
    simp only [rens, ren, rens_flat _ _ hr]; rfl
  rw [ea] at key
  refine key.monoK ?_
  rintro v' H' ⟨v0, H0', ⟨rfl, rfl⟩, rfl, rfl⟩
  refine ⟨ren_flat _ _ hv, ?_⟩
  simp only [merge, wide, lay, renO, renB, List.length_cons, List.length_nil, Nat.zero_add, Nat.sub_self, List.range_zero, List.map_nil, List.append_nil, List.drop_succ_cons, List.drop_nil, Option.map_some, rens_flat _ _ hc', List.drop_zero, List.take_succ_cons, List.take_nil]
end

/-- an empty new row, for nil -/
theorem ACalls.nilNew {C : Ctx} {f : FuncId} {args : List AV} {H : Hp} (e : Nat) (h : ACalls C f args H fun v H' => v = .nils ∧ H' = H) : ACalls C f args H fun v H' => v = .slice true (.rw H.length) 0 0 ∧ H' = H ++ [some ⟨e, []⟩] := by
  refine ⟨h.1, fun ρ w cargs hH hv => (h.2 ρ w cargs hH hv).mono ?_⟩
  rintro ex w' ⟨v, cv, ρ', H', rfl, ⟨rfl, rfl⟩, h3, h4, h5, h6⟩
  have hl := h4.len
  have low : ∀ i, i < H'.length → (ρ'.push none).rw[i]? = ρ'.rw[i]? := fun i hi => by simp [Env.push, List.getElem?_append_left (show i < ρ'.rw.length by omega)]
  have none' : ∀ (i : Nat) x, (ρ'.push none).rw[i]? = some (some x) → ρ'.rw[i]? = some (some x) := fun i x hx => by
    rcases push_get ρ' none i _ hx with ⟨_, h⟩ | ⟨_, h⟩
    · exact h
    · simp at h
  have hget : ∀ (i : Nat) b, (H' ++ [some (⟨e, []⟩ : Blk)])[i]? = some (some b) → (i < H'.length ∧ H'[i]? = some (some b)) ∨ (i = H'.length ∧ b = ⟨e, []⟩) := fun i b hb => by
    by_cases hi : i < H'.length
    · rw [List.getElem?_append_left hi] at hb; exact .inl ⟨hi, hb⟩
    · rw [List.getElem?_append_right (by omega)] at hb
      have : i = H'.length := by have := (List.getElem?_eq_some_iff.1 hb).1; simp at this; omega
      subst this
      simp at hb; exact .inr ⟨rfl, hb.symm⟩
  refine ⟨.slice true (.rw H'.length) 0 0, cv, ρ'.push none, H' ++ [some ⟨e, []⟩], rfl, ⟨rfl, rfl⟩, Env.le_trans h3 (Env.le_push ρ' none), ?_, ?_, ?_⟩
  · refine ⟨by simp [Env.push, hl], h4.base, fun i x hx => h4.ents i x (none' i x hx), fun i b hb => ?_, fun i j b b' x x' q1 q2 q3 q4 q5 => ?_, fun i k v hv => h4.ro i k v hv⟩
    · rcases hget i b hb with ⟨hi, hb⟩ | ⟨rfl, rfl⟩
      · rw [low i hi]
        exact (h4.live i b hb).mono (Env.le_push ρ' none) fun _ _ => rfl
      · have : (ρ'.push none).rw[H'.length]? = some none := by simp [Env.push, ← hl]
        rw [this]
        rfl
    · have r3 := none' i x q3
      have r4 := none' j x' q4
      have l3 : i < H'.length := by rw [← hl]; exact (List.getElem?_eq_some_iff.1 r3).1
      have l4 : j < H'.length := by rw [← hl]; exact (List.getElem?_eq_some_iff.1 r4).1
      rw [List.getElem?_append_left l3] at q1
      rw [List.getElem?_append_left l4] at q2
      exact h4.inj i j b b' x x' q1 q2 r3 r4 q5
  · simp only [VR] at h5 ⊢
    subst h5
    exact ⟨none, 0, rfl, Nat.le_refl _, .inl ⟨rfl, rfl, rfl⟩⟩
  · exact ⟨h6.os, h6.tape, h6.output, h6.size, h6.keep, fun i x hx => h6.news i x (none' i x hx), h6.ro⟩
end Go.Am
