/-
  A law's statement, out of its call in the abstract machine.
-/
import Derived.Test.YtopenjkaifbnmaaAmEntry
import Derived.Test.YtopenjkaifbnmaaAmInts
namespace Go.Am
open Go.ChangeShapes Go.WideShapes Go.ChangeAt Go.RowKit

/-- an argument, and what it reads as -/
def ArgD {H : Type} (P : Program) (L : List RoE) (n : Nat) (t : TypeId) (a : AV) (d : DataW H) : Prop :=
  match P.underlying t with
  | some (.struct _) => ∃ cs, a = .agg cs ∧ TyD P L n t cs d
  | some (.array _ _) => ∃ cs, a = .agg cs ∧ TyD P L n t cs d
  | _ => TyD P L n t [a] d

def ArgDs {H : Type} (P : Program) (L : List RoE) (n : Nat) : List TypeId → List AV → List (DataW H) → Prop
  | [], [], [] => True
  | t :: ts, a :: as, d :: ds => ArgD P L n t a d ∧ ArgDs P L n ts as ds
  | _, _, _ => False

theorem ArgD.mono {H : Type} {P : Program} {L : List RoE} (M : List RoE) {n : Nat} {t : TypeId} {a : AV} {d : DataW H} (h : ArgD P L n t a d) : ArgD P (L ++ M) n t a d := by
  unfold ArgD at h ⊢
  split at h
  · obtain ⟨cs, h1, h2⟩ := h; exact ⟨cs, h1, h2.mono M⟩
  · obtain ⟨cs, h1, h2⟩ := h; exact ⟨cs, h1, h2.mono M⟩
  · exact TyD.mono M h

section
variable {H : Type} {enc : TypeId × Value → H} {P : Program} {w : World}

theorem one_cell {n : Nat} {t : TypeId} {d : DataW H} {L : List RoE} {cs : List AV} (h : TyD P L n t cs d) (hs : ∀ fs, P.underlying t ≠ some (.struct fs)) (ha : ∀ m e, P.underlying t ≠ some (.array m e)) : ∃ a, cs = [a] := by
  cases n with
  | zero => exact h.elim
  | succ n =>
    unfold TyD at h
    split at h
    · obtain ⟨b, h, _⟩ := h; exact ⟨_, h⟩
    · obtain ⟨b, h, _⟩ := h; exact ⟨_, h⟩
    · obtain ⟨b, h, _⟩ := h; exact ⟨_, h⟩
    · rcases h with ⟨h, _⟩ | ⟨_, _, _, _, h, _⟩
      · exact ⟨_, h⟩
      · exact ⟨_, h⟩
    · rename_i hu; exact absurd hu (hs _)
    · rename_i hu; exact absurd hu (ha _ _)
    · exact h.elim

theorem cells_self {t : TypeId} {v : Value} {r : Reach} {b0 n : Nat} (hp : plainT P n t = true) (hval : Value.okWide P w r b0 t v) (hs : ∀ fs, P.underlying t ≠ some (.struct fs)) (ha : ∀ m e, P.underlying t ≠ some (.array m e)) : v.cells.toList = [v] := by
  cases n with
  | zero => simp [plainT] at hp
  | succ n =>
    unfold plainT at hp
    unfold Value.okWide at hval
    split at hp
    all_goals first
      | (rename_i hu; rw [hu] at hval; simp only [Cell.okWide, hu, Cell.ok] at hval; cases v <;> first | (simp at hval; done) | rfl)
      | (rename_i hu; exact absurd hu (hs _))
      | (rename_i hu; exact absurd hu (ha _ _))
      | simp at hp

theorem open_arg {n : Nat} {t : TypeId} {v : Value} {r : Reach} {b0 : Nat} {d : DataW H} {ps : List MemPlace} (L : List RoE) (hp : plainT P n t = true) (hval : Value.okWide P w r b0 t v) (hL : RoInv w L) (hd : DataW.Trod enc P w 0 (fun _ => true) true t v d ps) :
    ∃ M a, RoInv w (L ++ M) ∧ VR ⟨[], roL (L ++ M)⟩ a v ∧ ArgD P (L ++ M) n t a d := by
  obtain ⟨fuel, hd⟩ := hd
  obtain ⟨M, cs, h1, h2, h3, _⟩ := open_at n fuel t _ _ L hp hL hd
  have agg : ∀ ca, v = .agg ca → VR ⟨[], roL (L ++ M)⟩ (.agg cs) v := fun ca hca => by
    subst hca
    simp only [VR]
    exact ⟨ca, rfl, by simpa [Value.cells] using h2⟩
  by_cases hs : ∃ fs, P.underlying t = some (.struct fs)
  · obtain ⟨fs, hu⟩ := hs
    unfold Value.okWide at hval
    rw [hu] at hval
    obtain ⟨ca, hca, _⟩ := hval
    refine ⟨M, .agg cs, h1, agg ca hca, ?_⟩
    unfold ArgD; rw [hu]; exact ⟨cs, rfl, h3⟩
  by_cases ha : ∃ m e, P.underlying t = some (.array m e)
  · obtain ⟨m, e, hu⟩ := ha
    unfold Value.okWide at hval
    rw [hu] at hval
    obtain ⟨ca, hca, _⟩ := hval
    refine ⟨M, .agg cs, h1, agg ca hca, ?_⟩
    unfold ArgD; rw [hu]; exact ⟨cs, rfl, h3⟩
  have hs' : ∀ fs, P.underlying t ≠ some (.struct fs) := fun fs h => hs ⟨fs, h⟩
  have ha' : ∀ m e, P.underlying t ≠ some (.array m e) := fun m e h => ha ⟨m, e, h⟩
  obtain ⟨a, rfl⟩ := one_cell h3 hs' ha'
  rw [cells_self hp hval hs' ha'] at h2
  simp only [VRs] at h2
  obtain ⟨x, xs, e, g1, g2⟩ := h2
  simp at e
  obtain ⟨rfl, _⟩ := e
  refine ⟨M, a, h1, g1, ?_⟩
  unfold ArgD
  split
  · rename_i hu; exact absurd hu (hs' _)
  · rename_i hu; exact absurd hu (ha' _ _)
  · exact h3

theorem open_args {n : Nat} {r : Reach} {b0 : Nat} : ∀ (ts : List TypeId) (vs : List Value) (ds : List (DataW H)) (ps : List MemPlace) (L : List RoE), (∀ t ∈ ts, plainT P n t = true) → (∀ (j : Nat) t v, ts[j]? = some t → vs[j]? = some v → Value.okWide P w r b0 t v) →
    RoInv w L → DataW.TrodAll enc P w 0 (fun _ => true) true ts vs ds ps → ∃ M as, RoInv w (L ++ M) ∧ VRs ⟨[], roL (L ++ M)⟩ as vs ∧ ArgDs P (L ++ M) n ts as ds
  | [], vs, ds, ps, L, _, _, hL, h => by
    obtain ⟨rfl, rfl, rfl⟩ := trodAll_nil h
    exact ⟨[], [], by simpa using hL, by simp [VRs], trivial⟩
  | t :: ts, vs, ds, ps, L, hp, hv, hL, h => by
    obtain ⟨v, vs, d, ds, p, q, rfl, rfl, rfl, h1, h2⟩ := trodAll_cons h
    obtain ⟨M, a, g1, g2, g3⟩ := open_arg L (hp t (by simp)) (hv 0 t v rfl rfl) hL h1
    obtain ⟨M', as, q1, q2, q3⟩ := open_args ts vs ds q (L ++ M) (fun x hx => hp x (by simp [hx])) (fun j x y hx hy => hv (j + 1) x y (by simpa using hx) (by simpa using hy)) g1 h2
    refine ⟨M ++ M', a :: as, by rw [← List.append_assoc]; exact q1, ?_, ?_⟩
    · rw [← List.append_assoc]
      simp only [VRs]
      exact ⟨v, vs, rfl, VR_ro (roLe_append _ _) _ _ g2, q2⟩
    · rw [← List.append_assoc]
      exact ⟨g3.mono M', q3⟩

theorem stays_args (hl : laidOutB P = true) {W W' : World} (hb : Below W.heap.size W W') {sp : Nat → Bool} : ∀ (ts : List TypeId) (vs : List Value) (ds : List (DataW H)) (ps : List MemPlace), (∀ t ∈ ts, P.readableRec t = true ∧ t < P.types.size) → (∀ p ∈ ps, p.block < W.heap.size ∧ sp p.block = true) →
    DataW.TrodAll enc P W 0 (fun _ => true) true ts vs ds ps → DataW.TrodAll enc P W' 0 sp true ts vs ds ps
  | [], vs, ds, ps, _, _, h => by
    obtain ⟨rfl, rfl, rfl⟩ := trodAll_nil h
    exact trodAll_mk0
  | t :: ts, vs, ds, ps, hp, hq, h => by
    obtain ⟨v, vs, d, ds, p, q, rfl, rfl, rfl, h1, h2⟩ := trodAll_cons h
    obtain ⟨r1, r2⟩ := hp t (by simp)
    refine trodAll_cons_mk (WideElems.Trod_stays hl r1 r2 h1 (fun x hx => hb.same (hq x (by simp [hx])).1) fun x hx => (hq x (by simp [hx])).2) ?_
    exact stays_args hl hb ts vs ds q (fun x hx => hp x (by simp [hx])) (fun x hx => hq x (by simp [hx])) h2

/-- what a law's call owes -/
theorem law_contract {f : FuncId} {fn : Func} {s : ChangeSpec} {fresh handsOn : Bool} {n : Nat} {tb : TypeId} (hl : laidOutB P = true) (hts : ∀ t ∈ fn.params.toList, plainT P n t = true ∧ P.readableRec t = true ∧ t < P.types.size) (hr : fn.resultTypes = #[tb]) (hb : P.underlying tb = some .bool)
    (hvars : s.vars = []) {W : World} {base : Nat} {args : Array Value} {ds gs : List (DataW H)} {before : List MemPlace} (hval : ∀ (j : Nat) t v, fn.params[j]? = some t → args[j]? = some v → Value.okWide P W .any base t v)
    (hW : DataW.Whole enc P fn.params.toList s.vars false W args.toList ds gs before) (hfn : s.fn H ds = { results := [.lit (.bool true)], args := ds })
    (main : ∀ (L : List RoE) (B : Nat) (as : List AV), (∀ k, (GL L k).all norw = true) → ArgDs P L n fn.params.toList as ds → ACalls ⟨P, GL L, B⟩ f as [] fun v _ => v = .bool true) :
    Calls P f args W fun e W' => ∃ v, e = .returned v ∧ s.post enc P fn false fresh handsOn false W args v W' := by
  have hlt := hW.lt
  have hW' := hW
  obtain ⟨p, q, hA, hV, rfl, hfz, hnd⟩ := hW
  rw [hvars] at hV
  obtain ⟨rfl, rfl⟩ := trodVars_none hV
  obtain ⟨M, as, g1, g2, g3⟩ := open_args (n := n) fn.params.toList args.toList ds p [] (fun t ht => (hts t ht).1) (fun j t v h1 h2 => hval j t v (by simpa using h1) (by simpa using h2)) (fun k e h => by simp at h) hA
  simp only [List.nil_append] at g1 g2 g3
  have hnw : ∀ k, (GL M k).all norw = true := fun k => by
    unfold GL
    split
    · rename_i e he
      rw [List.all_eq_true]
      intro v hv
      obtain ⟨j, hj⟩ := List.getElem?_of_mem hv
      exact (g1 k e he j v hj).1
    · rfl
  have := law_call (C := ⟨P, GL M, W.heap.size⟩) (ro := roL M) (W := W) (cargs := args) rfl (fun i k v hv => by
    simp only [GL] at hv
    split at hv
    · rename_i e he
      obtain ⟨_, cv, h1, h2⟩ := g1 i e he k v hv
      refine ⟨e.b, e.d, cv, by simp [roL, he], ?_, h1, h2⟩
      unfold World.cell? at h1
      split at h1
      · rename_i hc
        exact (Array.getElem?_eq_some_iff.1 hc).1
      · simp at h1
    · simp at hv) g2 (main M W.heap.size as hnw g3)
  refine this.mono fun e W' ⟨he, hbl⟩ => ⟨.bool true, he, ?_⟩
  have hfn' : s.fn H (ds ++ []) = { results := [.lit (.bool true)], args := ds } := by rw [List.append_nil]; exact hfn
  simp only [List.append_nil] at hlt
  refine ⟨ds, [], p ++ [], [], p, [], hW', ?_, ?_, ?_, hbl.frame _, fun h => by cases h⟩
  · rw [hfn', hr]
    exact trodAll_cons_mk (shut_bool hb true) trodAll_mk0
  · rw [hfn']
    exact stays_args hl hbl _ _ _ _ (fun t ht => (hts t ht).2) (fun x hx => ⟨hlt x hx, by simpa using hlt x hx⟩) hA
  · rw [hfn', hvars]
    rfl
end

/-! ### closed runs -/
/-- all calls are entered, all loops gone through, all written out -/
abbrev Kc (C : Ctx) : Cfg := { C := C, inl := fun _ => true, strict := .full, unr := true, sum := noSum, loop := noLoop, M := 0 }
def isT : AV → Bool
  | .bool b => b
  | _ => false
theorem goodc {C : Ctx} (hm : C.P.follows .mixedOrders = true) : Good (Kc C) [] := ⟨hm, noSum_ok C, fun m c F H e F' H' _ h => by simp at h⟩
theorem closed_run {C : Ctx} (hm : C.P.follows .mixedOrders = true) {f : FuncId} {fn : Func} (hf : C.P.funcs[f]? = some fn) (hb : fn.body.isSome = true) (hn : (fn.name == "runtime.NumGoroutine") = false) (n : Nat) {args : List AV}
    (h : vc (Kc C) n 0 (.code (bodyOf fn)) (frame0 fn args) [] (retK C fn fun v _ => chk (isT v) True) = True) : ACalls C f args [] fun v _ => v = .bool true := by
  obtain ⟨c, hc⟩ := Option.isSome_iff_exists.1 hb
  have e : bodyOf fn = c := by simp [bodyOf, hc]
  rw [e] at h
  have := call_of_vc (K := Kc C) (H := []) (goodc hm) (fun h => by cases h) n hf hc hn (fun h => by cases h) (of_eq_true h)
  refine ⟨this.1, fun ρ w cargs hH hv => (this.2 ρ w cargs hH hv).mono ?_⟩
  rintro e w' ⟨v, cv, ρ', H', h1, h2, h3⟩
  refine ⟨v, cv, ρ', H', h1, ?_, h3⟩
  obtain ⟨h4, _⟩ := chk_true h2
  cases v with
  | bool b => simp only [isT] at h4; rw [h4]
  | _ => simp [isT] at h4

/-! ### some calls entered, the others by their summaries -/
def has (l : List Nat) (f : Nat) : Bool := match l with
  | [] => false
  | x :: l => match Nat.beq x f with
    | true => true
    | false => has l f
theorem has_mem : ∀ {l : List Nat} {f : Nat}, has l f = true → f ∈ l
  | [], f, h => by simp [has] at h
  | x :: l, f, h => by
    simp only [has] at h
    split at h
    · rename_i hx; rw [Nat.eq_of_beq_eq_true hx]; simp
    · exact List.mem_cons.2 (.inr (has_mem h))
/-- no loop in these -/
def plainFs (P : Program) (l : List Nat) : Bool := l.all fun f => match P.funcs[f]? with
  | some fn => (loopsOf (bodyOf fn)).isEmpty
  | none => true
theorem plain_inl {P : Program} {l : List Nat} {lps : List Code} (h : plainFs P l = true) : ∀ f fn c, has l f = true → P.funcs[f]? = some fn → fn.body = some c → ∀ b ∈ loopsOf c, b ∈ lps := by
  intro f fn c hf hfn hc b hb
  simp only [plainFs, List.all_eq_true] at h
  have := h f (has_mem hf)
  simp only [hfn] at this
  have e : bodyOf fn = c := by simp [bodyOf, hc]
  rw [e, List.isEmpty_iff] at this
  rw [this] at hb
  simp at hb
/-- symbolic runs -/
def Ki (C : Ctx) (l : List Nat) (sum : Sums) (loop : Loops) : Cfg := { C := C, inl := has l, strict := .lazy, unr := false, nm := true, sum := sum, loop := loop, M := 0 }
/-- closed runs -/
def Kci (C : Ctx) (l : List Nat) (sum : Sums) : Cfg := { C := C, inl := has l, strict := .full, unr := true, sum := sum, loop := noLoop, M := 0 }
section
variable {C : Ctx} {sum : Sums} {loop : Loops} {l : List Nat}
theorem goodi {lps : List Code} (hm : C.P.follows .mixedOrders = true) (hs : SumsOk C sum) (hl : LoopsOk C lps loop) : Good (Ki C l sum loop) lps := by
  refine ⟨hm, hs, fun m c F H e F' H' h1 h2 h3 => ?_⟩
  have : m = 0 := Nat.le_zero.1 h1
  subst this
  exact hl c F H e F' H' h2 h3
theorem wpi (hm : C.P.follows .mixedOrders = true) (hp : plainFs C.P l = true) (hs : SumsOk C sum) {c : Code} (hl : LoopsOk C (loopsOf c) loop) (n : Nat) {F : Fr} {H : Hp} {Q : Post} (h : vc (Ki C l sum loop) n 0 (.code c) F H Q) : AWp C 0 c F H Q :=
  wp_of_vc (K := Ki C l sum loop) (goodi hm hs hl) (fun _ => plain_inl hp) n (Nat.zero_le _) (fun _ _ h => h) h
theorem calli (hm : C.P.follows .mixedOrders = true) (hp : plainFs C.P l = true) (hs : SumsOk C sum) {f : FuncId} {fn : Func} {c : Code} (hf : C.P.funcs[f]? = some fn) (hb : fn.body = some c) (hn : (fn.name == "runtime.NumGoroutine") = false)
    (hl : LoopsOk C (loopsOf c) loop) (n : Nat) {args : List AV} {Q : AV → Hp → Prop} (h : vc (Ki C l sum loop) n 0 (.code c) (frame0 fn args) [] (retK C fn Q)) : ACalls C f args [] Q :=
  call_of_vc (K := Ki C l sum loop) (goodi hm hs hl) (fun _ => plain_inl hp) n hf hb hn (fun _ _ h => h) h
theorem goodci (hm : C.P.follows .mixedOrders = true) (hs : SumsOk C sum) : Good (Kci C l sum) [] := ⟨hm, hs, fun m c F H e F' H' _ h => by simp at h⟩
theorem wpci (hm : C.P.follows .mixedOrders = true) (hs : SumsOk C sum) {c : Code} (n : Nat) {F : Fr} {H : Hp} {Q : Post} (h : vc (Kci C l sum) n 0 (.code c) F H Q) : AWp C 0 c F H Q :=
  wp_of_vc (K := Kci C l sum) (goodci hm hs) (fun h => by cases h) n (Nat.zero_le _) (fun h => by cases h) h
theorem callci (hm : C.P.follows .mixedOrders = true) (hs : SumsOk C sum) {f : FuncId} {fn : Func} {c : Code} (hf : C.P.funcs[f]? = some fn) (hb : fn.body = some c) (hn : (fn.name == "runtime.NumGoroutine") = false)
    (n : Nat) {args : List AV} {Q : AV → Hp → Prop} (h : vc (Kci C l sum) n 0 (.code c) (frame0 fn args) [] (retK C fn Q)) : ACalls C f args [] Q :=
  call_of_vc (K := Kci C l sum) (H := []) (goodci hm hs) (fun h => by cases h) n hf hb hn (fun h => by cases h) h
end
/-- a closed sentence's summary: true -/
def true_sum : Sum1 := fun args _ => match args with
  | [] => some (true, .bool true, [])
  | _ => none
theorem true_sum_ok {C : Ctx} {f : FuncId} (h : ∀ G B, ACalls ⟨C.P, G, B⟩ f [] [] fun v _ => v = .bool true) : SumOk C f true_sum := by
  intro args H v hs h'
  unfold true_sum at h'
  split at h'
  · simp only [Option.some.injEq, Prod.mk.injEq, true_and] at h'
    obtain ⟨rfl, rfl⟩ := h'
    exact flat_call ⟨rfl, rfl⟩ ⟨rfl, rfl⟩ h H
  · simp at h'
theorem ACalls.monoK {C : Ctx} {f : FuncId} {args : List AV} {H : Hp} {K K' : AV → Hp → Prop} (h : ACalls C f args H K) (hk : ∀ v H', K v H' → K' v H') : ACalls C f args H K' :=
  ⟨h.1, fun ρ w cargs hH hv => (h.2 ρ w cargs hH hv).mono fun e w' ⟨v, cv, ρ', H', h1, h2, h3⟩ => ⟨v, cv, ρ', H', h1, hk v H' h2, h3⟩⟩
theorem isT_eq {v : AV} (h : chk (isT v) True) : v = .bool true := by
  obtain ⟨h4, _⟩ := chk_true h
  cases v with
  | bool b => simp only [isT] at h4; rw [h4]
  | _ => simp [isT] at h4
/-- the arguments may be told less of -/
theorem ACalls.weaken {C : Ctx} {f : FuncId} {args args' : List AV} {H : Hp} {K : AV → Hp → Prop} (h : ACalls C f args' H K) (hw : ∀ ρ vs, VRs ρ args vs → VRs ρ args' vs) : ACalls C f args H K :=
  ⟨h.1, fun ρ w cargs hH hv => h.2 ρ w cargs hH (hw ρ cargs hv)⟩
end Go.Am
