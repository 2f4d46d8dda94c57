/-
  THE MACHINE OVER WRITTEN TERMS IS SOUND: what its tree says, the code does.
-/
import Derived.Test.YtopenjkaifbnmaaAmDeepHeap
namespace Go.Am
variable {G : Nat → List AV}

/-- what a tree says -/
def vT (G : Nat → List AV) (Q : Ex → List AV → Hp → Prop) (R : AV → Hp → Prop) : T → Prop
  | .fail => False
  | .chk b t => vB G b = true ∧ vT G Q R t
  | .tst b x y => (vB G b = true → vT G Q R x) ∧ (vB G b = false → vT G Q R y)
  | .imp b t => vB G b = true → vT G Q R t
  | .allI _ k => ∀ x, vT G Q R (k x)
  | .allN _ k => ∀ x, vT G Q R (k x)
  | .allB _ k => ∀ x, vT G Q R (k x)
  | .allL _ k => ∀ x, vT G Q R (k x)
  | .namI _ e k => ∀ x, x = vI G e → vT G Q R (k x)
  | .namN _ e k => ∀ x, x = vN G e → vT G Q R (k x)
  | .namB _ e k => ∀ x, x = vB G e → vT G Q R (k x)
  | .namL _ e k => ∀ x, x = vL G e → vT G Q R (k x)
  | .leaf e F H => Q e (vVs G F) (vHp G H)
  | .ret v H => R (vV G v) (vHp G H)

section
variable {Q : Ex → List AV → Hp → Prop} {R : AV → Hp → Prop}
theorem vT_chkT : ∀ (b : EB) {t : T}, vT G Q R (chkT b t) → vB G b = true ∧ vT G Q R t
  | .lit true, t, h => ⟨rfl, h⟩
  | .lit false, t, h => h.elim
  | .and a b, t, h => by
    simp only [chkT] at h
    obtain ⟨h1, h⟩ := vT_chkT a h
    obtain ⟨h2, h⟩ := vT_chkT b h
    exact ⟨by simp [vB, h1, h2], h⟩
  | .var .., t, h => h
  | .cmp .., t, h => h
  | .not .., t, h => h
  | .eqB .., t, h => h
  | .eqS .., t, h => h
  | .isI .., t, h => h
  | .isB .., t, h => h
  | .isT .., t, h => h
  | .isR .., t, h => h
  | .get .., t, h => h
  | .leN .., t, h => h
  | .eqN .., t, h => h
  | .leaf .., t, h => h
  | .u8s .., t, h => h
  | .cells .., t, h => h
  | .uf .., t, h => h
def Bran (G : Nat → List AV) (Q : Ex → List AV → Hp → Prop) (R : AV → Hp → Prop) (n : Nat) (b : EB) (x y : Facts → T) : Prop :=
  (vB G b = true ∧ ∃ fs' : Facts, fs'.n = n ∧ vT G Q R (x fs')) ∨ (vB G b = false ∧ ∃ fs' : Facts, fs'.n = n ∧ vT G Q R (y fs'))
theorem vT_dec {fs : Facts} {b : EB} {x y : Facts → T} (h : vT G Q R (match dec fs b with | some true => .chk b (x fs) | some false => .chk (.not b) (y fs) | none => .tst b (x (learn fs b true)) (y (learn fs b false)))) : Bran G Q R fs.n b x y := by
  have hl : ∀ v, (learn fs b v).n = fs.n := fun v => by unfold learn; rfl
  split at h
  · exact .inl ⟨h.1, fs, rfl, h.2⟩
  · refine .inr ⟨?_, fs, rfl, h.2⟩
    have := h.1
    simpa [vB] using this
  · cases hb : vB G b with
    | true => exact .inl ⟨hb, _, hl _, h.1 hb⟩
    | false => exact .inr ⟨hb, _, hl _, h.2 hb⟩
theorem vT_tstT : ∀ (b : EB) (fs : Facts) (x y : Facts → T), vT G Q R (tstT fs b x y) → Bran G Q R fs.n b x y
  | .lit true, fs, x, y, h => .inl ⟨rfl, fs, rfl, h⟩
  | .lit false, fs, x, y, h => .inr ⟨rfl, fs, rfl, h⟩
  | .not b, fs, x, y, h => by
    simp only [tstT] at h
    rcases vT_tstT b fs y x h with ⟨h1, h2⟩ | ⟨h1, h2⟩
    · exact .inr ⟨by simp [vB, h1], h2⟩
    · exact .inl ⟨by simp [vB, h1], h2⟩
  | .and a b, fs, x, y, h => by
    simp only [tstT] at h
    rcases vT_tstT a fs _ _ h with ⟨h1, fs1, e1, h2⟩ | ⟨h1, h2⟩
    · rcases vT_tstT b fs1 _ _ h2 with ⟨h3, h4⟩ | ⟨h3, h4⟩
      · rw [e1] at h4; exact .inl ⟨by simp [vB, h1, h3], h4⟩
      · rw [e1] at h4; exact .inr ⟨by simp [vB, h1, h3], h4⟩
    · exact .inr ⟨by simp [vB, h1], h2⟩
  | .eqB a b, fs, x, y, h => by
    simp only [tstT] at h
    rcases vT_tstT a fs _ _ h with ⟨h1, fs1, e1, h2⟩ | ⟨h1, fs1, e1, h2⟩
    · rcases vT_tstT b fs1 _ _ h2 with ⟨h3, h4⟩ | ⟨h3, h4⟩
      · rw [e1] at h4; exact .inl ⟨by simp [vB, h1, h3], h4⟩
      · rw [e1] at h4; exact .inr ⟨by simp [vB, h1, h3], h4⟩
    · rcases vT_tstT b fs1 _ _ h2 with ⟨h3, h4⟩ | ⟨h3, h4⟩
      · rw [e1] at h4; exact .inr ⟨by simp [vB, h1, h3], h4⟩
      · rw [e1] at h4; exact .inl ⟨by simp [vB, h1, h3], h4⟩
  | .var .., fs, x, y, h => vT_dec h
  | .cmp .., fs, x, y, h => vT_dec h
  | .eqS .., fs, x, y, h => vT_dec h
  | .isI .., fs, x, y, h => vT_dec h
  | .isB .., fs, x, y, h => vT_dec h
  | .isT .., fs, x, y, h => vT_dec h
  | .isR .., fs, x, y, h => vT_dec h
  | .get .., fs, x, y, h => vT_dec h
  | .leN .., fs, x, y, h => vT_dec h
  | .eqN .., fs, x, y, h => vT_dec h
  | .leaf .., fs, x, y, h => vT_dec h
  | .u8s .., fs, x, y, h => vT_dec h
  | .cells .., fs, x, y, h => vT_dec h
  | .uf .., fs, x, y, h => vT_dec h
theorem vT_opT {o : Option (EB × EV)} {k : EV → T} (h : vT G Q R (opT o k)) : ∃ c v, o = some (c, v) ∧ vB G c = true ∧ vT G Q R (k v) := by
  unfold opT at h
  split at h
  · rename_i c v
    obtain ⟨h1, h2⟩ := vT_chkT c h
    exact ⟨c, v, rfl, h1, h2⟩
  · exact h.elim
end

/-- of what a call comes to, on its way -/
def oAll (G : Nat → List AV) (P : EV → List DHop → Prop) : Outs → Prop
  | .one v hs => P v hs
  | .chk b x => vB G b = true → oAll G P x
  | .tst b x y => (vB G b = true → oAll G P x) ∧ (vB G b = false → oAll G P y)
  | .namI e f => ∀ j, oAll G P (f (.var j (vI G e)))
  | .namN e f => ∀ j, oAll G P (f (.var j (vN G e)))
  | .namB e f => ∀ j, oAll G P (f (.var j (vB G e)))
  | .namL e f => ∀ j, oAll G P (f (.var j (vL G e)))
theorem vT_outT {Q : Ex → List AV → Hp → Prop} {R : AV → Hp → Prop} {P : EV → List DHop → Prop} {k : Facts → EV → List DHop → T} : ∀ (o : Outs) (fs : Facts), vT G Q R (outT fs o k) → oAll G P o → ∃ fs' v hs, P v hs ∧ vT G Q R (k fs' v hs)
  | .one v hs, fs, h, ho => ⟨fs, v, hs, ho, h⟩
  | .chk b x, fs, h, ho => by
    simp only [outT] at h
    obtain ⟨h1, h2⟩ := vT_chkT b h
    exact vT_outT x fs h2 (ho h1)
  | .tst b x y, fs, h, ho => by
    simp only [outT] at h
    rcases vT_tstT b fs _ _ h with ⟨h1, fs1, _, h2⟩ | ⟨h1, fs1, _, h2⟩
    · exact vT_outT x fs1 h2 (ho.1 h1)
    · exact vT_outT y fs1 h2 (ho.2 h1)
  | .namI e f, fs, h, ho => vT_outT (f (.var fs.n (vI G e))) (fresh fs) (h _ rfl) (ho _)
  | .namN e f, fs, h, ho => vT_outT (f (.var fs.n (vN G e))) (fresh fs) (h _ rfl) (ho _)
  | .namB e f, fs, h, ho => vT_outT (f (.var fs.n (vB G e))) (fresh fs) (h _ rfl) (ho _)
  | .namL e f, fs, h, ho => vT_outT (f (.var fs.n (vL G e))) (fresh fs) (h _ rfl) (ho _)
/-- of what a loop comes to -/
def lHolds (G : Nat → List AV) (Q : Ex → DFr → DHp → Prop) : Nat → LOut → Prop
  | _, .one e F H => Q e F H
  | n, .chk b x => vB G b = true ∧ lHolds G Q n x
  | n, .tst b x y => (vB G b = true → lHolds G Q n x) ∧ (vB G b = false → lHolds G Q n y)
  | n, .imp b x => vB G b = true → lHolds G Q n x
  | n, .allI f => ∀ x, lHolds G Q (n + 1) (f (.var n x))
  | n, .allN f => ∀ x, lHolds G Q (n + 1) (f (.var n x))
  | n, .allB f => ∀ x, lHolds G Q (n + 1) (f (.var n x))
  | n, .allL f => ∀ x, lHolds G Q (n + 1) (f (.var n x))
  | n, .namI e f => lHolds G Q (n + 1) (f (.var n (vI G e)))
  | n, .namN e f => lHolds G Q (n + 1) (f (.var n (vN G e)))
  | n, .namB e f => lHolds G Q (n + 1) (f (.var n (vB G e)))
  | n, .namL e f => lHolds G Q (n + 1) (f (.var n (vL G e)))
theorem vT_loutT {Q : Ex → List AV → Hp → Prop} {R : AV → Hp → Prop} {k : Facts → Ex → DFr → DHp → T} : ∀ (o : LOut) (fs : Facts), vT G Q R (loutT fs o k) → lHolds G (fun e F H => ∃ fs', vT G Q R (k fs' e F H)) fs.n o
  | .one e F H, fs, h => ⟨fs, h⟩
  | .chk b x, fs, h => by
    simp only [loutT] at h
    obtain ⟨h1, h2⟩ := vT_chkT b h
    exact ⟨h1, vT_loutT x fs h2⟩
  | .tst b x y, fs, h => by
    simp only [loutT] at h
    rcases vT_tstT b fs _ _ h with ⟨h1, fs1, e1, h2⟩ | ⟨h1, fs1, e1, h2⟩
    · have := vT_loutT x fs1 h2
      rw [e1] at this
      exact ⟨fun _ => this, fun hb => by rw [h1] at hb; simp at hb⟩
    · have := vT_loutT y fs1 h2
      rw [e1] at this
      exact ⟨fun hb => by rw [h1] at hb; simp at hb, fun _ => this⟩
  | .imp b x, fs, h => fun hb => vT_loutT x (learn fs b true) (h hb)
  | .allI f, fs, h => fun x => vT_loutT (f (.var fs.n x)) (fresh fs) (h x)
  | .allN f, fs, h => fun x => vT_loutT (f (.var fs.n x)) (fresh fs) (h x)
  | .allB f, fs, h => fun x => vT_loutT (f (.var fs.n x)) (fresh fs) (h x)
  | .allL f, fs, h => fun x => vT_loutT (f (.var fs.n x)) (fresh fs) (h x)
  | .namI e f, fs, h => vT_loutT (f (.var fs.n _)) (fresh fs) (h _ rfl)
  | .namN e f, fs, h => vT_loutT (f (.var fs.n _)) (fresh fs) (h _ rfl)
  | .namB e f, fs, h => vT_loutT (f (.var fs.n _)) (fresh fs) (h _ rfl)
  | .namL e f, fs, h => vT_loutT (f (.var fs.n _)) (fresh fs) (h _ rfl)

def DOut (C : Ctx) (f : FuncId) (args : List EV) (H : DHp) (v : EV) (hs : List DHop) : Prop :=
  ACalls C f (vVs C.G args) (vHp C.G H) fun v' H' => v' = vV C.G v ∧ H' = acts (vHp C.G H) (hs.map (vHop C.G))
structure DGood (C : Ctx) (K : DCfg) (lps : List Code) : Prop where
  hP : K.P = C.P
  mix : C.P.follows .mixedOrders = true
  calls : ∀ f args H o, K.sum f args H = some o → oAll C.G (DOut C f args H) o
  loops : ∀ m c F H o, m ≤ K.M → c ∈ lps → K.loop c F H = some o → ∀ n (Q : Post), lHolds C.G (fun e F' H' => Q e (vVs C.G F') (vHp C.G H')) n o → AWp C m (.loop c) (vVs C.G F) (vHp C.G H) Q
  inl : ∀ f fn c, K.inl f = true → C.P.funcs[f]? = some fn → fn.body = some c → ∀ b ∈ loopsOf c, b ∈ lps

/-- the abstract machine's own view of the same -/
def K0 (C : Ctx) : Cfg := { C := C, inl := fun _ => false, strict := .lazy, unr := false, sum := fun _ _ _ => none, loop := fun _ _ _ => none, M := 0 }
theorem good_K0 {C : Ctx} (h : C.P.follows .mixedOrders = true) (lps : List Code) : Good (K0 C) lps := ⟨h, fun f args H v hs h => by simp [K0] at h, fun m c F H e F' H' _ _ h => by simp [K0] at h⟩
def vTrK (G : Nat → List AV) : DTrK → TrK
  | .still => .still
  | .read r => .read (vR G r)
  | .write => .write
def vTr (G : Nat → List AV) (t : DTr) : Tr := ⟨vTrK G t.kd, t.len, t.hs.map (vHop G)⟩
def vWk (G : Nat → List AV) : DWk → Wk
  | .code c => .code c
  | .ops all l => .ops all l
  | .dr all l trs => .dr all l (trs.map (vTr G))

theorem touch_ok (i : Nat) : ∀ (hs : List DHop) (len : Nat), touch i len (hs.map (vHop G)) = touchD i len hs
  | [], _ => rfl
  | h :: hs, len => by cases h <;> simp only [List.map_cons, vHop, touch, touchD, touch_ok i hs]
theorem touchR_ok (r : ER) (hs : List DHop) (len : Nat) : touchR (vR G r) len (hs.map (vHop G)) = touchRD r len hs := by
  cases r <;> simp only [vR, touchR, touchRD, touch_ok]
theorem apartH_ok (x y : DTr) : apartH (vTr G x) (vTr G y) = apartHD x y := by
  obtain ⟨kx, lx, hx⟩ := x
  obtain ⟨ky, ly, hy⟩ := y
  cases kx <;> cases ky <;> simp only [vTr, vTrK, apartH, apartHD, touchR_ok]
theorem drawOk_ok (all : List Oper) (trs : List DTr) : drawOk all (trs.map (vTr G)) = drawOkD all trs := by
  unfold drawOk drawOkD
  simp only
  congr 2
  funext j
  congr 1
  funext i
  congr 1
  simp only [List.getElem?_map]
  cases all[i]? <;> cases all[j]? <;> cases trs[i]? <;> cases trs[j]? <;> simp [apartH_ok]
theorem diff_ok : ∀ (H H' : DHp) (i : Nat) (hs : List DHop), diffD i H H' = some hs → diffH i (vHp G H) (vHp G H') = some (hs.map (vHop G))
  | [], [], i, hs, h => by simp [diffD] at h; subst h; rfl
  | [], some b :: H', i, hs, h => by
    simp only [diffD] at h
    split at h
    · rename_i hs' h1
      simp at h; subst h
      have := diff_ok [] H' i hs' h1
      simp only [vHp, List.map_nil] at this
      simp only [vHp, List.map_cons, List.map_nil, Option.map_some, diffH, this, vHop]
    · simp at h
  | [], none :: H', i, hs, h => by simp [diffD] at h
  | x :: H, some b :: H', i, hs, h => by
    cases x <;> simp only [diffD] at h
    all_goals
      split at h
      · rename_i hs' h1
        simp at h; subst h
        have := diff_ok H H' (i + 1) hs' h1
        simp only [vHp] at this
        simp only [vHp, List.map_cons, Option.map_some, Option.map_none, diffH, this, vHop]
      · simp at h
  | none :: H, none :: H', i, hs, h => by
    simp only [diffD] at h
    have := diff_ok H H' (i + 1) hs h
    simp only [vHp] at this
    simp only [vHp, List.map_cons, Option.map_none, diffH, this]
  | some _ :: H, none :: H', i, hs, h => by simp [diffD] at h
  | some _ :: H, [], i, hs, h => by simp [diffD] at h
  | none :: H, [], i, hs, h => by simp [diffD] at h
theorem frame_ok (fn : Func) (args : List EV) : vVs G (frameD fn args) = frame0 fn (vVs G args) := by
  unfold frameD frame0
  rw [vVs_append, vVs_length]
  congr 1
  rw [vVs_map, List.map_replicate]
  simp only [vV, vVs]
theorem put_ok (F : DFr) (d : Option Tmp) (v : EV) : vVs G (putD F d v) = put (vVs G F) d (vV G v) := by
  cases d <;> simp only [putD, put, vVs_set]

/-! ### read-only code leaves the heap as it is -/
theorem roIn_mono {K : DCfg} {r1 r2 : Code → Bool} (h : ∀ c, r1 c = true → r2 c = true) : ∀ c, roInD K r1 c = true → roInD K r2 c = true := by
  have op : ∀ o, roOpD K r1 o = true → roOpD K r2 o = true := fun o ho => by
    unfold roOpD at ho ⊢
    split at ho <;> first
      | rfl
      | (simp at ho; done)
      | skip
    split at ho
    · rename_i g _ _
      obtain ⟨h1, h2⟩ := and_true' ho
      rw [h1]
      simp only [Bool.true_and]
      split at h2
      · split at h2
        · exact h _ h2
        · rfl
      · rfl
    · simp at ho
  intro c
  induction c with
  | region id ops d => simp only [roInD, List.all_eq_true]; exact fun h o ho => op o (h o ho)
  | seq a b iha ihb => simp only [roInD, Bool.and_eq_true]; exact fun h => ⟨iha h.1, ihb h.2⟩
  | cond x a b iha ihb => simp only [roInD, Bool.and_eq_true]; exact fun h => ⟨iha h.1, ihb h.2⟩
  | block id c ih => exact ih
  | scope c ih => exact ih
  | _ => intro h; simp_all [roInD]
theorem roCode_mono {K : DCfg} : ∀ d c, roCodeD K d c = true → roCodeD K (d + 1) c = true
  | 0, c, h => by simp [roCodeD] at h
  | d + 1, c, h => roIn_mono (roCode_mono d) c h
theorem roCode_le {K : DCfg} {c : Code} {d : Nat} (h : roCodeD K d c = true) : ∀ k, roCodeD K (d + k) c = true
  | 0 => h
  | k + 1 => roCode_mono _ _ (roCode_le h k)

/-- all that a tree hands back lies in this heap -/
def heapIs (H : DHp) : T → Prop
  | .fail => True
  | .chk _ t => heapIs H t
  | .tst _ x y => heapIs H x ∧ heapIs H y
  | .imp _ t => heapIs H t
  | .allI _ k => ∀ x, heapIs H (k x)
  | .allN _ k => ∀ x, heapIs H (k x)
  | .allB _ k => ∀ x, heapIs H (k x)
  | .allL _ k => ∀ x, heapIs H (k x)
  | .namI _ _ k => ∀ x, heapIs H (k x)
  | .namN _ _ k => ∀ x, heapIs H (k x)
  | .namB _ _ k => ∀ x, heapIs H (k x)
  | .namL _ _ k => ∀ x, heapIs H (k x)
  | .leaf .. => True
  | .ret _ H' => H' = H
theorem hi_chkT {H : DHp} : ∀ (b : EB) {t : T}, heapIs H t → heapIs H (chkT b t)
  | .lit true, t, h => h
  | .lit false, t, h => trivial
  | .and a b, t, h => by simp only [chkT]; exact hi_chkT a (hi_chkT b h)
  | .var .., t, h => h
  | .cmp .., t, h => h
  | .not .., t, h => h
  | .eqB .., t, h => h
  | .eqS .., t, h => h
  | .isI .., t, h => h
  | .isB .., t, h => h
  | .isT .., t, h => h
  | .isR .., t, h => h
  | .get .., t, h => h
  | .leN .., t, h => h
  | .eqN .., t, h => h
  | .leaf .., t, h => h
  | .u8s .., t, h => h
  | .cells .., t, h => h
  | .uf .., t, h => h
theorem hi_dec {H : DHp} {fs : Facts} {b : EB} {x y : Facts → T} (hx : ∀ fs, heapIs H (x fs)) (hy : ∀ fs, heapIs H (y fs)) :
    heapIs H (match dec fs b with | some true => .chk b (x fs) | some false => .chk (.not b) (y fs) | none => .tst b (x (learn fs b true)) (y (learn fs b false))) := by
  split
  · exact hx _
  · exact hy _
  · exact ⟨hx _, hy _⟩
theorem hi_tstT {H : DHp} : ∀ (b : EB) (fs : Facts) (x y : Facts → T), (∀ fs, heapIs H (x fs)) → (∀ fs, heapIs H (y fs)) → heapIs H (tstT fs b x y)
  | .lit true, fs, x, y, hx, hy => hx _
  | .lit false, fs, x, y, hx, hy => hy _
  | .not b, fs, x, y, hx, hy => by simp only [tstT]; exact hi_tstT b fs y x hy hx
  | .and a b, fs, x, y, hx, hy => by simp only [tstT]; exact hi_tstT a fs _ _ (fun fs => hi_tstT b fs x y hx hy) hy
  | .eqB a b, fs, x, y, hx, hy => by simp only [tstT]; exact hi_tstT a fs _ _ (fun fs => hi_tstT b fs x y hx hy) (fun fs => hi_tstT b fs y x hy hx)
  | .var .., fs, x, y, hx, hy => hi_dec hx hy
  | .cmp .., fs, x, y, hx, hy => hi_dec hx hy
  | .eqS .., fs, x, y, hx, hy => hi_dec hx hy
  | .isI .., fs, x, y, hx, hy => hi_dec hx hy
  | .isB .., fs, x, y, hx, hy => hi_dec hx hy
  | .isT .., fs, x, y, hx, hy => hi_dec hx hy
  | .isR .., fs, x, y, hx, hy => hi_dec hx hy
  | .get .., fs, x, y, hx, hy => hi_dec hx hy
  | .leN .., fs, x, y, hx, hy => hi_dec hx hy
  | .eqN .., fs, x, y, hx, hy => hi_dec hx hy
  | .leaf .., fs, x, y, hx, hy => hi_dec hx hy
  | .u8s .., fs, x, y, hx, hy => hi_dec hx hy
  | .cells .., fs, x, y, hx, hy => hi_dec hx hy
  | .uf .., fs, x, y, hx, hy => hi_dec hx hy
theorem hi_opT {H : DHp} {o : Option (EB × EV)} {k : EV → T} (h : ∀ v, heapIs H (k v)) : heapIs H (opT o k) := by
  unfold opT; split
  · exact hi_chkT _ (h _)
  · trivial
/-- what a call comes to leaves the heap as it is -/
def oRo : Outs → Prop
  | .one _ hs => hs = []
  | .chk _ x => oRo x
  | .tst _ x y => oRo x ∧ oRo y
  | .namI _ f => ∀ x, oRo (f x)
  | .namN _ f => ∀ x, oRo (f x)
  | .namB _ f => ∀ x, oRo (f x)
  | .namL _ f => ∀ x, oRo (f x)
theorem hi_outT {H : DHp} {k : Facts → EV → List DHop → T} (hk : ∀ fs v, heapIs H (k fs v [])) : ∀ (o : Outs) (fs : Facts), oRo o → heapIs H (outT fs o k)
  | .one v hs, fs, ho => by have : hs = [] := ho; subst this; exact hk _ _
  | .chk b x, fs, ho => hi_chkT b (hi_outT hk x fs ho)
  | .tst b x y, fs, ho => hi_tstT b fs _ _ (fun fs => hi_outT hk x fs ho.1) (fun fs => hi_outT hk y fs ho.2)
  | .namI e f, fs, ho => fun x => hi_outT hk _ _ (ho _)
  | .namN e f, fs, ho => fun x => hi_outT hk _ _ (ho _)
  | .namB e f, fs, ho => fun x => hi_outT hk _ _ (ho _)
  | .namL e f, fs, ho => fun x => hi_outT hk _ _ (ho _)
theorem outs_ro {H : DHp} : ∀ (t : T) (o : Outs), outsOf true H t = some o → oRo o
  | .ret v H', o, h => by simp [outsOf] at h; subst h; rfl
  | .chk b t, o, h => by
    simp only [outsOf] at h
    split at h
    · rename_i o' h1; simp at h; subst h; exact outs_ro t o' h1
    · simp at h
  | .tst b x y, o, h => by
    simp only [outsOf] at h
    split at h
    · rename_i o1 o2 h1 h2; simp at h; subst h; exact ⟨outs_ro x o1 h1, outs_ro y o2 h2⟩
    · simp at h
  | .fail, o, h => by simp [outsOf] at h
  | .allI .., o, h => by simp [outsOf] at h
  | .allN .., o, h => by simp [outsOf] at h
  | .allB .., o, h => by simp [outsOf] at h
  | .allL .., o, h => by simp [outsOf] at h
  | .leaf .., o, h => by simp [outsOf] at h
  | .imp .., o, h => by simp [outsOf] at h
  | .namI .., o, h => by simp [outsOf] at h
  | .namN .., o, h => by simp [outsOf] at h
  | .namB .., o, h => by simp [outsOf] at h
  | .namL .., o, h => by simp [outsOf] at h

def roWkD (K : DCfg) : DWk → Bool
  | .code c => roCodeD K 20 c
  | .ops _ l => l.all (roOpD K (roCodeD K 20))
  | .dr _ l _ => l.all (roOpD K (roCodeD K 20))
theorem roOp_call {K : DCfg} {o : Oper} {F : DFr} {f : FuncId} {args : List EV} (hk : kdOf K.P o.op = .call) (hr : roOpD K (roCodeD K 20) o = true) (hc : callD F o.op = some (f, args)) :
    K.inl f = true ∧ ∀ fn c, K.P.funcs[f]? = some fn → fn.body = some c → roCodeD K 20 c = true := by
  unfold roOpD at hr
  rw [hk] at hr
  simp only at hr
  split at hr
  · rename_i g args' ts hop
    rw [hop] at hc
    simp only [callD, evD, Option.some.injEq, Prod.mk.injEq] at hc
    obtain ⟨rfl, _⟩ := hc
    obtain ⟨h1, h2⟩ := and_true' hr
    refine ⟨h1, fun fn c hf hb => ?_⟩
    rw [hf] at h2
    simp only [hb] at h2
    exact h2
  · simp at hr
theorem dx_ro {K : DCfg} : ∀ n m wk F H fs q, roWkD K wk = true → (∀ e F fs, heapIs H (q e F H fs)) → heapIs H (dx K n m wk F H fs q) := by
  intro n
  induction n with
  | zero => intro m wk F H fs q _ _; trivial
  | succ n ih =>
    intro m wk F H fs q hr hq
    have guard : ∀ {all : List Oper} {g : Option (Nat × Bool)} {go skip : DFr → Facts → T}, (∀ F fs, heapIs H (go F fs)) → (∀ F fs, heapIs H (skip F fs)) → heapIs H (guardD fs all g F go skip) := by
      intro all g go skip h1 h2
      unfold guardD
      split
      · exact h1 _ _
      · split
        · split
          · refine hi_tstT _ _ _ _ (fun fs => ?_) (fun fs => ?_) <;> split <;> first | exact h1 _ _ | exact h2 _ _
          · exact h2 _ _
          · trivial
        · trivial
    cases wk with
    | ops all l =>
      show heapIs H (stepOpsD K (dx K n) m all l F H fs q)
      cases l with
      | nil => exact hq _ _ _
      | cons o l =>
        obtain ⟨dst, op, ty, pos, after, g⟩ := o
        simp only [roWkD, List.all_cons, Bool.and_eq_true] at hr
        obtain ⟨ho, hl⟩ := hr
        simp only [stepOpsD]
        refine guard (fun F fs => ?_) (fun F fs => ih _ _ _ _ _ _ hl hq)
        unfold stepOpD
        split
        · exact hi_opT fun v => ih _ _ _ _ _ _ hl hq
        · exact hi_opT fun v => ih _ _ _ _ _ _ hl hq
        · rename_i hk
          simp [roOpD, hk] at ho
        · rename_i hk
          split
          · rename_i f args hc
            obtain ⟨hi, hb⟩ := roOp_call hk ho hc
            rw [hi]
            simp only
            split
            · rename_i fn hf
              split
              · rename_i c hbody
                split
                · trivial
                · refine ih _ (.code c) _ _ _ _ (hb fn c hf hbody) fun e F fs => ?_
                  unfold retD
                  split
                  · trivial
                  · exact hi_opT fun v => ih _ _ _ _ _ _ hl hq
              · trivial
            · trivial
          · trivial
    | dr all l trs =>
      show heapIs H (stepDrD K (dx K n) m all l trs F H fs q)
      cases l with
      | nil =>
        simp only [stepDrD]
        split
        · exact hq _ _ _
        · trivial
      | cons o l =>
        obtain ⟨dst, op, ty, pos, after, g⟩ := o
        simp only [roWkD, List.all_cons, Bool.and_eq_true] at hr
        obtain ⟨ho, hl⟩ := hr
        simp only [stepDrD]
        refine guard (fun F fs => ?_) (fun F fs => ih _ (.dr all l _) _ _ _ _ hl hq)
        unfold stepDrOpD
        split
        · exact hi_opT fun v => ih _ (.dr all l _) _ _ _ _ hl hq
        · exact hi_opT fun v => ih _ (.dr all l _) _ _ _ _ hl hq
        · rename_i hk
          simp [roOpD, hk] at ho
        · rename_i hk
          split
          · rename_i f args hc
            obtain ⟨hi, hb⟩ := roOp_call hk ho hc
            rw [hi]
            simp only
            split
            · rename_i fn hf
              split
              · rename_i c hbody
                split
                · trivial
                · split
                  · rename_i o' ho'
                    rw [hb fn c hf hbody] at ho'
                    exact hi_outT (fun fs v => ih _ (.dr all l _) _ _ _ _ hl hq) o' fs (outs_ro _ _ ho')
                  · trivial
              · trivial
            · trivial
          · trivial
    | code c =>
      have sub : ∀ {c' : Code}, roInD K (roCodeD K 19) c' = true → roWkD K (.code c') = true := fun h => h
      show heapIs H (stepCodeD K (dx K n) m c F H fs q)
      have hr : roInD K (roCodeD K 19) c = true := hr
      have opsOk : ∀ {l : List Oper}, l.all (roOpD K (roCodeD K 19)) = true → l.all (roOpD K (roCodeD K 20)) = true := fun {l} h => by
        have := roIn_mono (K := K) (r1 := roCodeD K 19) (r2 := roCodeD K 20) (fun c => roCode_mono 19 c) (.region 0 l.toArray false) (by simpa [roInD] using h)
        simpa [roInD] using this
      cases c with
      | skip => exact hq _ _ _
      | region id ops draw =>
        simp only [roInD] at hr
        cases draw with
        | true => exact ih _ (.dr _ _ _) _ _ _ _ (opsOk hr) hq
        | false => exact ih _ (.ops _ _) _ _ _ _ (opsOk hr) hq
      | seq a b =>
        simp only [roInD, Bool.and_eq_true] at hr
        refine ih _ (.code a) _ _ _ _ (sub hr.1) fun e F fs => ?_
        unfold thenD
        split
        · exact ih _ (.code b) _ _ _ _ (sub hr.2) hq
        · exact hq _ _ _
      | cond x a b =>
        simp only [roInD, Bool.and_eq_true] at hr
        obtain ⟨ra, rb⟩ := hr
        simp only [stepCodeD, stepCondD]
        split
        · split
          · exact hi_tstT _ _ _ _ (fun fs => ih _ (.code a) _ _ _ _ (sub ra) hq) (fun fs => ih _ (.code b) _ _ _ _ (sub rb) hq)
          · trivial
        · split
          · exact ih _ (.code a) _ _ _ _ (sub ra) hq
          · exact ih _ (.code b) _ _ _ _ (sub rb) hq
        · trivial
      | block id c =>
        refine ih _ (.code c) _ _ _ _ (sub hr) fun e F fs => ?_
        unfold blockD
        split
        · split
          · exact hq _ _ _
          · exact hq _ _ _
        · exact hq _ _ _
      | loop c => simp [roInD] at hr
      | exit i => exact hq _ _ _
      | scope c => exact ih _ (.code c) _ _ _ _ (sub hr) hq
      | label i => exact hq _ _ _
      | ret => exact hq _ _ _
      | _ => simp [roInD] at hr

/-! ### the whole -/
theorem outs_ok {C : Ctx} {f : FuncId} {args : List EV} {H : DHp} {ro : Bool} : ∀ (t : T) (o : Outs), outsOf ro H t = some o → (ro = true → heapIs H t) →
    (∀ R : AV → Hp → Prop, vT C.G (fun _ _ _ => False) R t → ACalls C f (vVs C.G args) (vHp C.G H) R) → oAll C.G (DOut C f args H) o
  | .ret v H', o, h, hro, hc => by
    simp only [outsOf] at h
    split at h
    · simp at h; subst h
      have := hro rfl
      simp only [heapIs] at this
      subst this
      exact hc _ ⟨rfl, rfl⟩
    · split at h
      · rename_i hs hd
        simp at h; subst h
        have e := acts_diff 0 [] _ _ _ rfl (diff_ok (G := C.G) _ _ _ _ hd)
        simp only [List.nil_append] at e
        exact hc _ ⟨rfl, e.symm⟩
      · simp at h
  | .chk b t, o, h, hro, hc => by
    simp only [outsOf] at h
    split at h
    · rename_i o' h1
      simp at h; subst h
      exact fun hb => outs_ok t o' h1 hro fun R hR => hc R ⟨hb, hR⟩
    · simp at h
  | .tst b x y, o, h, hro, hc => by
    simp only [outsOf] at h
    split at h
    · rename_i o1 o2 h1 h2
      simp at h; subst h
      exact ⟨fun hb => outs_ok x o1 h1 (fun hr => (hro hr).1) fun R hR => hc R ⟨fun _ => hR, fun hb' => by rw [hb] at hb'; simp at hb'⟩,
        fun hb => outs_ok y o2 h2 (fun hr => (hro hr).2) fun R hR => hc R ⟨fun hb' => by rw [hb] at hb'; simp at hb', fun _ => hR⟩⟩
    · simp at h
  | .fail, o, h, _, _ => by simp [outsOf] at h
  | .allI .., o, h, _, _ => by simp [outsOf] at h
  | .allN .., o, h, _, _ => by simp [outsOf] at h
  | .allB .., o, h, _, _ => by simp [outsOf] at h
  | .allL .., o, h, _, _ => by simp [outsOf] at h
  | .leaf .., o, h, _, _ => by simp [outsOf] at h
  | .imp .., o, h, _, _ => by simp [outsOf] at h
  | .namI .., o, h, _, _ => by simp [outsOf] at h
  | .namN .., o, h, _, _ => by simp [outsOf] at h
  | .namB .., o, h, _, _ => by simp [outsOf] at h
  | .namL .., o, h, _, _ => by simp [outsOf] at h

theorem sees_ok {F : DFr} {op : Op} : seesOp (vVs G F) op = (seesD F op).map (vR G) := by
  unfold seesOp seesD
  cases op <;> simp only [Option.map_none]
  · simp only [← vV_evD]
    generalize evD F _ = x
    cases x <;> simp only [vV, Option.map_some, Option.map_none]
  · simp only [← vV_evD]
    generalize evD F _ = x
    cases x <;> simp only [vV, Option.map_some, Option.map_none]
theorem lHolds_mono {P P' : Ex → DFr → DHp → Prop} (hp : ∀ e F H, P e F H → P' e F H) : ∀ (o : LOut) (n : Nat), lHolds G P n o → lHolds G P' n o
  | .one e F H, n, h => hp _ _ _ h
  | .chk b x, n, h => ⟨h.1, lHolds_mono hp x n h.2⟩
  | .tst b x y, n, h => ⟨fun hb => lHolds_mono hp x n (h.1 hb), fun hb => lHolds_mono hp y n (h.2 hb)⟩
  | .imp b x, n, h => fun hb => lHolds_mono hp x n (h hb)
  | .allI f, n, h => fun x => lHolds_mono hp (f (.var n x)) (n + 1) (h x)
  | .allN f, n, h => fun x => lHolds_mono hp (f (.var n x)) (n + 1) (h x)
  | .allB f, n, h => fun x => lHolds_mono hp (f (.var n x)) (n + 1) (h x)
  | .allL f, n, h => fun x => lHolds_mono hp (f (.var n x)) (n + 1) (h x)
  | .namI e f, n, h => lHolds_mono hp (f (.var n _)) (n + 1) h
  | .namN e f, n, h => lHolds_mono hp (f (.var n _)) (n + 1) h
  | .namB e f, n, h => lHolds_mono hp (f (.var n _)) (n + 1) h
  | .namL e f, n, h => lHolds_mono hp (f (.var n _)) (n + 1) h

def LpD (K : DCfg) (lps : List Code) (wk : DWk) : Prop :=
  match wk with
  | .code c => ∀ b ∈ loopsOf c, b ∈ lps
  | _ => True

theorem guard_ok {Q : Ex → List AV → Hp → Prop} {R : AV → Hp → Prop} {fs : Facts} {all : List Oper} {g : Option (Nat × Bool)} {F : DFr} {go skip : DFr → Facts → T} (h : vT G Q R (guardD fs all g F go skip)) :
    ∃ F' fs', vVs G F' = vVs G F ∧ F'.length = F.length ∧ ((wantA all g (vVs G F) = some true ∧ vT G Q R (go F' fs')) ∨ (wantA all g (vVs G F) = some false ∧ vT G Q R (skip F' fs'))) := by
  unfold guardD at h
  unfold wantA
  split at h
  · exact ⟨F, fs, rfl, rfl, .inl ⟨rfl, h⟩⟩
  · rename_i j want
    simp only
    split at h
    · rename_i t ht
      simp only [ht, vVs_getD]
      split at h
      · rename_i b hb
        have hv : ∀ x : Bool, vB G b = x → vVs G (putD F (some t) (.bool (.lit x))) = vVs G F := fun x hx => by
          rw [put_ok]
          simp only [put, vV, vB]
          refine set_same ?_ (by simp)
          rw [vVs_getD, hb]
          simp only [vV, hx]
        rw [hb]
        simp only [vV]
        rcases vT_tstT b fs _ _ h with ⟨h1, fs1, _, h2⟩ | ⟨h1, fs1, _, h2⟩
        · refine ⟨putD F (some t) (.bool (.lit true)), fs1, hv _ h1, by simp [putD], ?_⟩
          rw [h1]
          cases want
          · exact .inr ⟨rfl, h2⟩
          · exact .inl ⟨rfl, h2⟩
        · refine ⟨putD F (some t) (.bool (.lit false)), fs1, hv _ h1, by simp [putD], ?_⟩
          rw [h1]
          cases want
          · exact .inl ⟨rfl, h2⟩
          · exact .inr ⟨rfl, h2⟩
      · rename_i hb
        rw [hb]
        simp only [vV, vVs]
        exact ⟨F, fs, rfl, rfl, .inr ⟨trivial, h⟩⟩
      · exact h.elim
    · exact h.elim

theorem dx_sound {C : Ctx} {K : DCfg} {lps : List Code} (hK : DGood C K lps) : ∀ n m wk F H fs q (Q : Post) (QQ : Ex → List AV → Hp → Prop) (RR : AV → Hp → Prop),
    (∀ e F H fs, vT C.G QQ RR (q e F H fs) → Q e (vVs C.G F) (vHp C.G H)) → LpD K lps wk → vT C.G QQ RR (dx K n m wk F H fs q) → Snd (K0 C) m (vWk C.G wk) (vVs C.G F) (vHp C.G H) Q := by
  have hG : C.G = C.G := rfl
  have hP := hK.hP
  intro n
  induction n with
  | zero => intro m wk F H fs q Q QQ RR _ _ h; exact h.elim
  | succ n ih =>
    intro m wk F H fs q Q QQ RR hq hlp h
    have g0 := good_K0 (C := C) hK.mix lps
    cases wk with
    | ops all l =>
      change vT C.G QQ RR (stepOpsD K (dx K n) m all l F H fs q) at h
      cases l with
      | nil => exact fun ρ a w hm hH hF => ⟨.normal, ρ, _, _, rfl, hq _ _ _ _ h, Pin.refl m ρ, hH, hF, Frm.refl ρ w⟩
      | cons o l =>
        obtain ⟨dst, op, ty, pos, after, guard⟩ := o
        simp only [stepOpsD] at h
        obtain ⟨F', fs', hFe, _, h⟩ := guard_ok h
        rw [← hFe]
        rw [← hFe] at h
        rcases h with ⟨hw, h⟩ | ⟨hw, h⟩
        · unfold stepOpD at h
          rw [hP] at h
          split at h
          · rename_i hk
            obtain ⟨c, v, h1, h2, h3⟩ := vT_opT h
            have := ih m (.ops all l) _ _ _ _ _ _ _ hq trivial h3
            rw [put_ok] at this
            exact step_then (lps := lps) g0 (.pure hw hk (pure_wo _ _ h1 h2)) this
          · rename_i hk
            obtain ⟨c, v, h1, h2, h3⟩ := vT_opT h
            have := ih m (.ops all l) _ _ _ _ _ _ _ hq trivial h3
            rw [put_ok] at this
            exact step_then (lps := lps) g0 (.read hw hk (read_wo hG _ _ h1 h2)) this
          · rename_i hk
            split at h
            · rename_i c v x hx
              obtain ⟨h2, h3⟩ := vT_chkT c h
              have := ih m (.ops all l) _ _ _ _ _ _ _ hq trivial h3
              rw [put_ok, vHop_act] at this
              exact step_then (lps := lps) g0 (.write hw hk (write_ww hG _ _ _ hx h2)) this
            · exact h.elim
          · rename_i hk
            split at h
            · rename_i f args hc
              have hc := call_ok (G := C.G) hc
              split at h
              · rename_i hi
                split at h
                · rename_i fn hfn
                  split at h
                  · rename_i c hb
                    split at h
                    · exact h.elim
                    · rename_i hnm
                      have hbody : ∀ (ρ : Env) (a : Act) (w : World), (vHp C.G H).length ≤ (vHp C.G H).length → HRel C ρ (vHp C.G H) w → FRel ρ (frame0 fn (vVs C.G args)) a →
                          c.wp C.P (AP C (vHp C.G H).length ρ w (retK C fn fun v' H' => ∃ v H1 fs, v' = vV C.G v ∧ H' = vHp C.G H1 ∧ vT C.G QQ RR (dx K n m (.ops all l) (putD F' dst v) H1 fs q))) a w := by
                        have := ih H.length (.code c) (frameD fn args) H fs' _ (retK C fn fun v' H' => ∃ v H1 fs, v' = vV C.G v ∧ H' = vHp C.G H1 ∧ vT C.G QQ RR (dx K n m (.ops all l) (putD F' dst v) H1 fs q)) QQ RR (fun e F1 H1 fs1 ht => by
                          unfold retD at ht
                          split at ht
                          · exact ht.elim
                          · rename_i hne
                            obtain ⟨cc, v, q1, q2, q3⟩ := vT_opT ht
                            have e1 := res_wo hG _ _ q1 q2
                            cases e with
                            | exit i => exact absurd rfl (hne i)
                            | normal => simp only [retK]; rw [e1]; exact ⟨v, H1, fs1, rfl, rfl, q3⟩
                            | ret => simp only [retK]; rw [e1]; exact ⟨v, H1, fs1, rfl, rfl, q3⟩) (fun b hb' => hK.inl f fn c hi hfn hb b hb') h
                        rw [frame_ok] at this
                        rw [← vHp_length (G := C.G) H] at this
                        exact this
                      have hcall := acalls_of (f := f) (C := C) (fn := fn) (K := fun v' H' => ∃ v H1 fs, v' = vV C.G v ∧ H' = vHp C.G H1 ∧ vT C.G QQ RR (dx K n m (.ops all l) (putD F' dst v) H1 fs q)) hfn hb hnm (fun ρ a w hH hF => hbody ρ a w (Nat.le_refl _) hH hF)
                      intro ρ a w hm hH hF
                      unfold wpList
                      rw [wanted_of hF hw, if_pos rfl]
                      obtain ⟨cargs, hv, h1⟩ := call_enters (w := w) (o := ⟨dst, op, ty, pos, after, guard⟩) hF hc hcall.1
                      refine .inl ?_
                      unfold Oper.wp
                      have h1 : (execOp a.eval ⟨dst, op, ty, pos, after, guard⟩).run (K0 C).C.P w = .ok (.enter f cargs.toArray) w := h1
                      rw [h1]
                      refine (hcall.2 ρ w cargs hH hv).mono ?_
                      rintro e w' ⟨v', cv, ρ', H', rfl, ⟨v, H1, fs1, rfl, rfl, g1⟩, g2, g3, g4, g5⟩
                      have hp := Pin.of_le hH g2 hm
                      have := ih m (.ops all l) _ _ _ _ _ _ _ hq trivial g1
                      rw [put_ok] at this
                      exact wpList_monoQ (fun e a w h => AP.link hp g5 h) l _ _ (this ρ' _ w' (pin_len hm hH g3 hp) g3 ((hF.mono g2).put _ _ _ g4))
                  · exact h.elim
                · exact h.elim
              · split at h
                · rename_i o ho
                  obtain ⟨fs1, v, hs, h1, h2⟩ := vT_outT o fs' h (hK.calls _ _ _ _ ho)
                  have := ih m (.ops all l) _ _ _ _ _ _ _ hq trivial h2
                  rw [put_ok, vHop_acts] at this
                  exact step_then (lps := lps) g0 (.call hw hk hc h1) this
                · exact h.elim
            · exact h.elim
        · have := ih m (.ops all l) _ _ _ _ _ _ _ hq trivial h
          rw [put_ok] at this
          simp only [vV, vVs] at this
          exact step_then (lps := lps) g0 (.skip hw) this
    | dr all l trs =>
      change vT C.G QQ RR (stepDrD K (dx K n) m all l trs F H fs q) at h
      cases l with
      | nil =>
        simp only [stepDrD] at h
        split at h
        · rename_i hd
          exact ⟨[], _, _, .nil _ _, by simpa [drawOk_ok] using hd, hq _ _ _ _ h⟩
        · exact h.elim
      | cons o l =>
        obtain ⟨dst, op, ty, pos, after, guard⟩ := o
        simp only [stepDrD] at h
        obtain ⟨F', fs', hFe, _, h⟩ := guard_ok h
        rw [← hFe]
        rw [← hFe] at h
        have go : ∀ {tr : DTr} {v : EV} {H' : DHp} {fs1 : Facts}, St (K0 C) all ⟨dst, op, ty, pos, after, guard⟩ (vVs C.G F') (vHp C.G H) (vTr C.G tr) (vV C.G v) (vHp C.G H') →
            vT C.G QQ RR (dx K n m (.dr all l (trs ++ [tr])) (putD F' dst v) H' fs1 q) → Snd (K0 C) m (vWk C.G (.dr all (⟨dst, op, ty, pos, after, guard⟩ :: l) trs)) (vVs C.G F') (vHp C.G H) Q := by
          intro tr v H' fs1 hst hrec
          have := ih m (.dr all l (trs ++ [tr])) _ _ _ _ _ _ _ hq trivial hrec
          rw [put_ok] at this
          obtain ⟨trs', F1, H1, g1, g2, g3⟩ := this
          exact ⟨vTr C.G tr :: trs', F1, H1, .cons hst g1, by simpa using g2, g3⟩
        rcases h with ⟨hw, h⟩ | ⟨hw, h⟩
        · unfold stepDrOpD at h
          rw [hP] at h
          split at h
          · rename_i hk
            obtain ⟨c, v, h1, h2, h3⟩ := vT_opT h
            refine go (tr := ⟨.still, H.length, []⟩) ?_ h3
            have := St.pure (K := K0 C) (all := all) (o := ⟨dst, op, ty, pos, after, guard⟩) (H := vHp C.G H) hw hk (pure_wo _ _ h1 h2)
            rw [vHp_length] at this
            exact this
          · rename_i hk
            obtain ⟨c, v, h1, h2, h3⟩ := vT_opT h
            refine go ?_ h3
            have := St.read (K := K0 C) (all := all) (o := ⟨dst, op, ty, pos, after, guard⟩) (H := vHp C.G H) hw hk (read_wo hG _ _ h1 h2)
            rw [vHp_length] at this
            refine cast (congrArg (fun tr => St (K0 C) all ⟨dst, op, ty, pos, after, guard⟩ (vVs C.G F') (vHp C.G H) tr (vV C.G v) (vHp C.G H)) ?_) this
            simp only [vTr, List.map_nil]
            congr 1
            rw [sees_ok]
            cases seesD F' op <;> simp only [Option.map_some, Option.map_none, vTrK]
          · rename_i hk
            split at h
            · rename_i c v x hx
              obtain ⟨h2, h3⟩ := vT_chkT c h
              refine go ?_ h3
              have := St.write (K := K0 C) (all := all) (o := ⟨dst, op, ty, pos, after, guard⟩) hw hk (write_ww hG _ _ _ hx h2)
              rw [vHp_length, ← vHop_act] at this
              exact this
            · exact h.elim
          · rename_i hk
            split at h
            · rename_i f args hc
              have hc := call_ok (G := C.G) hc
              have fin : ∀ {o : Outs} {fs1 : Facts}, oAll C.G (DOut C f args H) o → vT C.G QQ RR (outT fs1 o fun fs v hs => dx K n m (.dr all l (trs ++ [⟨.write, H.length, hs⟩])) (putD F' dst v) (dacts H hs) fs q) →
                  Snd (K0 C) m (vWk C.G (.dr all (⟨dst, op, ty, pos, after, guard⟩ :: l) trs)) (vVs C.G F') (vHp C.G H) Q := by
                intro o fs1 ho ht
                obtain ⟨fs2, v, hs, h1, h2⟩ := vT_outT o fs1 ht ho
                refine go ?_ h2
                have := St.call (K := K0 C) (all := all) (o := ⟨dst, op, ty, pos, after, guard⟩) hw hk hc h1
                rw [vHp_length, ← vHop_acts] at this
                exact this
              split at h
              · rename_i hi
                split at h
                · rename_i fn hfn
                  split at h
                  · rename_i c hb
                    split at h
                    · exact h.elim
                    · rename_i hnm
                      split at h
                      · rename_i o ho
                        refine fin (outs_ok _ _ ho (fun hr => ?_) fun R hR => ?_) h
                        · refine dx_ro n _ (.code c) _ _ _ _ hr fun e F fs => ?_
                          unfold retD
                          split
                          · trivial
                          · exact hi_opT fun v => rfl
                        · refine acalls_of (f := f) (C := C) (fn := fn) hfn hb hnm fun ρ a w hH hF => ?_
                          have := ih H.length (.code c) (frameD fn args) H fs' _ (retK C fn R) (fun _ _ _ => False) R (fun e F1 H1 fs1 ht => by
                            unfold retD at ht
                            split at ht
                            · exact ht.elim
                            · rename_i hne
                              obtain ⟨cc, v, q1, q2, q3⟩ := vT_opT ht
                              have e1 := res_wo hG _ _ q1 q2
                              cases e with
                              | exit i => exact absurd rfl (hne i)
                              | normal => simp only [retK]; rw [e1]; exact q3
                              | ret => simp only [retK]; rw [e1]; exact q3) (fun b hb' => hK.inl f fn c hi hfn hb b hb') hR
                          rw [frame_ok, ← vHp_length (G := C.G) H] at this
                          exact this ρ a w (Nat.le_refl _) hH hF
                      · exact h.elim
                  · exact h.elim
                · exact h.elim
              · split at h
                · rename_i o ho
                  exact fin (hK.calls _ _ _ _ ho) h
                · exact h.elim
            · exact h.elim
        · refine go (tr := ⟨.still, H.length, []⟩) (v := .tup []) ?_ h
          have := St.skip (K := K0 C) (all := all) (o := ⟨dst, op, ty, pos, after, guard⟩) (H := vHp C.G H) hw
          rw [vHp_length] at this
          simp only [vV, vVs]
          exact this
    | code c =>
      change vT C.G QQ RR (stepCodeD K (dx K n) m c F H fs q) at h
      intro ρ a w hm hH hF
      have here : ∀ ae, Q ae (vVs C.G F) (vHp C.G H) → AP C m ρ w Q (toExit ae) a w := fun ae hq => ⟨ae, ρ, _, _, rfl, hq, Pin.refl m ρ, hH, hF, Frm.refl ρ w⟩
      cases c with
      | skip => exact wp_skip (here .normal (hq _ _ _ _ h))
      | region id ops draw =>
        cases draw with
        | true =>
          obtain ⟨trs', F', H', g1, g2, g3⟩ := ih m (.dr ops.toList ops.toList []) F H fs q Q QQ RR hq trivial h
          have := draw_sound (id := id) (Q := AP C m ρ w Q) (lps := lps) g0 g1 (by simpa using g2) hH hF fun ρ' a' w' q1 q2 q3 q4 => ⟨.normal, ρ', F', H', rfl, g3, Pin.of_le hH q3 hm, q1, q2, q4⟩
          rwa [Array.toArray_toList] at this
        | false =>
          have := ih m (.ops ops.toList ops.toList) F H fs q Q QQ RR hq trivial h ρ a w hm hH hF
          rw [Array.toArray_toList] at this
          exact wp_region_list this
      | seq x y =>
        have hx : LpD K lps (.code x) := fun b hb => hlp b (List.mem_append.2 (.inl hb))
        have hy : LpD K lps (.code y) := fun b hb => hlp b (List.mem_append.2 (.inr hb))
        have key := ih m (.code x) F H fs (thenD (dx K n) m y q) (fun e F1 H1 => match e with
          | .normal => ∀ ρ' a' w', m ≤ H1.length → HRel C ρ' H1 w' → FRel ρ' F1 a' → y.wp C.P (AP C m ρ' w' Q) a' w'
          | e => Q e F1 H1) QQ RR (fun e F1 H1 fs1 ht => by
            cases e with
            | normal => exact fun ρ' a' w' q1 q2 q3 => ih m (.code y) F1 H1 fs1 q Q QQ RR hq hy ht ρ' a' w' q1 q2 q3
            | exit i => exact hq _ _ _ _ ht
            | ret => exact hq _ _ _ _ ht) hx h ρ a w hm hH hF
        refine wp_seq (Code.wp_mono ?_ key)
        rintro e a' w' ⟨ae, ρ', F', H', rfl, h2, h3, h4, h5, h6⟩
        cases ae with
        | normal => exact Code.wp_mono (fun e a w h => AP.link h3 h6 h) (h2 ρ' a' w' (pin_len hm hH h4 h3) h4 h5)
        | exit i => exact ⟨.exit i, ρ', F', H', rfl, h2, h3, h4, h5, h6⟩
        | ret => exact ⟨.ret, ρ', F', H', rfl, h2, h3, h4, h5, h6⟩
      | cond c x y =>
        have hx : LpD K lps (.code x) := fun b hb => hlp b (List.mem_append.2 (.inl hb))
        have hy : LpD K lps (.code y) := fun b hb => hlp b (List.mem_append.2 (.inr hb))
        simp only [stepCodeD, stepCondD] at h
        split at h
        · rename_i t
          split at h
          · rename_i b hb
            have hv := hF.at t
            rw [vVs_getD, hb] at hv
            simp only [vV, VR] at hv
            have hs : ∀ x : Bool, vB C.G b = x → vVs C.G (putD F (some t) (.bool (.lit x))) = vVs C.G F := fun x hx => by
              rw [put_ok]
              simp only [put, vV, vB]
              refine set_same ?_ (by simp)
              rw [vVs_getD, hb]
              simp only [vV, hx]
            rcases vT_tstT b fs _ _ h with ⟨h1, fs1, _, h2⟩ | ⟨h1, fs1, _, h2⟩
            · rw [h1] at hv
              have := ih m (.code x) _ H fs1 q Q QQ RR hq hx h2 ρ a w hm hH
              rw [hs _ h1] at this
              exact wp_cond_true hv (this hF)
            · rw [h1] at hv
              have := ih m (.code y) _ H fs1 q Q QQ RR hq hy h2 ρ a w hm hH
              rw [hs _ h1] at this
              exact wp_cond_false hv (this hF)
          · exact h.elim
        · rename_i b
          cases b with
          | true => exact wp_cond_true rfl (ih m (.code x) F H fs q Q QQ RR hq hx h ρ a w hm hH hF)
          | false => exact wp_cond_false rfl (ih m (.code y) F H fs q Q QQ RR hq hy h ρ a w hm hH hF)
        · exact h.elim
      | block id c =>
        have key := ih m (.code c) F H fs (blockD id q) (blockK id Q) QQ RR (fun e F1 H1 fs1 ht => by
          cases e with
          | normal => exact hq _ _ _ _ ht
          | ret => exact hq _ _ _ _ ht
          | exit i =>
            simp only [blockD] at ht
            simp only [blockK]
            cases hb : (i == id) with
            | true => rw [hb] at ht; exact hq _ _ _ _ ht
            | false => rw [hb] at ht; exact hq _ _ _ _ ht) (fun b hb => hlp b hb) h ρ a w hm hH hF
        refine wp_block (Code.wp_mono ?_ key)
        rintro e a' w' ⟨ae, ρ', F', H', rfl, h2, h3⟩
        cases ae with
        | normal => exact ⟨.normal, ρ', F', H', rfl, h2, h3⟩
        | ret => exact ⟨.ret, ρ', F', H', rfl, h2, h3⟩
        | exit i =>
          simp only [blockK] at h2
          show (if i = id then AP C m ρ w Q .normal a' w' else AP C m ρ w Q (.exit i) a' w')
          split at h2
          · rename_i hi
            rw [if_pos (by simpa using hi)]
            exact ⟨.normal, ρ', F', H', rfl, h2, h3⟩
          · rename_i hi
            rw [if_neg (by simpa using hi)]
            exact ⟨.exit i, ρ', F', H', rfl, h2, h3⟩
      | loop c =>
        simp only [stepCodeD] at h
        split at h
        · rename_i hm'
          split at h
          · rename_i o ho
            have hmem : c ∈ lps := hlp c (List.mem_cons_self ..)
            exact hK.loops m c F H o (Nat.le_of_ble_eq_true hm') hmem ho fs.n Q (lHolds_mono (fun e F' H' ⟨fs', ht⟩ => hq _ _ _ _ ht) o fs.n (vT_loutT o fs h)) ρ a w hH hF
          · exact h.elim
        · exact h.elim
      | exit i => exact wp_exit (here (.exit i) (hq _ _ _ _ h))
      | scope c =>
        refine wp_scope_straight (Code.wp_mono ?_ (ih m (.code c) F H fs q Q QQ RR hq (fun b hb => hlp b hb) h ρ a w hm hH hF))
        rintro e a' w' h
        obtain ⟨ae, ρ', F', H', rfl, h2⟩ := h
        cases ae with
        | normal => exact ⟨.normal, ρ', F', H', rfl, h2⟩
        | ret => exact ⟨.ret, ρ', F', H', rfl, h2⟩
        | exit i => exact ⟨.exit i, ρ', F', H', rfl, h2⟩
      | label i => exact wp_label (here .normal (hq _ _ _ _ h))
      | ret => exact wp_ret (here .ret (hq _ _ _ _ h))
      | _ => exact h.elim
end Go.Am
