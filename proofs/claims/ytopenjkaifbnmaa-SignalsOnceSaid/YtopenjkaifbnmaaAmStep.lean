/-
  One operation of a region, and a function's call and return, against the model's.
-/
import Derived.Test.YtopenjkaifbnmaaAmAppend
namespace Go.Am
open Go.RowKit

def toExit : Ex → Exit
  | .normal => .normal
  | .exit i => .exit i
  | .ret => .ret

/-- a function that is entered when it is called -/
def Enters (P : Program) (f : FuncId) : Prop := ∃ fn c, P.funcs[f]? = some fn ∧ fn.body = some c ∧ (fn.name == "runtime.NumGoroutine") = false

def ACalls (C : Ctx) (f : FuncId) (args : List AV) (H : Hp) (K : AV → Hp → Prop) : Prop :=
  Enters C.P f ∧ ∀ (ρ : Env) (w : World) (cargs : List Value), HRel C ρ H w → VRs ρ args cargs →
    Calls C.P f cargs.toArray w fun e w' => ∃ v cv ρ' H', e = .returned cv ∧ K v H' ∧ ρ.le ρ' ∧ HRel C ρ' H' w' ∧ VR ρ' v cv ∧ Frm ρ w ρ' w'

theorem ACalls.mono {C : Ctx} {f : FuncId} {args : List AV} {H : Hp} {K K' : AV → Hp → Prop} (h : ACalls C f args H K) (hk : ∀ v H', K v H' → K' v H') : ACalls C f args H K' :=
  ⟨h.1, fun ρ w cargs h1 h2 => (h.2 ρ w cargs h1 h2).mono fun e w' ⟨v, cv, ρ', H', a, b, c⟩ => ⟨v, cv, ρ', H', a, hk v H' b, c⟩⟩

def Pin (m : Nat) (ρ ρ' : Env) : Prop := ∀ i, i < m → ρ'.rw[i]? = ρ.rw[i]?

/-- what is behind a piece of code -/
def AP (C : Ctx) (m : Nat) (ρ : Env) (w : World) (Q : Post) : Exit → Act → World → Prop := fun e a' w' =>
  ∃ ae ρ' F' H', e = toExit ae ∧ Q ae F' H' ∧ Pin m ρ ρ' ∧ HRel C ρ' H' w' ∧ FRel ρ' F' a' ∧ Frm ρ w ρ' w'

def AWp (C : Ctx) (m : Nat) (c : Code) (F : Fr) (H : Hp) (Q : Post) : Prop :=
  ∀ (ρ : Env) (a : Act) (w : World), HRel C ρ H w → FRel ρ F a → c.wp C.P (AP C m ρ w Q) a w

theorem Pin.refl (m : Nat) (ρ : Env) : Pin m ρ ρ := fun _ _ => rfl
theorem Pin.trans {m : Nat} {a b c : Env} (h : Pin m a b) (k : Pin m b c) : Pin m a c := fun i hi => (k i hi).trans (h i hi)
theorem Pin.of_le {C : Ctx} {ρ ρ' : Env} {H : Hp} {w : World} (hH : HRel C ρ H w) (h : ρ.le ρ') {m : Nat} (hm : m ≤ H.length) : Pin m ρ ρ' := fun i hi => by
  have hlt : i < ρ.rw.length := by rw [hH.len]; omega
  have : ρ.rw[i]? = some ρ.rw[i] := by simp [hlt]
  rw [this]
  exact h.1 i _ this

theorem AP.link {C : Ctx} {m : Nat} {ρ0 ρ : Env} {w0 w : World} {Q : Post} (hp : Pin m ρ0 ρ) (hf : Frm ρ0 w0 ρ w) {e : Exit} {a : Act} {w' : World} (h : AP C m ρ w Q e a w') : AP C m ρ0 w0 Q e a w' := by
  obtain ⟨ae, ρ', F', H', h1, h2, h3, h4, h5, h6⟩ := h
  exact ⟨ae, ρ', F', H', h1, h2, hp.trans h3, h4, h5, hf.trans h6⟩

/-- is an operation carried out? -/
def wantA (all : List Oper) (guard : Option (Nat × Bool)) (F : Fr) : Option Bool :=
  match guard with
  | none => some true
  | some (j, want) =>
    match (all[j]?).bind (·.dst) with
    | some t => match F.getD t .undef with
      | .bool b => some (b == want)
      | .tup [] => some false
      | _ => none
    | none => none

theorem set_same {F : Fr} {t : Nat} {v : AV} (h : F.getD t .undef = v) (hv : v ≠ .undef) : F.set t v = F := by
  by_cases ht : t < F.length
  · have : F[t] = v := by simpa [List.getD, ht] using h
    rw [← this]; exact List.set_getElem_self ht
  · simp [List.getD, ht] at h; exact absurd h.symm hv

theorem frcN_eq (n : Nat) (k : Nat → Prop) : frcN n k = k n := by cases n <;> rfl
theorem frcI_eq (n : Int) (k : Int → Prop) : frcI n k = k n := by cases n <;> simp [frcI, frcN_eq]
theorem frcR_eq (n : Ref) (k : Ref → Prop) : frcR n k = k n := by cases n <;> simp [frcR, frcN_eq]
theorem frcC_eq (v : AV) (k : AV → Prop) : frcC v k = k v := by
  cases v <;> simp only [frcC, frcI_eq, frcR_eq, frcN_eq]
  rename_i b; cases b <;> rfl
theorem frcL_eq : ∀ (l : List AV) (k : List AV → Prop), frcL l k = k l
  | [], k => rfl
  | x :: xs, k => by simp only [frcL, frcC_eq, frcL_eq xs]
theorem frcV_eq (v : AV) (k : AV → Prop) : frcV v k = k v := by
  cases v <;> simp only [frcV, frcL_eq, frcC_eq]
theorem setK_eq {α : Type} : ∀ (F : List α) (d : Nat) (v : α) (k : List α → Prop), setK F d v k = k (F.set d v)
  | [], _, _, _ => rfl
  | _ :: _, 0, _, _ => rfl
  | x :: xs, d + 1, v, k => by simp only [setK, setK_eq xs d v, List.set_cons_succ]
theorem pushK_eq {α : Type} : ∀ (F : List α) (v : α) (k : List α → Prop), pushK F v k = k (F ++ [v])
  | [], _, _ => rfl
  | x :: xs, v, k => by simp only [pushK, pushK_eq xs v, List.cons_append]
theorem frcH_eq (v : AV) (k : AV → Prop) : frcH v k = k v := by cases v <;> rfl
theorem frcHs_eq : ∀ (l : List AV) (k : List AV → Prop), frcHs l k = k l
  | [], _ => rfl
  | x :: xs, k => by simp only [frcHs, frcH_eq, frcHs_eq xs]
theorem frcT_eq (v : AV) (k : AV → Prop) : frcT v k = k v := by cases v <;> simp only [frcT, frcH_eq, frcHs_eq]
theorem putK_eq (s : Md) (F : Fr) (d : Option Tmp) (v : AV) (k : Fr → Prop) : putK s F d v k = k (put F d v) := by
  cases s
  · rfl
  · cases d
    · rfl
    · simp only [putK, frcT_eq, setK_eq, put]
  · cases d
    · rfl
    · simp only [putK, frcV_eq, setK_eq, put]
theorem putK_back {s : Md} {F : Fr} {d : Option Tmp} {v : AV} {k : Fr → Prop} (h : k (put F d v)) : putK s F d v k := by rw [putK_eq]; exact h

theorem guardK_pt {hint : Nat → Option Bool} {s : Md} {all : List Oper} {guard : Option (Nat × Bool)} {F : Fr} {go skip : Fr → Prop} (h : guardK hint s all guard F go skip) :
    (wantA all guard F = some true ∧ go F ∧ ∀ go' skip' : Fr → Prop, go' F → guardK hint s all guard F go' skip') ∨ (wantA all guard F = some false ∧ skip F ∧ ∀ go' skip' : Fr → Prop, skip' F → guardK hint s all guard F go' skip') := by
  unfold guardK at h ⊢
  unfold wantA
  split at h
  · exact .inl ⟨rfl, h, fun _ _ h => h⟩
  · rename_i j want
    split at h
    · rename_i t ht
      simp only [ht]
      split at h
      · rename_i b hb
        simp only [hb]
        rcases tstH_pt h with ⟨hb1, h2, h3⟩ | ⟨hb1, h2, h3⟩
        · subst hb1
          have h := putK_elim h2
          simp only [put, set_same hb (by simp)] at h
          cases want
          · exact .inr ⟨rfl, h, fun go' skip' hk => h3 _ _ (putK_back (by simp only [put, set_same hb (by simp)]; exact hk))⟩
          · exact .inl ⟨rfl, h, fun go' skip' hk => h3 _ _ (putK_back (by simp only [put, set_same hb (by simp)]; exact hk))⟩
        · subst hb1
          have h := putK_elim h2
          simp only [put, set_same hb (by simp)] at h
          cases want
          · exact .inl ⟨rfl, h, fun go' skip' hk => h3 _ _ (putK_back (by simp only [put, set_same hb (by simp)]; exact hk))⟩
          · exact .inr ⟨rfl, h, fun go' skip' hk => h3 _ _ (putK_back (by simp only [put, set_same hb (by simp)]; exact hk))⟩
      · rename_i hb
        simp only [hb]
        exact .inr ⟨by trivial, h, fun _ _ h => h⟩
      · exact h.elim
    · exact h.elim
theorem guardK_elim {hint : Nat → Option Bool} {s : Md} {all : List Oper} {guard : Option (Nat × Bool)} {F : Fr} {go skip : Fr → Prop} (h : guardK hint s all guard F go skip) :
    (wantA all guard F = some true ∧ go F) ∨ (wantA all guard F = some false ∧ skip F) := by
  rcases guardK_pt h with ⟨h1, h2, _⟩ | ⟨h1, h2, _⟩
  · exact .inl ⟨h1, h2⟩
  · exact .inr ⟨h1, h2⟩

theorem wanted_of {all : List Oper} {ρ : Env} {F : Fr} {a : Act} (hF : FRel ρ F a) {o : Oper} {b : Bool} (h : wantA all o.guard F = some b) : Region.wanted o (yielded all.toArray a.tmps) = b := by
  unfold wantA at h
  unfold Region.wanted
  split at h
  · rename_i hg; simp at h; subst h; simp [hg]
  · rename_i j want hg
    simp only [hg]
    split at h
    · rename_i t ht
      have hv := hF.at t
      split at h
      · rename_i b' hb
        simp at h; subst h
        rw [hb] at hv
        simp only [VR] at hv
        have hsome : a.tmps[t]? = some (.bool b') := by
          rw [Array.getD_eq_getD_getElem?] at hv
          cases hq : a.tmps[t]? with
          | none => simp [hq, undef] at hv
          | some x => simp [hq] at hv; rw [hv]
        have : yielded all.toArray a.tmps j = some b' := by
          unfold yielded
          simp only [List.getElem?_toArray, ht, Option.bind_some, hsome]
        rw [this]
        cases b' <;> cases want <;> rfl
      · rename_i hb
        simp at h; subst h
        rw [hb] at hv
        simp only [VR] at hv
        obtain ⟨vs, hvs, hr⟩ := hv
        simp only [VRs] at hr
        have : yielded all.toArray a.tmps j = none := by
          unfold yielded
          simp only [List.getElem?_toArray, ht, Option.bind_some]
          rw [Array.getD_eq_getD_getElem?] at hvs
          cases hq : a.tmps[t]? with
          | none => rfl
          | some x => simp [hq] at hvs; rw [hvs]
        rw [this]; rfl
      · simp at h
    · simp at h

theorem callFunc_enters {P : Program} {f : FuncId} (h : Enters P f) (args : Array Value) (w : World) : (callFunc f args).run P w = .ok (.enter f args) w := by
  obtain ⟨fn, c, h1, h2, h3⟩ := h
  have h4 : ¬ (fn.name = "runtime.NumGoroutine") := by simpa using h3
  simp [callFunc, h1, h2, h4]

theorem call_enters {P : Program} {w : World} {ρ : Env} {F : Fr} {a : Act} {o : Oper} {f : FuncId} {args : List AV} (hF : FRel ρ F a) (h : callOp F o.op = some (f, args)) (he : Enters P f) :
    ∃ cargs : List Value, VRs ρ args cargs ∧ (execOp a.eval o).run P w = .ok (.enter f cargs.toArray) w := by
  have E := fun x => ev_sound hF x
  obtain ⟨dst, op, type, pos, after, guard⟩ := o
  simp only at h
  unfold callOp at h
  unfold execOp
  split at h
  · rename_i g xs ts
    split at h
    · rename_i g' cap hg
      simp at h
      obtain ⟨rfl, rfl⟩ := h
      have hv := E g
      rw [hg] at hv
      simp only [VR] at hv
      obtain ⟨cs, hcs, hr⟩ := hv
      refine ⟨xs.toList.map a.eval ++ cs.toList, VRs_append (VRs_map _ _ _ fun x _ => E x) hr, ?_⟩
      simp only [resolve, hcs, Deferred.ofValue, Sem.run_bind, Sem.run_pure, Result.andThen_ok, invoke, callFunc_enters he]
      congr 2
      apply Array.ext'
      simp
    · simp at h
  · simp at h

theorem resOne_sound {C : Ctx} {ρ : Env} {F : Fr} {H : Hp} {w : World} {a : Act} (hH : HRel C ρ H w) (hF : FRel ρ F a) {g : ResultVar → Sem Value} (hg1 : ∀ t, g (.tmp t) = pure (a.tmps.getD t undef)) (hg2 : ∀ x t, g (.cell x t) = do loadVar t (← asAddr (a.tmps.getD x undef)))
    {r : ResultVar} {v : AV} (h : resOne C F H r = some (true, v)) : ∃ cv, (g r).run C.P w = .ok cv w ∧ VR ρ v cv := by
  unfold resOne at h
  split at h
  · simp at h; subst h; exact ⟨_, by rw [hg1]; rfl, hF.at _⟩
  · rename_i x t
    split at h
    · rename_i r off hx
      unfold loadA at h
      split at h
      · rename_i cs hcs
        have hv := hF.at x
        rw [hx] at hv
        simp only [VR] at hv
        have hv2 := hv
        obtain ⟨ad, ha, _⟩ := hv.add
        rw [ha] at hv2
        obtain ⟨cv, h1, h2⟩ := loadVarL_sound hH hcs hv2 h
        refine ⟨cv, ?_, h2⟩
        rw [hg2]
        simp only [ha, asAddr, Sem.run_bind, Sem.run_pure, Result.andThen_ok, h1]
      · simp at h
    · simp at h

theorem resAll_sound {C : Ctx} {ρ : Env} {F : Fr} {H : Hp} {w : World} {a : Act} (hH : HRel C ρ H w) (hF : FRel ρ F a) {g : ResultVar → Sem Value} (hg1 : ∀ t, g (.tmp t) = pure (a.tmps.getD t undef)) (hg2 : ∀ x t, g (.cell x t) = do loadVar t (← asAddr (a.tmps.getD x undef))) :
    ∀ (rs : List ResultVar) (vs : List AV), resAll C F H rs = some (true, vs) → ∃ cvs : List Value, (rs.mapM g).run C.P w = .ok cvs w ∧ VRs ρ vs cvs
  | [], vs, h => by simp [resAll] at h; subst h; exact ⟨[], rfl, by simp [VRs]⟩
  | r :: rs, vs, h => by
    simp only [resAll] at h
    split at h
    · rename_i c v hr
      split at h
      · rename_i d vs' hrs
        simp only [Option.some.injEq, Prod.mk.injEq, Bool.and_eq_true] at h
        obtain ⟨⟨rfl, rfl⟩, rfl⟩ := h
        obtain ⟨cv, h1, h2⟩ := resOne_sound hH hF hg1 hg2 hr
        obtain ⟨cvs, g1, g2⟩ := resAll_sound hH hF hg1 hg2 rs vs' hrs
        refine ⟨cv :: cvs, ?_, by simp only [VRs]; exact ⟨cv, cvs, rfl, h2, g2⟩⟩
        simp only [List.mapM_cons, Sem.run_bind, h1, Result.andThen_ok, g1, Sem.run_pure]
      · simp at h
    · simp at h

def resFn (tmps : Array Value) : ResultVar → Sem Value
  | .tmp t => pure (tmps.getD t undef)
  | .cell x t => do loadVar t (← asAddr (tmps.getD x undef))

theorem results_eq (fn : Func) (tmps : Array Value) : results fn tmps = (do
    let vs ← fn.results.mapM (resFn tmps)
    pure (if h : vs.size = 1 then vs[0] else .tuple vs)) := rfl

theorem results_sound {C : Ctx} {ρ : Env} {F : Fr} {H : Hp} {w : World} {a : Act} (hH : HRel C ρ H w) (hF : FRel ρ F a) {fn : Func} {v : AV} (h : resA C fn F H = some (true, v)) :
    ∃ cv, (results fn a.tmps).run C.P w = .ok cv w ∧ VR ρ v cv := by
  have key : ∀ vs, resAll C F H fn.results.toList = some (true, vs) → ∃ cvs : List Value, (results fn a.tmps).run C.P w = .ok (if h : cvs.toArray.size = 1 then cvs.toArray[0] else .tuple cvs.toArray) w ∧ VRs ρ vs cvs := by
    intro vs hvs
    obtain ⟨cvs, h1, h2⟩ := resAll_sound hH hF (g := resFn a.tmps) (fun t => rfl) (fun x t => rfl) _ _ hvs
    refine ⟨cvs, ?_, h2⟩
    rw [results_eq, Array.mapM_eq_mapM_toList]
    simp only [Sem.run_bind, Sem.run_map, Sem.run_pure, h1, Result.andThen_ok]
  unfold resA at h
  split at h
  · rename_i c v' hr
    simp only [Option.some.injEq, Prod.mk.injEq] at h
    obtain ⟨rfl, rfl⟩ := h
    obtain ⟨cvs, h1, h2⟩ := key _ hr
    simp only [VRs] at h2
    obtain ⟨cv, vs', rfl, h3, rfl⟩ := h2
    exact ⟨cv, by rw [h1]; simp, h3⟩
  · rename_i c vs hne hr
    simp only [Option.some.injEq, Prod.mk.injEq] at h
    obtain ⟨rfl, rfl⟩ := h
    obtain ⟨cvs, h1, h2⟩ := key _ hr
    have hl := VRs_length h2
    refine ⟨.tuple cvs.toArray, ?_, by simp only [VR]; exact ⟨_, rfl, by simpa using h2⟩⟩
    rw [h1, dif_neg]
    intro hs
    simp at hs
    rw [hs] at hl
    obtain ⟨v, rfl⟩ : ∃ v, vs = [v] := by
      match vs, hl with
      | [v], _ => exact ⟨v, rfl⟩
    exact hne v rfl
  · simp at h

theorem frame0_rel {ρ : Env} {fn : Func} {args : List AV} {cargs : List Value} (h : VRs ρ args cargs) :
    FRel ρ (frame0 fn args) { tmps := cargs.toArray ++ Array.replicate (fn.ntmps - cargs.toArray.size) undef, defers := [] } := by
  have hl := VRs_length h
  refine ⟨rfl, by simp [frame0, hl], fun i v hv => ?_⟩
  simp only [frame0] at hv
  simp only [Array.getD_eq_getD_getElem?]
  by_cases hi : i < args.length
  · rw [List.getElem?_append_left hi] at hv
    obtain ⟨cv, h1, h2⟩ := VRs_get h i v hv
    rw [Array.getElem?_append_left (by simp; omega)]
    simp [h1, h2]
  · rw [List.getElem?_append_right (by omega)] at hv
    have hlt := (List.getElem?_eq_some_iff.1 hv).1
    simp at hlt
    simp [List.getElem?_replicate, hlt] at hv
    subst hv
    rw [Array.getElem?_append_right (by simp; omega)]
    have : i - cargs.toArray.size < fn.ntmps - cargs.toArray.size := by simp; omega
    simp only [VR]
    refine ⟨#[], ?_, by simp [VRs]⟩
    simp only [List.size_toArray] at this ⊢
    simp [Array.getElem?_replicate, this, undef]

/-- A FUNCTION's CALL, by its body. -/
theorem acalls_of {C : Ctx} {f : FuncId} {fn : Func} {c : Code} {args : List AV} {H : Hp} {K : AV → Hp → Prop} (hf : C.P.funcs[f]? = some fn) (hb : fn.body = some c) (hn : (fn.name == "runtime.NumGoroutine") = false)
    (h : AWp C H.length c (frame0 fn args) H (retK C fn K)) : ACalls C f args H K := by
  refine ⟨⟨fn, c, hf, hb, hn⟩, fun ρ w cargs hH hv => calls_of_wp hf hb (Code.wp_mono ?_ (h ρ _ w hH (frame0_rel hv)))⟩
  rintro e a' w' ⟨ae, ρ', F', H', rfl, hQ, hp, hH', hF', hfr⟩
  have hle : ρ.le ρ' := ⟨fun i x hx => by
    have hlt : i < ρ.rw.length := (List.getElem?_eq_some_iff.1 hx).1
    rw [hp i (by rw [← hH.len]; exact hlt)]; exact hx, hfr.ro⟩
  have fin : opc (resA C fn F' H') (fun v => K v H') → a'.defers = [] ∧ ∃ v, (results fn a'.tmps).run C.P w' = .ok v w' ∧ ∃ v' cv ρ' H', Ending.returned v = .returned cv ∧ K v' H' ∧ ρ.le ρ' ∧ HRel C ρ' H' w' ∧ VR ρ' v' cv ∧ Frm ρ w ρ' w' := by
    intro ho
    obtain ⟨v, h1, h2⟩ := opc_elim ho
    obtain ⟨cv, g1, g2⟩ := results_sound hH' hF' h1
    exact ⟨hF'.nod, cv, g1, v, cv, ρ', H', rfl, h2, hle, hH', g2, hfr⟩
  cases ae with
  | normal => exact fin hQ
  | ret => exact fin hQ
  | exit i => exact hQ.elim

end Go.Am
