/-
  The abstract machine's runs come to one end each; read-only code leaves the heap as it is.
-/
import Derived.Test.YtopenjkaifbnmaaAmSound
namespace Go.Am
open Go.RowKit

theorem nam_eq (e : Int) (K : Int → Prop) : nam e K = K e := propext ⟨fun h => h e rfl, fun h x hx => by subst hx; exact h⟩
theorem putN_eq (nm : Bool) (s : Md) (F : Fr) (d : Option Tmp) (v : AV) (k : Fr → Prop) : putN nm s F d v k = k (put F d v) := by
  cases nm
  · exact putK_eq s F d v k
  · cases v <;> simp only [putN, nam_eq, putK_eq]
theorem putS_eq (sp nm : Bool) (s : Md) (F : Fr) (d : Option Tmp) (v : AV) (k : Fr → Prop) : putS sp nm s F d v k = k (put F d v) := by
  cases sp
  · exact putN_eq nm s F d v k
  · cases v <;> simp only [putS, putN_eq, putK_eq]
    rename_i b
    cases b <;> rfl
theorem namG_eq : ∀ (args : List AV) (k : List AV → Prop), namG args k = k args
  | [], k => rfl
  | x :: l, k => by cases x <;> simp only [namG, nam_eq, namG_eq l]
theorem namL_eq (nm : Bool) (args : List AV) (k : List AV → Prop) : namL nm args k = k args := by
  cases nm
  · rfl
  · exact namG_eq args k
theorem frcB_eq (b : Blk) (k : Blk → Prop) : frcB b k = k b := by obtain ⟨e, cs⟩ := b; simp only [frcB, frcL_eq]
theorem hopK_eq (s : Md) (H : Hp) (o : Hop) (k : Hp → Prop) : hopK s H o k = k (o.act H) := by
  cases s
  · rfl
  · cases o <;> simp only [hopK, setK_eq, pushK_eq, Hop.act]
  · cases o <;> simp only [hopK, frcB_eq, setK_eq, pushK_eq, Hop.act]
theorem hopsK_eq (s : Md) : ∀ (hs : List Hop) (H : Hp) (k : Hp → Prop), hopsK s H hs k = k (acts H hs)
  | [], _, _ => rfl
  | h :: hs, H, k => by simp only [hopsK, hopK_eq, hopsK_eq s hs, acts]
theorem opc_of {o : Option (Bool × AV)} {K : AV → Prop} {v : AV} (h : o = some (true, v)) (k : K v) : opc o K := by rw [h]; exact k
theorem wrc_of {o : Option (Bool × AV × Hop)} {K : AV → Hop → Prop} {v : AV} {x : Hop} (h : o = some (true, v, x)) (k : K v x) : wrc o K := by rw [h]; exact k
theorem smc_of {o : Option (Bool × AV × List Hop)} {K : AV → List Hop → Prop} {v : AV} {x : List Hop} (h : o = some (true, v, x)) (k : K v x) : smc o K := by rw [h]; exact k
theorem lpc_of {o : Option (Bool × Ex × Fr × Hp)} {K : Ex → Fr → Hp → Prop} {e : Ex} {F : Fr} {H : Hp} (h : o = some (true, e, F, H)) (k : K e F H) : lpc o K := by rw [h]; exact k
theorem chk_of {c : Bool} {K : Prop} (h : c = true) (k : K) : chk c K := by rw [h]; exact k

def roWk (K : Cfg) (d : Nat) : Wk → Bool
  | .code c => roCode K d c
  | .ops _ l => l.all (roOp K (roCode K d))
  | .dr _ l _ => l.all (roOp K (roCode K d))

def Pt (K : Cfg) (n : Nat) : Prop := ∀ m wk F H Q, vc K n m wk F H Q → ∃ e F' H', (∀ Q' : Post, Q' e F' H' → vc K n m wk F H Q') ∧ Q e F' H' ∧ ∀ d, roWk K d wk = true → H' = H

theorem acts_diff : ∀ (i : Nat) (H0 H H' : Hp) (hs : List Hop), H0.length = i → diffH i H H' = some hs → acts (H0 ++ H) hs = H0 ++ H'
  | i, H0, [], [], hs, _, h => by simp [diffH] at h; subst h; rfl
  | i, H0, [], none :: H', hs, _, h => by simp [diffH] at h
  | i, H0, [], some b :: H', hs, hl, h => by
    simp only [diffH] at h
    split at h
    · rename_i hs' h1
      simp at h; subst h
      have gen : ∀ (H' : Hp) (H0 : Hp) (hs : List Hop), diffH i [] H' = some hs → acts H0 hs = H0 ++ H' := by
        intro H'
        induction H' with
        | nil => intro H0 hs h; simp [diffH] at h; subst h; simp [acts]
        | cons x H' ih =>
          intro H0 hs h
          cases x with
          | none => simp [diffH] at h
          | some b =>
            simp only [diffH] at h
            split at h
            · rename_i hs' h1
              simp at h; subst h
              simp only [acts, Hop.act]
              rw [ih _ _ h1]; simp
            · simp at h
      simp only [List.append_nil, acts, Hop.act]
      rw [gen H' _ _ h1]; simp
    · simp at h
  | i, H0, x :: H, [], hs, _, h => by cases x <;> simp [diffH] at h
  | i, H0, x :: H, some b :: H', hs, hl, h => by
    have h : ∃ hs', diffH (i + 1) H H' = some hs' ∧ hs = Hop.set i b :: hs' := by
      cases x <;> simp only [diffH] at h <;> split at h <;> first | (simp at h; done) | exact ⟨_, by assumption, (Option.some.inj h).symm⟩
    obtain ⟨hs', h1, rfl⟩ := h
    · have ih := acts_diff (i + 1) (H0 ++ [some b]) H H' hs' (by simp [hl]) h1
      simp only [acts, Hop.act]
      have e : (H0 ++ x :: H).set i (some b) = H0 ++ [some b] ++ H := by
        rw [List.set_append_right _ _ (by omega), hl]; simp
      rw [e, ih]; simp
  | i, H0, none :: H, none :: H', hs, hl, h => by
    simp only [diffH] at h
    have ih := acts_diff (i + 1) (H0 ++ [none]) H H' hs (by simp [hl]) h
    simpa using ih
  | i, H0, some _ :: H, none :: H', hs, hl, h => by simp [diffH] at h

theorem ret_pt {C : Ctx} {fn : Func} {Q : AV → Hp → Prop} {e : Ex} {F : Fr} {H : Hp} (h : retK C fn Q e F H) : ∃ v, Q v H ∧ ∀ Q' : AV → Hp → Prop, Q' v H → retK C fn Q' e F H := by
  unfold retK at h
  split at h
  · exact h.elim
  · rename_i hne
    obtain ⟨v, h1, h2⟩ := opc_elim h
    refine ⟨v, h2, fun Q' hq => ?_⟩
    unfold retK
    split
    · rename_i i; exact absurd rfl (hne i)
    · exact opc_of h1 hq

/-- a call that is entered -/
theorem call_pt {K : Cfg} {n : Nat} (ih : Pt K n) {c : Code} {fn : Func} {F : Fr} {H : Hp} {m : Nat} {Q : AV → Hp → Prop} (h : vc K n m (.code c) F H (retK K.C fn Q)) :
    ∃ v H', Q v H' ∧ (∀ Q' : AV → Hp → Prop, Q' v H' → vc K n m (.code c) F H (retK K.C fn Q')) ∧ ∀ d, roCode K d c = true → H' = H := by
  obtain ⟨e, F', H', h1, h2, h3⟩ := ih _ _ _ _ _ h
  obtain ⟨v, h4, h5⟩ := ret_pt h2
  exact ⟨v, H', h4, fun Q' hq => h1 _ (h5 Q' hq), fun d hd => h3 d hd⟩

theorem callOp_func {K : Cfg} {rec : Code → Bool} {o : Oper} {F : Fr} {f : FuncId} {args : List AV} (hk : kdOf K.C.P o.op = .call) (hr : roOp K rec o = true) (hc : callOp F o.op = some (f, args)) :
    K.inl f = true ∧ ∀ fn c, K.C.P.funcs[f]? = some fn → fn.body = some c → rec c = true := by
  unfold roOp at hr
  rw [hk] at hr
  simp only at hr
  split at hr
  · rename_i g args' ts hop
    rw [hop] at hc
    simp only [callOp, ev, Option.some.injEq, Prod.mk.injEq] at hc
    obtain ⟨rfl, _⟩ := hc
    simp only [Bool.and_eq_true] at hr
    refine ⟨hr.1, fun fn c h1 h2 => ?_⟩
    have := hr.2
    rw [h1] at this
    simp only [h2] at this
    exact this
  · simp at hr

theorem pt_all (K : Cfg) : ∀ n, Pt K n
  | 0 => fun _ _ _ _ _ h => h.elim
  | n + 1 => by
    have ih := pt_all K n
    intro m wk F H Q h
    cases wk with
    | ops all l =>
      change stepOps K (vc K n) m all l F H Q at h
      change ∃ e F' H', (∀ Q' : Post, Q' e F' H' → stepOps K (vc K n) m all l F H Q') ∧ _
      cases l with
      | nil => exact ⟨.normal, F, H, fun Q' hq => hq, h, fun _ _ => rfl⟩
      | cons o l =>
        obtain ⟨dst, op, ty, pos, after, guard⟩ := o
        simp only [stepOps] at h ⊢
        have hro : ∀ d, roWk K d (.ops all (⟨dst, op, ty, pos, after, guard⟩ :: l)) = true → roOp K (roCode K d) ⟨dst, op, ty, pos, after, guard⟩ = true ∧ roWk K d (.ops all l) = true := fun d hd => by
          simpa [roWk] using hd
        -- the rest of the region
        have rest : ∀ {v : AV} {H1 : Hp} {k : Post → Prop}, vc K n m (.ops all l) (put F dst v) H1 Q → (∀ Q' : Post, vc K n m (.ops all l) (put F dst v) H1 Q' → k Q') → (∀ d, roOp K (roCode K d) ⟨dst, op, ty, pos, after, guard⟩ = true → H1 = H) →
            ∃ e F' H', (∀ Q' : Post, Q' e F' H' → k Q') ∧ Q e F' H' ∧ ∀ d, roWk K d (.ops all (⟨dst, op, ty, pos, after, guard⟩ :: l)) = true → H' = H := by
          intro v H1 k h1 h2 h3
          obtain ⟨e, F', H', g1, g2, g3⟩ := ih _ _ _ _ _ h1
          exact ⟨e, F', H', fun Q' hq => h2 Q' (g1 Q' hq), g2, fun d hd => (g3 d (hro d hd).2).trans (h3 d (hro d hd).1)⟩
        rcases guardK_pt h with ⟨hw, h, hg⟩ | ⟨hw, h, hg⟩
        · unfold stepOp at h
          split at h
          · rename_i hk
            obtain ⟨v, h1, h2⟩ := opc_elim h
            rw [putS_eq] at h2
            refine rest h2 (fun Q' hq => hg _ _ ?_) (fun _ _ => rfl)
            unfold stepOp; rw [hk]; exact opc_of h1 (by rw [putS_eq]; exact hq)
          · rename_i hk
            obtain ⟨v, h1, h2⟩ := opc_elim h
            rw [putK_eq] at h2
            refine rest h2 (fun Q' hq => hg _ _ ?_) (fun _ _ => rfl)
            unfold stepOp; rw [hk]; exact opc_of h1 (by rw [putK_eq]; exact hq)
          · rename_i hk
            obtain ⟨v, x, h1, h2⟩ := wrc_elim h
            rw [hopK_eq, putK_eq] at h2
            refine rest h2 (fun Q' hq => hg _ _ ?_) (fun d hd => ?_)
            · unfold stepOp; rw [hk]; exact wrc_of h1 (by rw [hopK_eq, putK_eq]; exact hq)
            · unfold roOp at hd; rw [hk] at hd; simp at hd
          · rename_i hk
            split at h
            · rename_i f args hc
              unfold stepCall at h
              split at h
              · rename_i hi
                split at h
                · rename_i fn hfn
                  split at h
                  · rename_i c hb
                    obtain ⟨hnm, h2⟩ := chk_elim h
                    obtain ⟨v, H1, g1, g2, g3⟩ := call_pt ih h2
                    rw [putK_eq] at g1
                    refine rest g1 (fun Q' hq => hg _ _ ?_) (fun d hd => g3 d ((callOp_func hk hd hc).2 fn c hfn hb))
                    unfold stepOp; rw [hk]
                    simp only [hc]
                    unfold stepCall; rw [hi]
                    simp only [hfn, hb]
                    exact chk_of hnm (g2 _ (by rw [putK_eq]; exact hq))
                  · exact h.elim
                · exact h.elim
              · rename_i hi
                rw [namL_eq] at h
                obtain ⟨v, hs, h1, h2⟩ := smc_elim h
                rw [hopsK_eq, putK_eq] at h2
                refine rest h2 (fun Q' hq => hg _ _ ?_) (fun d hd => ?_)
                · unfold stepOp; rw [hk]
                  simp only [hc]
                  unfold stepCall; rw [hi]
                  simp only [namL_eq]
                  exact smc_of h1 (by rw [hopsK_eq, putK_eq]; exact hq)
                · have := (callOp_func hk hd hc).1
                  rw [hi] at this; simp at this
            · exact h.elim
        · rw [putK_eq] at h
          exact rest h (fun Q' hq => hg _ _ (by rw [putK_eq]; exact hq)) (fun _ _ => rfl)
    | dr all l trs =>
      change stepDr K (vc K n) m all l trs F H Q at h
      change ∃ e F' H', (∀ Q' : Post, Q' e F' H' → stepDr K (vc K n) m all l trs F H Q') ∧ _
      cases l with
      | nil =>
        obtain ⟨h1, h2⟩ := chk_elim h
        exact ⟨.normal, F, H, fun Q' hq => chk_of h1 hq, h2, fun _ _ => rfl⟩
      | cons o l =>
        obtain ⟨dst, op, ty, pos, after, guard⟩ := o
        simp only [stepDr] at h ⊢
        have hro : ∀ d, roWk K d (.dr all (⟨dst, op, ty, pos, after, guard⟩ :: l) trs) = true → roOp K (roCode K d) ⟨dst, op, ty, pos, after, guard⟩ = true ∧ ∀ tr, roWk K d (.dr all l (trs ++ [tr])) = true := fun d hd => by
          simp only [roWk, List.all_cons, Bool.and_eq_true] at hd
          exact ⟨hd.1, fun _ => hd.2⟩
        have rest : ∀ {v : AV} {H1 : Hp} {tr : Tr} {k : Post → Prop}, vc K n m (.dr all l (trs ++ [tr])) (put F dst v) H1 Q → (∀ Q' : Post, vc K n m (.dr all l (trs ++ [tr])) (put F dst v) H1 Q' → k Q') → (∀ d, roOp K (roCode K d) ⟨dst, op, ty, pos, after, guard⟩ = true → H1 = H) →
            ∃ e F' H', (∀ Q' : Post, Q' e F' H' → k Q') ∧ Q e F' H' ∧ ∀ d, roWk K d (.dr all (⟨dst, op, ty, pos, after, guard⟩ :: l) trs) = true → H' = H := by
          intro v H1 tr k h1 h2 h3
          obtain ⟨e, F', H', g1, g2, g3⟩ := ih _ _ _ _ _ h1
          exact ⟨e, F', H', fun Q' hq => h2 Q' (g1 Q' hq), g2, fun d hd => (g3 d ((hro d hd).2 tr)).trans (h3 d (hro d hd).1)⟩
        rcases guardK_pt h with ⟨hw, h, hg⟩ | ⟨hw, h, hg⟩
        · unfold stepDrOp at h
          split at h
          · rename_i hk
            obtain ⟨v, h1, h2⟩ := opc_elim h
            rw [putS_eq] at h2
            refine rest h2 (fun Q' hq => hg _ _ ?_) (fun _ _ => rfl)
            unfold stepDrOp; rw [hk]; exact opc_of h1 (by rw [putS_eq]; exact hq)
          · rename_i hk
            obtain ⟨v, h1, h2⟩ := opc_elim h
            rw [putK_eq] at h2
            refine rest h2 (fun Q' hq => hg _ _ ?_) (fun _ _ => rfl)
            unfold stepDrOp; rw [hk]; exact opc_of h1 (by rw [putK_eq]; exact hq)
          · rename_i hk
            obtain ⟨v, x, h1, h2⟩ := wrc_elim h
            rw [hopK_eq, putK_eq] at h2
            refine rest h2 (fun Q' hq => hg _ _ ?_) (fun d hd => ?_)
            · unfold stepDrOp; rw [hk]; exact wrc_of h1 (by rw [hopK_eq, putK_eq]; exact hq)
            · unfold roOp at hd; rw [hk] at hd; simp at hd
          · rename_i hk
            split at h
            · rename_i f args hc
              split at h
              · rename_i hi
                split at h
                · rename_i fn hfn
                  split at h
                  · rename_i c hb
                    obtain ⟨hnm, h2⟩ := chk_elim h
                    obtain ⟨v, H1, g1, g2, g3⟩ := call_pt ih h2
                    have hr : ∀ d, roOp K (roCode K d) ⟨dst, op, ty, pos, after, guard⟩ = true → H1 = H := fun d hd => g3 d ((callOp_func hk hd hc).2 fn c hfn hb)
                    split at g1
                    · rename_i hrc
                      rw [putK_eq] at g1
                      refine rest g1 (fun Q' hq => hg _ _ ?_) (fun _ _ => rfl)
                      unfold stepDrOp; rw [hk]
                      simp only [hc, hi, hfn, hb]
                      refine chk_of hnm (g2 _ ?_)
                      rw [hrc, putK_eq]; exact hq
                    · rename_i hrc
                      split at g1
                      · rename_i hs hdf
                        rw [putK_eq] at g1
                        refine rest g1 (fun Q' hq => hg _ _ ?_) hr
                        unfold stepDrOp; rw [hk]
                        simp only [hc, hi, hfn, hb]
                        refine chk_of hnm (g2 _ ?_)
                        rw [hrc]
                        simp only [hdf]
                        rw [putK_eq]; exact hq
                      · exact g1.elim
                  · exact h.elim
                · exact h.elim
              · rename_i hi
                rw [namL_eq] at h
                obtain ⟨v, hs, h1, h2⟩ := smc_elim h
                rw [hopsK_eq, putK_eq] at h2
                refine rest h2 (fun Q' hq => hg _ _ ?_) (fun d hd => ?_)
                · unfold stepDrOp; rw [hk]
                  simp only [hc, hi, namL_eq]
                  exact smc_of h1 (by rw [hopsK_eq, putK_eq]; exact hq)
                · have := (callOp_func hk hd hc).1
                  rw [hi] at this; simp at this
            · exact h.elim
        · rw [putK_eq] at h
          exact rest h (fun Q' hq => hg _ _ (by rw [putK_eq]; exact hq)) (fun _ _ => rfl)
    | code c =>
      change stepCode K (vc K n) m c F H Q at h
      change ∃ e F' H', (∀ Q' : Post, Q' e F' H' → stepCode K (vc K n) m c F H Q') ∧ _
      -- two pieces, one behind the other
      have both : ∀ {a b : Code}, vc K n m (.code a) F H (thenK (vc K n) m b Q) → ∃ e F' H', (∀ Q' : Post, Q' e F' H' → vc K n m (.code a) F H (thenK (vc K n) m b Q')) ∧ Q e F' H' ∧ ∀ d d', roCode K d a = true → roCode K d' b = true → H' = H := by
        intro a b h
        obtain ⟨e, F1, H1, g1, g2, g3⟩ := ih _ _ _ _ _ h
        cases e with
        | normal =>
          obtain ⟨e, F', H', q1, q2, q3⟩ := ih _ _ _ _ _ g2
          exact ⟨e, F', H', fun Q' hq => g1 _ (q1 Q' hq), q2, fun d d' hd hd' => (q3 d' hd').trans (g3 d hd)⟩
        | exit i => exact ⟨_, F1, H1, fun Q' hq => g1 _ hq, g2, fun d _ hd _ => g3 d hd⟩
        | ret => exact ⟨_, F1, H1, fun Q' hq => g1 _ hq, g2, fun d _ hd _ => g3 d hd⟩
      cases c with
      | skip => exact ⟨.normal, F, H, fun Q' hq => hq, h, fun _ _ => rfl⟩
      | region id ops draw =>
        cases draw with
        | true =>
          obtain ⟨e, F', H', g1, g2, g3⟩ := ih _ _ _ _ _ h
          refine ⟨e, F', H', g1, g2, fun d hd => ?_⟩
          cases d with
          | zero => simp [roWk, roCode] at hd
          | succ d => exact g3 d (by simpa [roWk, roCode, roIn] using hd)
        | false =>
          obtain ⟨e, F', H', g1, g2, g3⟩ := ih _ _ _ _ _ h
          refine ⟨e, F', H', g1, g2, fun d hd => ?_⟩
          cases d with
          | zero => simp [roWk, roCode] at hd
          | succ d => exact g3 d (by simpa [roWk, roCode, roIn] using hd)
      | seq a b =>
        obtain ⟨e, F', H', g1, g2, g3⟩ := both h
        refine ⟨e, F', H', g1, g2, fun d hd => ?_⟩
        cases d with
        | zero => simp [roWk, roCode] at hd
        | succ d =>
          simp only [roWk, roCode, roIn, Bool.and_eq_true] at hd
          exact g3 (d + 1) (d + 1) hd.1 hd.2
      | cond c x y =>
        simp only [stepCode, stepCond] at h ⊢
        have hro : ∀ d, roWk K d (.code (.cond c x y)) = true → roWk K d (.code x) = true ∧ roWk K d (.code y) = true := fun d hd => by
          cases d with
          | zero => simp [roWk, roCode] at hd
          | succ d => simpa [roWk, roCode, roIn] using hd
        split at h
        · rename_i t
          split at h
          · rename_i b hb
            rcases tstH_pt h with ⟨hb1, h2, h3⟩ | ⟨hb1, h2, h3⟩
            · subst hb1
              rw [putK_eq] at h2
              obtain ⟨e, F', H', g1, g2, g3⟩ := ih _ _ _ _ _ h2
              refine ⟨e, F', H', fun Q' hq => ?_, g2, fun d hd => g3 d (hro d hd).1⟩
              exact h3 _ _ (by rw [putK_eq]; exact g1 Q' hq)
            · subst hb1
              rw [putK_eq] at h2
              obtain ⟨e, F', H', g1, g2, g3⟩ := ih _ _ _ _ _ h2
              refine ⟨e, F', H', fun Q' hq => ?_, g2, fun d hd => g3 d (hro d hd).2⟩
              exact h3 _ _ (by rw [putK_eq]; exact g1 Q' hq)
          · exact h.elim
        · rename_i b
          cases b with
          | true =>
            obtain ⟨e, F', H', g1, g2, g3⟩ := ih _ _ _ _ _ h
            exact ⟨e, F', H', g1, g2, fun d hd => g3 d (hro d hd).1⟩
          | false =>
            obtain ⟨e, F', H', g1, g2, g3⟩ := ih _ _ _ _ _ h
            exact ⟨e, F', H', g1, g2, fun d hd => g3 d (hro d hd).2⟩
        · exact h.elim
      | block id c =>
        obtain ⟨e, F', H', g1, g2, g3⟩ := ih _ _ _ _ _ h
        have hro : ∀ d, roWk K d (.code (.block id c)) = true → roWk K d (.code c) = true := fun d hd => by
          cases d with
          | zero => simp [roWk, roCode] at hd
          | succ d => simpa [roWk, roCode, roIn] using hd
        cases e with
        | normal => exact ⟨.normal, F', H', fun Q' hq => g1 _ hq, g2, fun d hd => g3 d (hro d hd)⟩
        | ret => exact ⟨.ret, F', H', fun Q' hq => g1 _ hq, g2, fun d hd => g3 d (hro d hd)⟩
        | exit i =>
          simp only [blockK] at g2
          split at g2
          · rename_i hi
            exact ⟨.normal, F', H', fun Q' hq => g1 _ (by simp only [blockK, hi]; exact hq), g2, fun d hd => g3 d (hro d hd)⟩
          · rename_i hi
            exact ⟨.exit i, F', H', fun Q' hq => g1 _ (by simp only [blockK, hi]; exact hq), g2, fun d hd => g3 d (hro d hd)⟩
      | loop c =>
        cases hu : K.unr with
        | true =>
          simp only [stepCode, hu] at h ⊢
          obtain ⟨e, F', H', g1, g2, g3⟩ := both h
          refine ⟨e, F', H', g1, g2, fun d hd => ?_⟩
          cases d with
          | zero => simp [roWk, roCode] at hd
          | succ d =>
            refine g3 (d + 1) (d + 1) ?_ hd
            simp only [roWk, roCode, roIn, Bool.and_eq_true] at hd
            exact hd.2
        | false =>
          simp only [stepCode, hu] at h ⊢
          obtain ⟨hM, h2⟩ := chk_elim h
          obtain ⟨e, F', H', h3, h4⟩ := lpc_elim h2
          rw [namL_eq] at h4
          refine ⟨e, F', H', fun Q' hq => chk_of hM (lpc_of h3 (by rw [namL_eq]; exact hq)), h4, fun d hd => ?_⟩
          cases d with
          | zero => simp [roWk, roCode] at hd
          | succ d => simp [roWk, roCode, roIn, hu] at hd
      | exit id => exact ⟨.exit id, F, H, fun Q' hq => hq, h, fun _ _ => rfl⟩
      | scope c =>
        obtain ⟨e, F', H', g1, g2, g3⟩ := ih _ _ _ _ _ h
        refine ⟨e, F', H', g1, g2, fun d hd => ?_⟩
        cases d with
        | zero => simp [roWk, roCode] at hd
        | succ d => exact g3 (d + 1) (by simpa [roWk, roCode, roIn] using hd)
      | label l => exact ⟨.normal, F, H, fun Q' hq => hq, h, fun _ _ => rfl⟩
      | ret => exact ⟨.ret, F, H, fun Q' hq => hq, h, fun _ _ => rfl⟩
      | rangeFunc f ps as b => exact h.elim
      | goto l => exact h.elim
      | refuse s => exact h.elim

end Go.Am
