/-
  THE ABSTRACT MACHINE IS SOUND.
-/
import Derived.Test.YtopenjkaifbnmaaAmAny
import Derived.Test.YtopenjkaifbnmaaAmPoint
import Derived.Scope
import Derived.LoopN
namespace Go.Am
open Go.RowKit

section
variable {K : Cfg} {lps : List Code}

theorem draw_any (hK : Good K lps) {all : List Oper} {trs : List Tr} {vs : List AV} {F0 : Fr} {H0 : Hp} {ρ0 : Env} {w0 : World} (hd : drawOk all trs = true) (hvl : vs.length = all.length) (hl : trs.length = all.length)
    (htr : ∀ (j : Nat) o, all[j]? = some o → ∃ tr v H2, trs[j]? = some tr ∧ vs[j]? = some v ∧ St K all o (FSel (upTo j) 0 all vs F0) (HSel (upTo j) 0 trs H0) tr v H2)
    {Q : Exit → Act → World → Prop} (hQ : ∀ a w, Stage K all trs vs F0 H0 ρ0 w0 (upTo all.length) a w → Q .normal a w) :
    ∀ (fuel : Nat) (listed : Array Bool) (a : Act) (w : World), listed.size = all.length → (List.range all.length).countP (fun i => !listed.getD i false) = fuel →
      Stage K all trs vs F0 H0 ρ0 w0 (fun i => listed.getD i false) a w → wpAny K.C.P .any all.toArray Q fuel listed a w := by
  have full : ∀ (listed : Array Bool) (a : Act) (w : World), listed.size = all.length → (List.range all.length).countP (fun i => !listed.getD i false) = 0 →
      Stage K all trs vs F0 H0 ρ0 w0 (fun i => listed.getD i false) a w → Q .normal a w := by
    intro listed a w hsz hc hs
    rw [List.countP_eq_zero] at hc
    have hall : ∀ i, i < all.length → listed.getD i false = true := fun i hi => by simpa using hc i (List.mem_range.2 hi)
    refine hQ a w ⟨fun j o ho hj e he hb => ?_, ?_⟩
    · have hjl : j < all.length := (List.getElem?_eq_some_iff.1 ho).1
      have := hs.closed j o ho (hall j hjl) e he hb
      simp only [drawOk, Bool.and_eq_true] at hd
      have := edges_back all 0 hd.1 j o ho e he hb
      exact decide_eq_true (by omega)
    · obtain ⟨ρ, h1, h2, h3, h4⟩ := hs.rel
      refine ⟨ρ, ?_, ?_, h3, h4⟩
      · rw [HSel_congr (upTo all.length) (fun i => listed.getD i false) trs 0 H0 fun k t hk => .inr ?_]
        · exact h1
        · have := (List.getElem?_eq_some_iff.1 hk).1
          simp only [Nat.zero_add]
          rw [hall k (by omega)]; exact decide_eq_true (by omega)
      · rw [FSel_congr (upTo all.length) (fun i => listed.getD i false) all vs 0 F0 fun k hk => ?_]
        · exact h2
        · simp only [Nat.zero_add]
          rw [hall k hk]; exact decide_eq_true hk
  intro fuel
  induction fuel with
  | zero =>
    intro listed a w hsz hc hs
    refine ⟨?_, full listed a w hsz hc hs⟩
    rw [List.countP_eq_zero] at hc
    refine List.filter_eq_nil_iff.2 fun i hi => ?_
    have hil : i < all.length := by simpa using List.mem_range.1 hi
    have := hc i (List.mem_range.2 hil)
    have hg : listed.getD i true = listed.getD i false := by simp [Array.getD, hsz, hil]
    simp only [hg]
    simp at this
    simp [this]
  | succ fuel ih =>
    intro listed a w hsz hc hs
    refine ⟨fun hnil => ?_, fun i hi => ?_⟩
    · -- somebody is not listed; the first of them is ready
      exfalso
      have hex : ∃ i, i < all.length ∧ listed.getD i false = false := by
        have hpos : 0 < (List.range all.length).countP (fun i => !listed.getD i false) := by omega
        obtain ⟨i, hi, hp⟩ := List.countP_pos_iff.1 hpos
        exact ⟨i, List.mem_range.1 hi, by simpa using hp⟩
      have least : ∃ i, i < all.length ∧ listed.getD i false = false ∧ ∀ k, k < i → listed.getD k false = true := by
        obtain ⟨i, hi⟩ := hex
        induction i using Nat.strongRecOn with
        | _ i ih' =>
          by_cases hm : ∃ k, k < i ∧ listed.getD k false = false
          · obtain ⟨k, hk, hf⟩ := hm
            exact ih' k hk ⟨by omega, hf⟩
          · refine ⟨i, hi.1, hi.2, fun k hk => ?_⟩
            cases hq : listed.getD k false with
            | true => rfl
            | false => exact absurd ⟨k, hk, hq⟩ hm
      obtain ⟨i, hil, hf, hbelow⟩ := least
      obtain ⟨o, ho⟩ : ∃ o, all[i]? = some o := ⟨_, List.getElem?_eq_getElem hil⟩
      have hmem : i ∈ Region.ready .any all.toArray listed := by
        unfold Region.ready
        refine List.mem_filter.2 ⟨List.mem_range.2 (by simpa using hil), ?_⟩
        have hg : listed.getD i true = listed.getD i false := by simp [Array.getD, hsz, hil]
        simp only [hg, hf, List.getElem?_toArray, ho, Option.map_some, Option.getD_some, Bool.not_false, Bool.true_and]
        rw [Array.all_eq_true_iff_forall_mem]
        intro e he
        simp only [drawOk, Bool.and_eq_true] at hd
        cases hb : Region.binds .any e with
        | false => rfl
        | true =>
          have := edges_back all 0 hd.1 i o ho e (by simpa using he) hb
          simp [hbelow e.on (by omega)]
      rw [hnil] at hmem
      simp at hmem
    · obtain ⟨hir, hip⟩ := List.mem_filter.1 hi
      have hil : i < all.length := by simpa using List.mem_range.1 hir
      obtain ⟨o, ho⟩ : ∃ o, all[i]? = some o := ⟨_, List.getElem?_eq_getElem hil⟩
      have hg : listed.getD i true = listed.getD i false := by simp [Array.getD, hsz, hil]
      simp only [hg, List.getElem?_toArray, ho, Option.map_some, Option.getD_some, Bool.and_eq_true, Bool.not_eq_true', Array.all_eq_true_iff_forall_mem] at hip
      have hset : ∀ k, (listed.setIfInBounds i true).getD k false = if k = i then true else listed.getD k false := fun k => by
        simp only [Array.getD_eq_getD_getElem?, Array.getElem?_setIfInBounds]
        by_cases hk : i = k
        · subst hk; simp [hsz, hil]
        · rw [if_neg hk, if_neg (fun h : k = i => hk h.symm)]
      unfold wpOp
      simp only [List.getElem?_toArray, ho]
      refine stage_step hK hd hvl hl htr hs ho hip.1 (S' := fun k => (listed.setIfInBounds i true).getD k false) (by simp [hset]) (fun k hk => by simp [hset, hk]) (fun e he hb => ?_) fun a' w' hs' => ?_
      · have := hip.2 e (by simpa using he)
        simpa [hb] using this
      · refine ih _ a' w' (by simp [hsz]) ?_ hs'
        have e1 : (fun k => !(listed.setIfInBounds i true).getD k false) = fun k => !(k == i) && !listed.getD k false := by
          funext k
          rw [hset]
          by_cases hk : k = i
          · simp [hk]
          · simp [hk]
        rw [e1]
        -- one fewer
        have cnt : ∀ n, i < n → (List.range n).countP (fun k => !listed.getD k false) = (List.range n).countP (fun k => !(k == i) && !listed.getD k false) + 1 := by
          intro n
          induction n with
          | zero => intro h; omega
          | succ n ihn =>
            intro h
            rw [List.range_succ, List.countP_append, List.countP_append]
            by_cases hin : i = n
            · subst hin
              have same : (List.range i).countP (fun k => !listed.getD k false) = (List.range i).countP (fun k => !(k == i) && !listed.getD k false) := List.countP_congr fun k hk => by
                have : k ≠ i := by have := List.mem_range.1 hk; omega
                simp [this]
              rw [same]
              simp only [List.countP_cons, List.countP_nil, hip.1, Bool.not_false, beq_self_eq_true, Bool.not_true, Bool.false_and, if_true]
              rfl
            · rw [ihn (by omega)]
              have : (n == i) = false := by simp; omega
              simp only [List.countP_cons, List.countP_nil, this]
              simp
              omega
        have := cnt all.length hil
        omega

theorem draw_sound (hK : Good K lps) {all : List Oper} {trs : List Tr} {F F' : Fr} {H H' : Hp} (ht : DT K all all F H trs F' H') (hd : drawOk all trs = true) {ρ : Env} {a : Act} {w : World} (hH : HRel K.C ρ H w) (hF : FRel ρ F a)
    {id : Nat} {Q : Exit → Act → World → Prop} (hQ : ∀ ρ' a' w', HRel K.C ρ' H' w' → FRel ρ' F' a' → ρ.le ρ' → Frm ρ w ρ' w' → Q .normal a' w') : (Code.region id all.toArray true).wp K.C.P Q a w := by
  obtain ⟨vs, h1, h2, h3, h4, h5⟩ := ht.spell
  refine wp_region_any hK.mix ?_
  have hw : ({ w with drawn := w.drawn + 1 } : World) = w.drew := rfl
  rw [hw]
  have hsz : all.toArray.size = all.length := by simp
  rw [hsz]
  refine draw_any (F0 := F) (H0 := H) (ρ0 := ρ) (w0 := w) hK hd h1 h2 h5 (fun a' w' hs => ?_) all.length _ a w.drew (by simp) ?_ ⟨fun j o _ hj => ?_, ρ, ?_, ?_, Env.le_refl ρ, (Frm.refl ρ w).drew⟩
  · obtain ⟨ρ', g1, g2, g3, g4⟩ := hs.rel
    rw [h4] at g1
    rw [h3] at g2
    exact hQ ρ' a' w' g1 g2 g3 g4
  · rw [List.countP_eq_length.2]
    · simp
    · intro i hi
      have := List.mem_range.1 hi
      simp [Array.getD]
  · simp [Array.getD] at hj
  · rw [HSel_none]
    · exact hH.drew
    · intro k _; simp [Array.getD]
  · have none : ∀ (l : List Oper) (vs : List AV) (i : Nat) (F : Fr), FSel (fun i => (Array.replicate all.length false).getD i false) i l vs F = F := by
      intro l
      induction l with
      | nil => intro vs i F; simp [FSel]
      | cons o l ih =>
        intro vs i F
        cases vs with
        | nil => simp [FSel]
        | cons x vs =>
          simp only [FSel]
          have : (Array.replicate all.length false).getD i false = false := by simp [Array.getD]
          rw [this]
          exact ih vs _ F
    rw [none]
    exact hF
/-- what 'vc' is worth -/
def Snd (K : Cfg) (m : Nat) (wk : Wk) (F : Fr) (H : Hp) (Q : Post) : Prop :=
  match wk with
  | .code c => ∀ (ρ : Env) (a : Act) (w : World), m ≤ H.length → HRel K.C ρ H w → FRel ρ F a → c.wp K.C.P (AP K.C m ρ w Q) a w
  | .ops all l => ∀ (ρ : Env) (a : Act) (w : World), m ≤ H.length → HRel K.C ρ H w → FRel ρ F a → wpList K.C.P all.toArray (AP K.C m ρ w Q) l a w
  | .dr all l trs => ∃ trs' F' H', DT K all l F H trs' F' H' ∧ drawOk all (trs ++ trs') = true ∧ Q .normal F' H'

def LpOk (K : Cfg) (lps : List Code) (wk : Wk) : Prop :=
  match wk with
  | .code c => K.unr = false → ∀ b ∈ loopsOf c, b ∈ lps
  | _ => True

/-- a step, and then the rest of the region -/
theorem step_then (hK : Good K lps) {all : List Oper} {o : Oper} {l : List Oper} {F : Fr} {H H' : Hp} {tr : Tr} {v : AV} {m : Nat} {Q : Post} (hst : St K all o F H tr v H')
    (ih : Snd K m (.ops all l) (put F o.dst v) H' Q) : Snd K m (.ops all (o :: l)) F H Q := by
  intro ρ a w hm hH hF
  unfold wpList
  refine hst.sound hK hH hF fun ρ' cv w' h1 h2 h3 h4 => ?_
  have hp := Pin.of_le hH h3 hm
  exact wpList_monoQ (fun e a w h => AP.link hp h4 h) l _ _ (ih ρ' _ w' (pin_len hm hH h1 hp) h1 ((hF.mono h3).put _ _ _ h2))

theorem vc_sound (hK : Good K lps) (hinl : K.unr = false → ∀ f fn c, K.inl f = true → K.C.P.funcs[f]? = some fn → fn.body = some c → ∀ b ∈ loopsOf c, b ∈ lps) : ∀ n,
    (∀ m wk F H Q, LpOk K lps wk → vc K n m wk F H Q → Snd K m wk F H Q) ∧
    (K.unr = true → ∀ m c F H Q, vc K n m (.code (.loop c)) F H Q → ∀ (ρ0 : Env) (w0 : World) (ρ : Env) (a : Act) (w : World), m ≤ H.length → Pin m ρ0 ρ → Frm ρ0 w0 ρ w → HRel K.C ρ H w → FRel ρ F a →
      Code.rounds K.C.P c (AP K.C m ρ0 w0 Q) n a w) := by
  intro n
  induction n with
  | zero => exact ⟨fun _ _ _ _ _ _ h => h.elim, fun _ _ _ _ _ _ h => h.elim⟩
  | succ n ih =>
    obtain ⟨ih, ihr⟩ := ih
    have second : K.unr = true → ∀ m c F H Q, vc K (n + 1) m (.code (.loop c)) F H Q → ∀ (ρ0 : Env) (w0 : World) (ρ : Env) (a : Act) (w : World), m ≤ H.length → Pin m ρ0 ρ → Frm ρ0 w0 ρ w → HRel K.C ρ H w → FRel ρ F a →
        Code.rounds K.C.P c (AP K.C m ρ0 w0 Q) (n + 1) a w := by
      intro hu m c F H Q h ρ0 w0 ρ a w hm hp hf hH hF
      have h : vc K n m (.code c) F H (thenK (vc K n) m (.loop c) Q) := by
        change stepCode K (vc K n) m (.loop c) F H Q at h
        simp only [stepCode, hu] at h
        exact h
      rw [rounds_succ]
      refine Code.wp_mono ?_ (ih m (.code c) F H _ (fun hu' => by rw [hu] at hu'; simp at hu') h ρ a w hm hH hF)
      rintro e a' w' ⟨ae, ρ', F', H', rfl, h2, h3, h4, h5, h6⟩
      cases ae with
      | normal => exact ihr hu m c F' H' Q h2 ρ0 w0 ρ' a' w' (pin_len hm hH h4 h3) (hp.trans h3) (hf.trans h6) h4 h5
      | exit i => exact ⟨.exit i, ρ', F', H', rfl, h2, hp.trans h3, h4, h5, hf.trans h6⟩
      | ret => exact ⟨.ret, ρ', F', H', rfl, h2, hp.trans h3, h4, h5, hf.trans h6⟩
    refine ⟨?_, second⟩
    intro m wk F H Q hlp h
    cases wk with
    | ops all l =>
      change stepOps K (vc K n) m all l F H Q at h
      cases l with
      | nil => exact fun ρ a w hm hH hF => ⟨.normal, ρ, F, H, rfl, h, Pin.refl m ρ, hH, hF, Frm.refl ρ w⟩
      | cons o l =>
        obtain ⟨dst, op, ty, pos, after, guard⟩ := o
        simp only [stepOps] at h
        rcases guardK_elim h with ⟨hw, h⟩ | ⟨hw, h⟩
        · unfold stepOp at h
          split at h
          · rename_i hk
            obtain ⟨v, h1, h2⟩ := opc_elim h
            exact step_then hK (.pure hw hk h1) (ih m _ _ _ _ trivial (putS_elim h2))
          · rename_i hk
            obtain ⟨v, h1, h2⟩ := opc_elim h
            exact step_then hK (.read hw hk h1) (ih m _ _ _ _ trivial (putK_elim h2))
          · rename_i hk
            obtain ⟨v, x, h1, h2⟩ := wrc_elim h
            exact step_then hK (.write hw hk h1) (ih m _ _ _ _ trivial (putK_elim (hopK_elim h2)))
          · rename_i hk
            split at h
            · rename_i f args hc
              unfold stepCall at h
              split at h
              · rename_i hi
                split at h
                · rename_i fn hfn
                  split at h
                  · rename_i c hb
                    obtain ⟨hnm, h2⟩ := chk_elim h
                    have hbody := ih H.length (.code c) (frame0 fn args) H _ (fun hu => hinl hu f fn c hi hfn hb) h2
                    have hcall := acalls_of (f := f) hfn hb (by simpa using hnm) (fun ρ a w hH hF => hbody ρ a w (Nat.le_refl _) hH hF)
                    intro ρ a w hm hH hF
                    unfold wpList
                    rw [wanted_of hF hw, if_pos rfl]
                    obtain ⟨cargs, hv, h1⟩ := call_enters (w := w) (o := ⟨dst, op, ty, pos, after, guard⟩) hF hc hcall.1
                    refine .inl ?_
                    unfold Oper.wp
                    rw [h1]
                    refine (hcall.2 ρ w cargs hH hv).mono ?_
                    rintro e w' ⟨v, cv, ρ', H', rfl, g1, g2, g3, g4, g5⟩
                    have hp := Pin.of_le hH g2 hm
                    exact wpList_monoQ (fun e a w h => AP.link hp g5 h) l _ _ (ih m (.ops all l) _ _ _ trivial (putK_elim g1) ρ' _ w' (pin_len hm hH g3 hp) g3 ((hF.mono g2).put _ _ _ g4))
                  · exact h.elim
                · exact h.elim
              · obtain ⟨v, hs, h1, h2⟩ := smc_elim (namL_elim h)
                exact step_then hK (.call hw hk hc (hK.calls _ _ _ _ _ h1)) (ih m _ _ _ _ trivial (putK_elim (hopsK_elim h2)))
            · exact h.elim
        · exact step_then hK (.skip hw) (ih m _ _ _ _ trivial (putK_elim h))
    | dr all l trs =>
      change stepDr K (vc K n) m all l trs F H Q at h
      cases l with
      | nil =>
        obtain ⟨h1, h2⟩ := chk_elim h
        exact ⟨[], F, H, .nil F H, by simpa using h1, h2⟩
      | cons o l =>
        obtain ⟨dst, op, ty, pos, after, guard⟩ := o
        simp only [stepDr] at h
        have go : ∀ {tr : Tr} {v : AV} {H' : Hp}, St K all ⟨dst, op, ty, pos, after, guard⟩ F H tr v H' → vc K n m (.dr all l (trs ++ [tr])) (put F dst v) H' Q → Snd K m (.dr all (⟨dst, op, ty, pos, after, guard⟩ :: l) trs) F H Q := by
          intro tr v H' hst hrec
          obtain ⟨trs', F', H'', g1, g2, g3⟩ := ih m (.dr all l (trs ++ [tr])) _ _ _ trivial hrec
          exact ⟨tr :: trs', F', H'', .cons hst g1, by simpa using g2, g3⟩
        rcases guardK_elim h with ⟨hw, h⟩ | ⟨hw, h⟩
        · unfold stepDrOp at h
          split at h
          · rename_i hk
            obtain ⟨v, h1, h2⟩ := opc_elim h
            exact go (.pure hw hk h1) (putS_elim h2)
          · rename_i hk
            obtain ⟨v, h1, h2⟩ := opc_elim h
            exact go (.read hw hk h1) (putK_elim h2)
          · rename_i hk
            obtain ⟨v, x, h1, h2⟩ := wrc_elim h
            exact go (.write hw hk h1) (putK_elim (hopK_elim h2))
          · rename_i hk
            split at h
            · rename_i f args hc
              split at h
              · rename_i hi
                split at h
                · rename_i fn hfn
                  split at h
                  · rename_i c hb
                    obtain ⟨hnm, h2⟩ := chk_elim h
                    obtain ⟨v, H1, g1, g2, g3⟩ := call_pt (pt_all K n) h2
                    have hcall : ∀ R : AV → Hp → Prop, R v H1 → ACalls K.C f args H R := fun R hR =>
                      acalls_of (f := f) hfn hb (by simpa using hnm) fun ρ a w hH hF => ih H.length (.code c) (frame0 fn args) H _ (fun hu => hinl hu f fn c hi hfn hb) (g2 R hR) ρ a w (Nat.le_refl _) hH hF
                    split at g1
                    · rename_i hrc
                      have e := g3 20 hrc
                      subst e
                      exact go (.call (hs := []) hw hk hc (hcall _ ⟨rfl, rfl⟩)) (putK_elim g1)
                    · split at g1
                      · rename_i hs hdf
                        have e := acts_diff 0 [] H H1 hs rfl hdf
                        simp only [List.nil_append] at e
                        have := go (tr := ⟨.write, H.length, hs⟩) (v := v) (H' := acts H hs) (.call hw hk hc (hcall _ ⟨rfl, e.symm⟩))
                        rw [e] at this
                        exact this (putK_elim g1)
                      · exact g1.elim
                  · exact h.elim
                · exact h.elim
              · obtain ⟨v, hs, h1, h2⟩ := smc_elim (namL_elim h)
                exact go (.call hw hk hc (hK.calls _ _ _ _ _ h1)) (putK_elim (hopsK_elim h2))
            · exact h.elim
        · exact go (.skip hw) (putK_elim h)
    | code c =>
      change stepCode K (vc K n) m c F H Q at h
      intro ρ a w hm hH hF
      have here : ∀ ae, Q ae F H → AP K.C m ρ w Q (toExit ae) a w := fun ae hq => ⟨ae, ρ, F, H, rfl, hq, Pin.refl m ρ, hH, hF, Frm.refl ρ w⟩
      cases c with
      | skip => exact wp_skip (here .normal h)
      | region id ops draw =>
        cases draw with
        | true =>
          obtain ⟨trs', F', H', g1, g2, g3⟩ := ih m (.dr ops.toList ops.toList []) F H Q trivial h
          have := draw_sound (id := id) (Q := AP K.C m ρ w Q) hK g1 (by simpa using g2) hH hF fun ρ' a' w' q1 q2 q3 q4 => ⟨.normal, ρ', F', H', rfl, g3, Pin.of_le hH q3 hm, q1, q2, q4⟩
          rwa [Array.toArray_toList] at this
        | false =>
          have := ih m (.ops ops.toList ops.toList) F H Q trivial h ρ a w hm hH hF
          rw [Array.toArray_toList] at this
          exact wp_region_list this
      | seq x y =>
        have hx : LpOk K lps (.code x) := fun hu b hb => hlp hu b (List.mem_append.2 (.inl hb))
        have hy : LpOk K lps (.code y) := fun hu b hb => hlp hu b (List.mem_append.2 (.inr hb))
        exact wp_seq (Code.wp_mono (fun e a' w' h => AP.seq hm hH (fun F' H' hr => ih m (.code y) F' H' Q hy hr) h) (ih m (.code x) F H _ hx h ρ a w hm hH hF))
      | cond c x y =>
        have hx : LpOk K lps (.code x) := fun hu b hb => hlp hu b (List.mem_append.2 (.inl hb))
        have hy : LpOk K lps (.code y) := fun hu b hb => hlp hu b (List.mem_append.2 (.inr hb))
        simp only [stepCode, stepCond] at h
        split at h
        · rename_i t
          split at h
          · rename_i b hb
            have hv := hF.at t
            rw [hb] at hv
            simp only [VR] at hv
            rcases tstH_elim h with ⟨hb1, h2⟩ | ⟨hb1, h2⟩
            · subst hb1
              have h2 := putK_elim h2
              simp only [put, set_same hb (by simp)] at h2
              exact wp_cond_true hv (ih m (.code x) F H Q hx h2 ρ a w hm hH hF)
            · subst hb1
              have h2 := putK_elim h2
              simp only [put, set_same hb (by simp)] at h2
              exact wp_cond_false hv (ih m (.code y) F H Q hy h2 ρ a w hm hH hF)
          · exact h.elim
        · rename_i b
          cases b with
          | true => exact wp_cond_true rfl (ih m (.code x) F H Q hx h ρ a w hm hH hF)
          | false => exact wp_cond_false rfl (ih m (.code y) F H Q hy h ρ a w hm hH hF)
        · exact h.elim
      | block id c =>
        refine wp_block (Code.wp_mono ?_ (ih m (.code c) F H _ (fun hu b hb => hlp hu b hb) h ρ a w hm hH hF))
        rintro e a' w' ⟨ae, ρ', F', H', rfl, h2, h3⟩
        cases ae with
        | normal => exact ⟨.normal, ρ', F', H', rfl, h2, h3⟩
        | ret => exact ⟨.ret, ρ', F', H', rfl, h2, h3⟩
        | exit i =>
          simp only [blockK] at h2
          show (if i = id then AP K.C m ρ w Q .normal a' w' else AP K.C m ρ w Q (.exit i) a' w')
          split at h2
          · rename_i hi
            rw [if_pos (by simpa using hi)]
            exact ⟨.normal, ρ', F', H', rfl, h2, h3⟩
          · rename_i hi
            rw [if_neg (by simpa using hi)]
            exact ⟨.exit i, ρ', F', H', rfl, h2, h3⟩
      | loop c =>
        cases hu : K.unr with
        | true => exact wp_loop_rounds (n + 1) (second hu m c F H Q h ρ w ρ a w hm (Pin.refl m ρ) (Frm.refl ρ w) hH hF)
        | false =>
          simp only [stepCode, hu] at h
          obtain ⟨hM, h2⟩ := chk_elim h
          obtain ⟨e, F', H', h3, h4⟩ := lpc_elim h2
          have h4 := namL_elim h4
          have := hK.loops m c F H e F' H' (Nat.le_of_ble_eq_true hM) (hlp hu c (by simp [loopsOf])) h3
          exact this.mono (fun e' F'' H'' ⟨q1, q2, q3⟩ => by rw [q1, q2, q3]; exact h4) ρ a w hH hF
      | exit id => exact wp_exit (here (.exit id) h)
      | scope c =>
        refine wp_scope_straight (Code.wp_mono ?_ (ih m (.code c) F H Q (fun hu b hb => hlp hu b hb) h ρ a w hm hH hF))
        rintro e a' w' h
        obtain ⟨ae, ρ', F', H', rfl, h2⟩ := h
        cases ae with
        | normal => exact ⟨.normal, ρ', F', H', rfl, h2⟩
        | ret => exact ⟨.ret, ρ', F', H', rfl, h2⟩
        | exit i => exact ⟨.exit i, ρ', F', H', rfl, h2⟩
      | label l => exact wp_label (here .normal h)
      | ret => exact wp_ret (here .ret h)
      | rangeFunc f ps as b => exact h.elim
      | goto l => exact h.elim
      | refuse s => exact h.elim

/-- A FUNCTION's CALL, by 'vc' over its body. -/
theorem call_of_vc (hK : Good K lps) (hinl : K.unr = false → ∀ f fn c, K.inl f = true → K.C.P.funcs[f]? = some fn → fn.body = some c → ∀ b ∈ loopsOf c, b ∈ lps) {f : FuncId} {fn : Func} {c : Code} {args : List AV} {H : Hp} {Q : AV → Hp → Prop}
    (n : Nat) (hf : K.C.P.funcs[f]? = some fn) (hb : fn.body = some c) (hn : (fn.name == "runtime.NumGoroutine") = false) (hl : K.unr = false → ∀ b ∈ loopsOf c, b ∈ lps)
    (h : vc K n H.length (.code c) (frame0 fn args) H (retK K.C fn Q)) : ACalls K.C f args H Q :=
  acalls_of hf hb hn fun ρ a w hH hF => (vc_sound hK hinl n).1 H.length (.code c) _ H _ hl h ρ a w (Nat.le_refl _) hH hF

/-- A piece of code, by 'vc'. -/
theorem wp_of_vc (hK : Good K lps) (hinl : K.unr = false → ∀ f fn c, K.inl f = true → K.C.P.funcs[f]? = some fn → fn.body = some c → ∀ b ∈ loopsOf c, b ∈ lps) {c : Code} {F : Fr} {H : Hp} {m : Nat} {Q : Post}
    (n : Nat) (hm : m ≤ H.length) (hl : K.unr = false → ∀ b ∈ loopsOf c, b ∈ lps) (h : vc K n m (.code c) F H Q) : AWp K.C m c F H Q :=
  fun ρ a w hH hF => (vc_sound hK hinl n).1 m (.code c) F H Q hl h ρ a w hm hH hF
end
end Go.Am
