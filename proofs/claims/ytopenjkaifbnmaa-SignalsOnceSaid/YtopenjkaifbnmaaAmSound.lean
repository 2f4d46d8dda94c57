/-
  One step of a region; its congruence; regions in the text's order.
-/
import Derived.Test.YtopenjkaifbnmaaAmStep
namespace Go.Am
open Go.RowKit

structure Good (K : Cfg) (lps : List Code) : Prop where
  mix : K.C.P.follows .mixedOrders = true
  calls : ∀ f args H v hs, K.sum f args H = some (true, v, hs) → ACalls K.C f args H fun v' H' => v' = v ∧ H' = acts H hs
  loops : ∀ m c F H e F' H', m ≤ K.M → c ∈ lps → K.loop c F H = some (true, e, F', H') → AWp K.C m (.loop c) F H fun e' F'' H'' => e' = e ∧ F'' = F' ∧ H'' = H'

/-- what one operation does -/
inductive St (K : Cfg) (all : List Oper) (o : Oper) (F : Fr) (H : Hp) : Tr → AV → Hp → Prop
  | skip (hw : wantA all o.guard F = some false) : St K all o F H ⟨.still, H.length, []⟩ (.tup []) H
  | pure (hw : wantA all o.guard F = some true) {v : AV} (hk : kdOf K.C.P o.op = .pure) (h : pureOp K.C.P F o.op = some (true, v)) : St K all o F H ⟨.still, H.length, []⟩ v H
  | read (hw : wantA all o.guard F = some true) {v : AV} (hk : kdOf K.C.P o.op = .read) (h : readOp K.C F H o.op = some (true, v)) :
      St K all o F H ⟨(match seesOp F o.op with | some r => .read r | none => .still), H.length, []⟩ v H
  | write (hw : wantA all o.guard F = some true) {v : AV} {x : Hop} (hk : kdOf K.C.P o.op = .write) (h : writeOp K.C F H o.op = some (true, v, x)) : St K all o F H ⟨.write, H.length, [x]⟩ v (x.act H)
  | call (hw : wantA all o.guard F = some true) {f : FuncId} {args : List AV} {v : AV} {hs : List Hop} (hk : kdOf K.C.P o.op = .call) (h : callOp F o.op = some (f, args)) (hs' : ACalls K.C f args H fun v' H' => v' = v ∧ H' = acts H hs) :
      St K all o F H ⟨.write, H.length, hs⟩ v (acts H hs)

theorem St.sound {K : Cfg} {lps : List Code} (hK : Good K lps) {all : List Oper} {o : Oper} {F : Fr} {H H' : Hp} {tr : Tr} {v : AV} (hst : St K all o F H tr v H') {ρ : Env} {a : Act} {w : World} (hH : HRel K.C ρ H w) (hF : FRel ρ F a)
    {next : Act → World → Prop} {Q : Exit → Act → World → Prop}
    (hn : ∀ ρ' cv w', HRel K.C ρ' H' w' → VR ρ' v cv → ρ.le ρ' → Frm ρ w ρ' w' → next (a.put o.dst cv) w') :
    if Region.wanted o (yielded all.toArray a.tmps) then o.wp K.C.P a w next Q ∨ (o.asks K.C.P a w ∧ LetsOut Q) else next (a.put o.dst undef) w := by
  cases hst with
  | skip hw =>
    rw [wanted_of hF hw, if_neg (by simp)]
    exact hn ρ undef w hH (by simp only [VR]; exact ⟨#[], rfl, by simp [VRs]⟩) (Env.le_refl ρ) (Frm.refl ρ w)
  | pure hw hk h =>
    rw [wanted_of hF hw, if_pos rfl]
    obtain ⟨cv, h1, h2⟩ := pure_sound (w := w) hF h
    refine .inl ?_
    unfold Oper.wp
    rw [h1]
    exact hn ρ cv w hH h2 (Env.le_refl ρ) (Frm.refl ρ w)
  | read hw hk h =>
    rw [wanted_of hF hw, if_pos rfl]
    obtain ⟨cv, h1, h2⟩ := read_sound hH hF h
    refine .inl ?_
    unfold Oper.wp
    rw [h1]
    exact hn ρ cv w hH h2 (Env.le_refl ρ) (Frm.refl ρ w)
  | write hw hk h =>
    rw [wanted_of hF hw, if_pos rfl]
    obtain ⟨nx, cv, w', ρ', h1, h2, h3, h4, h5, h6⟩ := write_sound hH hF h
    refine .inl ?_
    unfold Oper.wp
    rw [h1]
    rcases h2 with rfl | ⟨rfl, rfl⟩
    · exact hn ρ' cv w' h3 h4 h5 h6
    · exact hn ρ' undef w' h3 h4 h5 h6
  | call hw hk h hs' =>
    rename_i f args hs
    rw [wanted_of hF hw, if_pos rfl]
    obtain ⟨he, hc⟩ := hs'
    obtain ⟨cargs, hv, h1⟩ := call_enters (w := w) hF h he
    refine .inl ?_
    unfold Oper.wp
    rw [h1]
    refine (hc ρ w cargs hH hv).mono ?_
    rintro e w' ⟨v', cv, ρ', H'', rfl, ⟨rfl, rfl⟩, h3, h4, h5, h6⟩
    exact hn ρ' cv w' h4 h5 h3 h6

theorem Oper.wp_monoQ {P : Program} {o : Oper} {a : Act} {w : World} {K K' : Act → World → Prop} {Q Q' : Exit → Act → World → Prop} (hk : ∀ a w, K a w → K' a w) (hq : ∀ e a w, Q e a w → Q' e a w) (h : o.wp P a w K Q) : o.wp P a w K' Q' := by
  unfold Oper.wp at *
  generalize (execOp a.eval o).run P w = r at *
  have hl : LetsOut Q → LetsOut Q' := fun ⟨a, w, h⟩ => ⟨a, w, hq _ _ _ h⟩
  cases r with
  | ok n w' =>
    cases n <;> simp only [Oper.upon] at h ⊢ <;>
      first
        | exact hk _ _ h
        | exact Calls.mono h (fun e w'' he => by cases e <;> first | exact hk _ _ he | exact hq _ _ _ he | exact hl he)
        | exact Rows.mono h (fun _ _ he => hk _ _ he)
  | halt x w' => cases x <;> simp only [Oper.upon] at h ⊢ <;> exact hq _ _ _ h

theorem wpList_monoQ {P : Program} {ops : Array Oper} {Q Q' : Exit → Act → World → Prop} (hq : ∀ e a w, Q e a w → Q' e a w) : ∀ (l : List Oper) (a : Act) (w : World), wpList P ops Q l a w → wpList P ops Q' l a w
  | [], a, w, h => hq _ _ _ h
  | o :: l, a, w, h => by
    unfold wpList at *
    split
    · rename_i hw
      rw [if_pos hw] at h
      rcases h with h | ⟨h1, a', w', h2⟩
      · exact .inl (Oper.wp_monoQ (wpList_monoQ hq l) hq h)
      · exact .inr ⟨h1, a', w', hq _ _ _ h2⟩
    · rename_i hw
      rw [if_neg hw] at h
      exact wpList_monoQ hq l _ _ h

/-- the trace of a region in the text's order -/
inductive DT (K : Cfg) (all : List Oper) : List Oper → Fr → Hp → List Tr → Fr → Hp → Prop
  | nil (F : Fr) (H : Hp) : DT K all [] F H [] F H
  | cons {o : Oper} {l : List Oper} {F F' : Fr} {H H' H'' : Hp} {tr : Tr} {v : AV} {trs : List Tr} (h : St K all o F H tr v H') (t : DT K all l (put F o.dst v) H' trs F' H'') : DT K all (o :: l) F H (tr :: trs) F' H''

def loopsOf : Code → List Code
  | .seq a b => loopsOf a ++ loopsOf b
  | .cond _ a b => loopsOf a ++ loopsOf b
  | .block _ c => loopsOf c
  | .scope c => loopsOf c
  | .loop c => c :: loopsOf c
  | _ => []

theorem AWp.mono {C : Ctx} {m : Nat} {c : Code} {F : Fr} {H : Hp} {Q Q' : Post} (h : AWp C m c F H Q) (hq : ∀ e F H, Q e F H → Q' e F H) : AWp C m c F H Q' :=
  fun ρ a w h1 h2 => Code.wp_mono (fun e a' w' ⟨ae, ρ', F', H', g1, g2, g3⟩ => ⟨ae, ρ', F', H', g1, hq _ _ _ g2, g3⟩) (h ρ a w h1 h2)

theorem pin_len {C : Ctx} {m : Nat} {ρ ρ' : Env} {H H' : Hp} {w w' : World} (hm : m ≤ H.length) (h1 : HRel C ρ H w) (h2 : HRel C ρ' H' w') (hp : Pin m ρ ρ') : m ≤ H'.length := by
  rw [← h2.len]
  rcases Nat.eq_zero_or_pos m with rfl | h0
  · omega
  · have := hp (m - 1) (by omega)
    have hl : m - 1 < ρ.rw.length := by rw [h1.len]; omega
    rw [List.getElem?_eq_getElem hl] at this
    have := (List.getElem?_eq_some_iff.1 this).1
    omega

/-- the post of a sequence -/
theorem AP.seq {C : Ctx} {m : Nat} {ρ : Env} {w : World} {rec : Rec} {b : Code} {Q : Post} {H : Hp} (hm : m ≤ H.length) (hH : HRel C ρ H w)
    (hb : ∀ F' H', rec m (.code b) F' H' Q → ∀ ρ' a' w', m ≤ H'.length → HRel C ρ' H' w' → FRel ρ' F' a' → b.wp C.P (AP C m ρ' w' Q) a' w') {e : Exit} {a' : Act} {w' : World}
    (h : AP C m ρ w (thenK rec m b Q) e a' w') : Exit.then (b.wp C.P (AP C m ρ w Q)) (AP C m ρ w Q) e a' w' := by
  obtain ⟨ae, ρ', F', H', rfl, h2, h3, h4, h5, h6⟩ := h
  cases ae with
  | normal =>
    exact Code.wp_mono (fun e a w h => AP.link h3 h6 h) (hb F' H' h2 ρ' a' w' (pin_len hm hH h4 h3) h4 h5)
  | exit i => exact ⟨.exit i, ρ', F', H', rfl, h2, h3, h4, h5, h6⟩
  | ret => exact ⟨.ret, ρ', F', H', rfl, h2, h3, h4, h5, h6⟩

end Go.Am
