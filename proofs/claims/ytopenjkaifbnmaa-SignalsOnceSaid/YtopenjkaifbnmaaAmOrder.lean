/-
  Every order of a region's operations.
-/
import Derived.Test.YtopenjkaifbnmaaAmDraw
namespace Go.Am
open Go.RowKit

/-- the frame behind those of the operations that are listed -/
def FSel (S : Nat → Bool) : Nat → List Oper → List AV → Fr → Fr
  | i, o :: l, v :: vs, F => FSel S (i + 1) l vs (bif S i then put F o.dst v else F)
  | _, _, _, F => F

def HSel (S : Nat → Bool) : Nat → List Tr → Hp → Hp
  | i, t :: ts, H => HSel S (i + 1) ts (bif S i then acts H t.hs else H)
  | _, [], H => H

/-- the first j operations -/
def upTo (j : Nat) : Nat → Bool := fun i => decide (i < j)

theorem put_length (F : Fr) (d : Option Tmp) (v : AV) : (put F d v).length = F.length := by cases d <;> simp [put]

theorem put_get_other {F : Fr} {d : Option Tmp} {v : AV} {t : Tmp} (h : d ≠ some t) : (put F d v).getD t .undef = F.getD t .undef := by
  cases d with
  | none => rfl
  | some d =>
    have : d ≠ t := fun e => h (by rw [e])
    simp [put, List.getD, List.getElem?_set, this]

theorem put_comm {F : Fr} {d d' : Option Tmp} {v v' : AV} (h : d = none ∨ d ≠ d') : put (put F d v) d' v' = put (put F d' v') d v := by
  cases d with
  | none => rfl
  | some d =>
    cases d' with
    | none => rfl
    | some d' =>
      have : d ≠ d' := fun e => by
        rcases h with h | h
        · simp at h
        · exact h (by rw [e])
      exact List.set_comm _ _ this

theorem FSel_put (S : Nat → Bool) : ∀ (l : List Oper) (vs : List AV) (i : Nat) (F : Fr) (d : Option Tmp) (v : AV), (∀ k o, l[k]? = some o → S (i + k) = true → d = none ∨ d ≠ o.dst) →
    FSel S i l vs (put F d v) = put (FSel S i l vs F) d v
  | [], vs, i, F, d, v, _ => by simp [FSel]
  | o :: l, [], i, F, d, v, _ => by simp [FSel]
  | o :: l, x :: vs, i, F, d, v, h => by
    simp only [FSel]
    have ih := fun F => FSel_put S l vs (i + 1) F d v fun k o' hk hs => h (k + 1) o' (by simpa using hk) (by rw [show i + (k + 1) = i + 1 + k by omega]; exact hs)
    cases hS : S i with
    | false => simp only [cond_false]; exact ih F
    | true =>
      simp only [cond_true]
      rw [put_comm (h 0 o rfl (by simpa using hS))]
      exact ih _

theorem FSel_congr (S S' : Nat → Bool) : ∀ (l : List Oper) (vs : List AV) (i : Nat) (F : Fr), (∀ k, k < l.length → S (i + k) = S' (i + k)) → FSel S i l vs F = FSel S' i l vs F
  | [], vs, i, F, _ => by simp [FSel]
  | o :: l, [], i, F, _ => by simp [FSel]
  | o :: l, x :: vs, i, F, h => by
    simp only [FSel]
    have h0 := h 0 (by simp)
    simp only [Nat.add_zero] at h0
    rw [h0]
    exact FSel_congr S S' l vs (i + 1) _ fun k hk => by
      have := h (k + 1) (by simp; omega)
      rwa [show i + (k + 1) = i + 1 + k by omega] at this

/-- one more is listed -/
theorem FSel_insert (S S' : Nat → Bool) : ∀ (l : List Oper) (vs : List AV) (i : Nat) (F : Fr) (j : Nat) (o : Oper) (v : AV), l[j]? = some o → vs[j]? = some v → S (i + j) = false → S' (i + j) = true →
    (∀ k, k ≠ i + j → S' k = S k) → (∀ k o', j < k → l[k]? = some o' → S (i + k) = true → o.dst = none ∨ o.dst ≠ o'.dst) → FSel S' i l vs F = put (FSel S i l vs F) o.dst v
  | [], vs, i, F, j, o, v, h1, _, _, _, _, _ => by simp at h1
  | o1 :: l, [], i, F, j, o, v, _, h2, _, _, _, _ => by simp at h2
  | o1 :: l, x :: vs, i, F, 0, o, v, h1, h2, h3, h4, h5, h6 => by
    simp only [List.getElem?_cons_zero, Option.some.injEq] at h1 h2
    subst h1 h2
    simp only [Nat.add_zero] at h3 h4 h5
    simp only [FSel, h3, h4, cond_true, cond_false]
    rw [FSel_congr S' S l vs (i + 1) _ (fun k _ => h5 _ (by omega))]
    exact FSel_put S l vs (i + 1) F _ _ fun k o' hk hs => h6 (k + 1) o' (by omega) (by simpa using hk) (by rw [show i + (k + 1) = i + 1 + k by omega]; exact hs)
  | o1 :: l, x :: vs, i, F, j + 1, o, v, h1, h2, h3, h4, h5, h6 => by
    simp only [FSel]
    rw [h5 i (by omega)]
    exact FSel_insert S S' l vs (i + 1) _ j o v (by simpa using h1) (by simpa using h2) (by rw [show i + 1 + j = i + (j + 1) by omega]; exact h3) (by rw [show i + 1 + j = i + (j + 1) by omega]; exact h4)
      (fun k hk => h5 k (by omega)) fun k o' hk ho hs => h6 (k + 1) o' (by omega) (by simpa using ho) (by rw [show i + (k + 1) = i + 1 + k by omega]; exact hs)

/-- a slot that only operations write of which both or neither count -/
theorem FSel_get (S S' : Nat → Bool) (t : Tmp) : ∀ (l : List Oper) (vs : List AV) (i : Nat) (F F' : Fr), F.length = F'.length → F.getD t .undef = F'.getD t .undef →
    (∀ k o, l[k]? = some o → o.dst = some t → S (i + k) = S' (i + k)) → (FSel S i l vs F).getD t .undef = (FSel S' i l vs F').getD t .undef
  | [], vs, i, F, F', _, h, _ => by simpa [FSel] using h
  | o :: l, [], i, F, F', _, h, _ => by simpa [FSel] using h
  | o :: l, x :: vs, i, F, F', hl, h, hs => by
    simp only [FSel]
    refine FSel_get S S' t l vs (i + 1) _ _ ?_ ?_ fun k o' hk hd => by
      have := hs (k + 1) o' (by simpa using hk) hd
      rwa [show i + (k + 1) = i + 1 + k by omega] at this
    · cases S i <;> cases S' i <;> simp [put_length, hl]
    · by_cases hd : o.dst = some t
      · have := hs 0 o rfl hd
        simp only [Nat.add_zero] at this
        rw [this]
        cases S' i with
        | false => exact h
        | true =>
          simp only [cond_true, hd, put]
          simp [List.getD, List.getElem?_set, hl]
      · cases S i <;> cases S' i <;> simp only [cond_true, cond_false, put_get_other hd, h]

theorem HSel_congr (S S' : Nat → Bool) : ∀ (ts : List Tr) (i : Nat) (H : Hp), (∀ k t, ts[k]? = some t → t.hs = [] ∨ S (i + k) = S' (i + k)) → HSel S i ts H = HSel S' i ts H
  | [], i, H, _ => by simp [HSel]
  | t :: ts, i, H, h => by
    simp only [HSel]
    have h0 := h 0 t rfl
    have e : (bif S i then acts H t.hs else H) = bif S' i then acts H t.hs else H := by
      rcases h0 with h0 | h0
      · simp [h0, acts]
      · simp only [Nat.add_zero] at h0; rw [h0]
    rw [e]
    exact HSel_congr S S' ts (i + 1) _ fun k t' hk => by
      have := h (k + 1) t' (by simpa using hk)
      rwa [show i + (k + 1) = i + 1 + k by omega] at this

theorem acts_append (H : Hp) (a b : List Hop) : acts H (a ++ b) = acts (acts H a) b := by
  induction a generalizing H with
  | nil => rfl
  | cons x a ih => simp only [List.cons_append, acts]; exact ih _

theorem HSel_none : ∀ (ts : List Tr) (i : Nat) (H : Hp) (S : Nat → Bool), (∀ k, k < ts.length → S (i + k) = false) → HSel S i ts H = H
  | [], i, H, S, _ => by simp [HSel]
  | t :: ts, i, H, S, h => by
    simp only [HSel]
    have h0 := h 0 (by simp)
    simp only [Nat.add_zero] at h0
    rw [h0]
    exact HSel_none ts (i + 1) H S fun k hk => by
      have := h (k + 1) (by simp; omega)
      rwa [show i + (k + 1) = i + 1 + k by omega] at this

theorem HSel_succ : ∀ (ts : List Tr) (i : Nat) (H : Hp) (j : Nat) (t : Tr), ts[j]? = some t → HSel (upTo (i + j + 1)) i ts H = acts (HSel (upTo (i + j)) i ts H) t.hs
  | [], i, H, j, t, h => by simp at h
  | t1 :: ts, i, H, 0, t, h => by
    simp only [List.getElem?_cons_zero, Option.some.injEq] at h
    subst h
    simp only [HSel, Nat.add_zero]
    have e1 : upTo (i + 1) i = true := by simp [upTo]
    have e2 : upTo i i = false := by simp [upTo]
    rw [e1, e2]
    simp only [cond_true, cond_false]
    rw [HSel_none ts (i + 1) _ _ (fun k _ => decide_eq_false (by omega)), HSel_none ts (i + 1) _ _ (fun k _ => decide_eq_false (by omega))]
  | t1 :: ts, i, H, j + 1, t, h => by
    simp only [HSel]
    have e1 : upTo (i + (j + 1) + 1) i = true := decide_eq_true (by omega)
    have e2 : upTo (i + (j + 1)) i = true := decide_eq_true (by omega)
    rw [e1, e2]
    have := HSel_succ ts (i + 1) (acts H t1.hs) j t (by simpa using h)
    rw [show i + 1 + j = i + (j + 1) by omega] at this
    exact this

theorem FSel_succ (l : List Oper) (vs : List AV) (F : Fr) (j : Nat) (o : Oper) (v : AV) (h1 : l[j]? = some o) (h2 : vs[j]? = some v) : FSel (upTo (j + 1)) 0 l vs F = put (FSel (upTo j) 0 l vs F) o.dst v :=
  FSel_insert (upTo j) (upTo (j + 1)) l vs 0 F j o v h1 h2 (by simp [upTo]) (by simp [upTo]) (fun k hk => by simp [upTo]; omega) fun k o' hk _ hs => by simp [upTo] at hs; omega

/-- a trace, place by place -/
theorem DT.spell {K : Cfg} {all : List Oper} : ∀ {l : List Oper} {F F' : Fr} {H H' : Hp} {trs : List Tr}, DT K all l F H trs F' H' → ∃ vs : List AV, vs.length = l.length ∧ trs.length = l.length ∧
    FSel (upTo l.length) 0 l vs F = F' ∧ HSel (upTo l.length) 0 trs H = H' ∧
    ∀ (j : Nat) o, l[j]? = some o → ∃ tr v H2, trs[j]? = some tr ∧ vs[j]? = some v ∧ St K all o (FSel (upTo j) 0 l vs F) (HSel (upTo j) 0 trs H) tr v H2 := by
  intro l F F' H H' trs h
  induction h with
  | nil F H => exact ⟨[], rfl, rfl, rfl, rfl, fun j o h => by simp at h⟩
  | cons hst t ih =>
    rename_i o l F F' H H' H'' tr v trs
    obtain ⟨vs, h1, h2, h3, h4, h5⟩ := ih
    obtain ⟨hh, _, _⟩ := hst.heap
    subst hh
    have shiftF : ∀ j, FSel (upTo (j + 1)) 0 (o :: l) (v :: vs) F = FSel (upTo j) 0 l vs (put F o.dst v) := fun j => by
      simp only [FSel]
      have e : upTo (j + 1) 0 = true := by simp [upTo]
      rw [e]
      simp only [cond_true]
      have shift : ∀ (l : List Oper) (vs : List AV) (i : Nat) (F : Fr), FSel (upTo (j + 1)) (i + 1) l vs F = FSel (upTo j) i l vs F := by
        intro l
        induction l with
        | nil => intro vs i F; simp [FSel]
        | cons o l ih =>
          intro vs i F
          cases vs with
          | nil => simp [FSel]
          | cons x vs =>
            simp only [FSel]
            rw [show upTo (j + 1) (i + 1) = upTo j i by simp [upTo]]
            exact ih vs (i + 1) _
      exact shift l vs 0 _
    have shiftH : ∀ j, HSel (upTo (j + 1)) 0 (tr :: trs) H = HSel (upTo j) 0 trs (acts H tr.hs) := fun j => by
      simp only [HSel]
      have e : upTo (j + 1) 0 = true := by simp [upTo]
      rw [e]
      simp only [cond_true]
      have shift : ∀ (l : List Tr) (i : Nat) (H : Hp), HSel (upTo (j + 1)) (i + 1) l H = HSel (upTo j) i l H := by
        intro l
        induction l with
        | nil => intro i H; simp [HSel]
        | cons t l ih =>
          intro i H
          simp only [HSel]
          rw [show upTo (j + 1) (i + 1) = upTo j i by simp [upTo]]
          exact ih (i + 1) _
      exact shift trs 0 _
    refine ⟨v :: vs, by simp [h1], by simp [h2], ?_, ?_, fun j o' hj => ?_⟩
    · rw [List.length_cons, shiftF]; exact h3
    · rw [List.length_cons, shiftH]; exact h4
    · cases j with
      | zero =>
        simp only [List.getElem?_cons_zero, Option.some.injEq] at hj
        subst hj
        refine ⟨tr, v, acts H tr.hs, rfl, rfl, ?_⟩
        have eF : FSel (upTo 0) 0 (o :: l) (v :: vs) F = F := by
          rw [FSel_congr (upTo 0) (fun _ => false) _ _ _ _ (fun k _ => by simp [upTo])]
          have none : ∀ (l : List Oper) (vs : List AV) (i : Nat) (F : Fr), FSel (fun _ => false) i l vs F = F := by
            intro l
            induction l with
            | nil => intro vs i F; simp [FSel]
            | cons o l ih => intro vs i F; cases vs with
              | nil => simp [FSel]
              | cons x vs => simp only [FSel, cond_false]; exact ih vs _ F
          exact none _ _ _ _
        have eH : HSel (upTo 0) 0 (tr :: trs) H = H := HSel_none _ _ _ _ fun k _ => by simp [upTo]
        rw [eF, eH]
        exact hst
      | succ j =>
        obtain ⟨tr', v', H2, g1, g2, g3⟩ := h5 j o' (by simpa using hj)
        refine ⟨tr', v', H2, by simpa using g1, by simpa using g2, ?_⟩
        rw [shiftF, shiftH]
        exact g3

/-! ### the masks -/

def maskOf (acc : List Nat) (es : List Edge) : Nat := es.foldl (fun s e => bif Region.binds .any e then s ||| (2 ^ e.on ||| acc.getD e.on 0) else s) 0

theorem fold_bit (acc : List Nat) (i : Nat) : ∀ (es : List Edge) (s : Nat), (es.foldl (fun s e => bif Region.binds .any e then s ||| (2 ^ e.on ||| acc.getD e.on 0) else s) s).testBit i = true →
    s.testBit i = true ∨ ∃ e ∈ es, Region.binds .any e = true ∧ (e.on = i ∨ (acc.getD e.on 0).testBit i = true)
  | [], s, h => .inl h
  | e :: es, s, h => by
    simp only [List.foldl_cons] at h
    rcases fold_bit acc i es _ h with h | ⟨e', h1, h2⟩
    · cases hb : Region.binds .any e with
      | false => rw [hb] at h; exact .inl h
      | true =>
        rw [hb] at h
        simp only [cond_true, Nat.testBit_or, Bool.or_eq_true, Nat.testBit_two_pow, decide_eq_true_eq] at h
        rcases h with h | h | h
        · exact .inl h
        · exact .inr ⟨e, by simp, hb, .inl h⟩
        · exact .inr ⟨e, by simp, hb, .inr h⟩
    · exact .inr ⟨e', by simp [h1], h2⟩

theorem masks_spec : ∀ (l : List Oper) (acc : List Nat), ∃ t : List Nat, masks l acc = acc ++ t ∧ t.length = l.length ∧ ∀ (k : Nat) o, l[k]? = some o → t[k]? = some (maskOf (acc ++ t.take k) o.after.toList)
  | [], acc => ⟨[], by simp [masks], rfl, fun k o h => by simp at h⟩
  | o :: l, acc => by
    obtain ⟨t, h1, h2, h3⟩ := masks_spec l (acc ++ [maskOf acc o.after.toList])
    refine ⟨maskOf acc o.after.toList :: t, ?_, by simp [h2], fun k o' hk => ?_⟩
    · have : masks (o :: l) acc = masks l (acc ++ [maskOf acc o.after.toList]) := rfl
      rw [this, h1]; simp
    · cases k with
      | zero => simp at hk; subst hk; simp
      | succ k => have := h3 k o' (by simpa using hk); simpa using this

/-- what a mask says: whoever has all that stands ahead of an operation has what its mask names -/
theorem mask_sound {all : List Oper} {S : Nat → Bool} (hcl : ∀ (j : Nat) o, all[j]? = some o → S j = true → ∀ e ∈ o.after.toList, Region.binds .any e = true → S e.on = true) :
    ∀ (j : Nat) o, all[j]? = some o → (∀ e ∈ o.after.toList, Region.binds .any e = true → S e.on = true) → ∀ i, ((masks all []).getD j 0).testBit i = true → S i = true := by
  obtain ⟨t, h1, h2, h3⟩ := masks_spec all []
  simp only [List.nil_append] at h1 h3
  intro j
  induction j using Nat.strongRecOn with
  | _ j ih =>
    intro o ho he i hi
    have hm := h3 j o ho
    rw [h1] at hi
    simp only [List.getD, hm, Option.getD_some] at hi
    rcases fold_bit (t.take j) i o.after.toList 0 hi with h | ⟨e, hmem, hb, h⟩
    · simp at h
    · rcases h with rfl | h
      · exact he e hmem hb
      · have hlt : e.on < j ∧ e.on < t.length := by
          by_cases hc : e.on < (t.take j).length
          · simp at hc; omega
          · rw [List.getD, List.getElem?_eq_none (by omega)] at h; simp at h
        have hx : (t.take j).getD e.on 0 = (masks all []).getD e.on 0 := by
          rw [h1]; simp [List.getD, hlt.1]
        rw [hx] at h
        obtain ⟨o', ho'⟩ : ∃ o', all[e.on]? = some o' := ⟨_, List.getElem?_eq_getElem (by omega)⟩
        exact ih e.on hlt.1 o' ho' (hcl e.on o' ho' (he e hmem hb)) i h

theorem edges_back : ∀ (l : List Oper) (k : Nat), edgesOk k l = true → ∀ (j : Nat) o, l[j]? = some o → ∀ e ∈ o.after.toList, Region.binds .any e = true → e.on < k + j
  | [], k, _, j, o, h => by simp at h
  | x :: l, k, hk, j, o, h => by
    simp only [edgesOk, Bool.and_eq_true] at hk
    cases j with
    | zero =>
      simp at h; subst h
      intro e he hb
      have := (List.all_eq_true.1 hk.1) e he
      simp [hb] at this
      omega
    | succ j =>
      intro e he hb
      have := edges_back l (k + 1) hk.2 j o (by simpa using h) e he hb
      omega

/-- a heap read at a place that nothing touched -/
theorem touch_keeps : ∀ (hs : List Hop) (H : Hp) (i : Nat), touch i H.length hs = false → (acts H hs)[i]? = H[i]?
  | [], H, i, _ => rfl
  | h :: hs, H, i, ht => by
    simp only [acts]
    cases h with
    | set j b =>
      simp only [touch, Bool.or_eq_false_iff, beq_eq_false_iff_ne] at ht
      have := touch_keeps hs (H.set j (some b)) i (by simpa using ht.2)
      show (acts (H.set j (some b)) hs)[i]? = _
      rw [this, List.getElem?_set, if_neg ht.1]
    | new b =>
      simp only [touch, Bool.or_eq_false_iff, beq_eq_false_iff_ne] at ht
      have := touch_keeps hs (H ++ [some b]) i (by simpa using ht.2)
      show (acts (H ++ [some b]) hs)[i]? = _
      rw [this]
      by_cases hi : i < H.length
      · rw [List.getElem?_append_left hi]
      · rw [List.getElem?_eq_none (by simp; omega), List.getElem?_eq_none (by omega)]
    | app j b =>
      simp only [touch, Bool.or_eq_false_iff, beq_eq_false_iff_ne] at ht
      have := touch_keeps hs (H.set j none ++ [some b]) i (by simpa using ht.2.2)
      show (acts (H.set j none ++ [some b]) hs)[i]? = _
      rw [this]
      by_cases hi : i < H.length
      · rw [List.getElem?_append_left (by simpa using hi), List.getElem?_set, if_neg ht.1]
      · rw [List.getElem?_eq_none (by simp; omega), List.getElem?_eq_none (by omega)]

theorem touchR_keeps {C : Ctx} {hs : List Hop} {H : Hp} {r : Ref} (h : touchR r H.length hs = false) : cellsAt C (acts H hs) r = cellsAt C H r := by
  cases r with
  | rw i => simp only [cellsAt, touch_keeps hs H i h]
  | ro i => rfl

end Go.Am
