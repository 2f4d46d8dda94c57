/-
  A region that draws its order, against the model's.
-/
import Derived.Test.YtopenjkaifbnmaaAmOrder
namespace Go.Am
open Go.RowKit

section
variable {K : Cfg} {lps : List Code} {all : List Oper} {trs : List Tr} {vs : List AV} {F0 : Fr} {H0 : Hp} {ρ0 : Env} {w0 : World}

/-- what of two operations the look has said -/
theorem pair_of (hd : drawOk all trs = true) {i j : Nat} (hij : i < j) {x y : Oper} (hx : all[i]? = some x) (hy : all[j]? = some y) {a b : Tr} (ha : trs[i]? = some a) (hb : trs[j]? = some b) :
    ((masks all []).getD j 0).testBit i = true ∨ (apartT all x y = true ∧ apartH a b = true) := by
  simp only [drawOk, Bool.and_eq_true, List.all_eq_true] at hd
  have hj : j < all.length := (List.getElem?_eq_some_iff.1 hy).1
  have := hd.2 j (List.mem_range.2 hj) i (List.mem_range.2 hij)
  simp only [hx, hy, ha, hb, Bool.or_eq_true, Bool.and_eq_true] at this
  exact this

/-- what holds at every stage of the region -/
structure Stage (K : Cfg) (all : List Oper) (trs : List Tr) (vs : List AV) (F0 : Fr) (H0 : Hp) (ρ0 : Env) (w0 : World) (S : Nat → Bool) (a : Act) (w : World) : Prop where
  closed : ∀ (j : Nat) o, all[j]? = some o → S j = true → ∀ e ∈ o.after.toList, Region.binds .any e = true → S e.on = true
  rel : ∃ ρ, HRel K.C ρ (HSel S 0 trs H0) w ∧ FRel ρ (FSel S 0 all vs F0) a ∧ ρ0.le ρ ∧ Frm ρ0 w0 ρ w

/-- the heap at a stage is the text's heap ahead of the first writing operation that has not been carried out -/
theorem heap_at (hd : drawOk all trs = true) (hl : trs.length = all.length) (hh : ∀ (j : Nat) tr, trs[j]? = some tr → tr.hs = [] ∨ tr.kd = .write) {S : Nat → Bool}
    (hcl : ∀ (j : Nat) o, all[j]? = some o → S j = true → ∀ e ∈ o.after.toList, Region.binds .any e = true → S e.on = true) :
    ∃ p, HSel S 0 trs H0 = HSel (upTo p) 0 trs H0 ∧ (∀ (i : Nat) t, trs[i]? = some t → t.kd = .write → (S i = true ↔ i < p)) := by
  have opOf : ∀ {i : Nat} {t : Tr}, trs[i]? = some t → ∃ o, all[i]? = some o := fun {i t} h => ⟨_, List.getElem?_eq_getElem (by have := (List.getElem?_eq_some_iff.1 h).1; omega)⟩
  have chain : ∀ {i j : Nat} {a b : Tr}, i < j → trs[i]? = some a → trs[j]? = some b → a.kd = .write → b.kd = .write → S j = true → S i = true := by
    intro i j a b hij ha hb hka hkb hS
    obtain ⟨x, hx⟩ := opOf ha
    obtain ⟨y, hy⟩ := opOf hb
    rcases pair_of hd hij hx hy ha hb with h | ⟨_, h⟩
    · exact mask_sound hcl j y hy (hcl j y hy hS) i h
    · simp [apartH, hka, hkb] at h
  have ex : ∃ p, ∀ (i : Nat) t, trs[i]? = some t → t.kd = .write → (S i = true ↔ i < p) := by
    by_cases hw : ∃ i t, trs[i]? = some t ∧ t.kd = .write ∧ S i = false
    · have least : ∃ p t, trs[p]? = some t ∧ t.kd = .write ∧ S p = false ∧ ∀ i t', i < p → trs[i]? = some t' → t'.kd = .write → S i = true := by
        obtain ⟨i, hi⟩ := hw
        induction i using Nat.strongRecOn with
        | _ i ih =>
          obtain ⟨t, h1, h2, h3⟩ := hi
          by_cases hm : ∃ i' t', i' < i ∧ trs[i']? = some t' ∧ t'.kd = .write ∧ S i' = false
          · obtain ⟨i', t', hlt, g1, g2, g3⟩ := hm
            exact ih i' hlt ⟨t', g1, g2, g3⟩
          · refine ⟨i, t, h1, h2, h3, fun i' t' hlt g1 g2 => ?_⟩
            cases hs : S i' with
            | true => rfl
            | false => exact absurd ⟨i', t', hlt, g1, g2, hs⟩ hm
      obtain ⟨p, t, h1, h2, h3, h4⟩ := least
      refine ⟨p, fun i t' g1 g2 => ⟨fun hS => ?_, fun hlt => h4 i t' hlt g1 g2⟩⟩
      rcases Nat.lt_trichotomy i p with h | h | h
      · exact h
      · subst h; rw [h3] at hS; simp at hS
      · have := chain h h1 g1 h2 g2 hS
        rw [h3] at this; simp at this
    · refine ⟨trs.length, fun i t g1 g2 => ⟨fun _ => (List.getElem?_eq_some_iff.1 g1).1, fun _ => ?_⟩⟩
      cases hs : S i with
      | true => rfl
      | false => exact absurd ⟨i, t, g1, g2, hs⟩ hw
  obtain ⟨p, hp⟩ := ex
  refine ⟨p, HSel_congr S (upTo p) trs 0 H0 fun k t hk => ?_, hp⟩
  rcases hh k t hk with h | h
  · exact .inl h
  · refine .inr ?_
    have := hp k t hk h
    simp only [Nat.zero_add]
    cases hS : S k with
    | true => rw [eq_comm]; exact decide_eq_true (this.1 hS)
    | false =>
      rw [eq_comm]
      refine decide_eq_false fun hlt => ?_
      rw [this.2 hlt] at hS; simp at hS

/-- between two places of the text nothing touched a block -/
theorem reach_keeps (hst : ∀ (j : Nat) tr, trs[j]? = some tr → tr.len = (HSel (upTo j) 0 trs H0).length) {r : Ref} {p : Nat} : ∀ (q : Nat), p ≤ q → q ≤ trs.length →
    (∀ (i : Nat) t, p ≤ i → i < q → trs[i]? = some t → t.hs = [] ∨ touchR r t.len t.hs = false) → cellsAt K.C (HSel (upTo q) 0 trs H0) r = cellsAt K.C (HSel (upTo p) 0 trs H0) r := by
  intro q
  induction q with
  | zero =>
    intro hpq _ _
    have h0 : p = 0 := by omega
    rw [h0]
  | succ q ih =>
    intro hpq hq h
    by_cases he : p = q + 1
    · subst he; rfl
    · obtain ⟨t, ht⟩ : ∃ t, trs[q]? = some t := ⟨_, List.getElem?_eq_getElem (by omega)⟩
      have hs := HSel_succ trs 0 H0 q t ht
      simp only [Nat.zero_add] at hs
      rw [hs]
      have ih := ih (by omega) (by omega) fun i t' h1 h2 h3 => h i t' h1 (by omega) h3
      rcases h q t (by omega) (by omega) ht with h0 | h0
      · rw [h0]; exact ih
      · rw [hst q t ht] at h0
        rw [touchR_keeps h0]; exact ih

theorem stage_step (hK : Good K lps) (hd : drawOk all trs = true) (hvl : vs.length = all.length) (hl : trs.length = all.length)
    (htr : ∀ (j : Nat) o, all[j]? = some o → ∃ tr v H2, trs[j]? = some tr ∧ vs[j]? = some v ∧ St K all o (FSel (upTo j) 0 all vs F0) (HSel (upTo j) 0 trs H0) tr v H2)
    {S S' : Nat → Bool} {a : Act} {w : World} (hs : Stage K all trs vs F0 H0 ρ0 w0 S a w) {j : Nat} {o : Oper} (ho : all[j]? = some o) (hS : S j = false) (hS' : S' j = true) (hother : ∀ k, k ≠ j → S' k = S k)
    (hready : ∀ e ∈ o.after.toList, Region.binds .any e = true → S e.on = true) {next : Act → World → Prop} {Q : Exit → Act → World → Prop}
    (hn : ∀ a' w', Stage K all trs vs F0 H0 ρ0 w0 S' a' w' → next a' w') :
    if Region.wanted o (yielded all.toArray a.tmps) then o.wp K.C.P a w next Q ∨ (o.asks K.C.P a w ∧ LetsOut Q) else next (a.put o.dst undef) w := by
  obtain ⟨tr, v, H2, h1, h2, hst⟩ := htr j o ho
  obtain ⟨ρ, hH, hF, hle, hfr⟩ := hs.rel
  have hjl : j < all.length := (List.getElem?_eq_some_iff.1 ho).1
  have trOf : ∀ {i : Nat} {x : Oper}, all[i]? = some x → ∃ t, trs[i]? = some t := fun {i x} h => ⟨_, List.getElem?_eq_getElem (by have := (List.getElem?_eq_some_iff.1 h).1; omega)⟩
  have hhs : ∀ (i : Nat) t, trs[i]? = some t → t.hs = [] ∨ t.kd = .write := fun i t hi => by
    obtain ⟨x, hx⟩ : ∃ x, all[i]? = some x := ⟨_, List.getElem?_eq_getElem (by have := (List.getElem?_eq_some_iff.1 hi).1; omega)⟩
    obtain ⟨tr', v', H3, g1, g2, g3⟩ := htr i x hx
    rw [hi] at g1; simp at g1; subst g1
    exact g3.heap.2.2
  have hlen : ∀ (i : Nat) t, trs[i]? = some t → t.len = (HSel (upTo i) 0 trs H0).length := fun i t hi => by
    obtain ⟨x, hx⟩ : ∃ x, all[i]? = some x := ⟨_, List.getElem?_eq_getElem (by have := (List.getElem?_eq_some_iff.1 hi).1; omega)⟩
    obtain ⟨tr', v', H3, g1, g2, g3⟩ := htr i x hx
    rw [hi] at g1; simp at g1; subst g1
    exact g3.heap.2.1
  -- an earlier one that is named by the mask is listed; a later one whose mask names this one is not
  have early : ∀ i, ((masks all []).getD j 0).testBit i = true → S i = true := mask_sound hs.closed j o ho hready
  have late : ∀ {i : Nat} {x : Oper}, all[i]? = some x → ((masks all []).getD i 0).testBit j = true → S i = false := fun {i x} hx hm => by
    cases hSi : S i with
    | false => rfl
    | true =>
      have := mask_sound hs.closed i x hx (hs.closed i x hx hSi) j hm
      rw [hS] at this; simp at this
  -- the slots
  have hag : ∀ t ∈ looks all o, (FSel S 0 all vs F0).getD t .undef = (FSel (upTo j) 0 all vs F0).getD t .undef := fun t ht => by
    refine FSel_get S (upTo j) t all vs 0 F0 F0 rfl rfl fun k x hx hdst => ?_
    simp only [Nat.zero_add]
    obtain ⟨tx, htx⟩ := trOf hx
    rcases Nat.lt_trichotomy k j with h | h | h
    · rw [show upTo j k = true from decide_eq_true h]
      rcases pair_of hd h hx ho htx h1 with hm | ⟨hm, _⟩
      · exact early k hm
      · simp only [apartT, hdst, Bool.and_eq_true, Bool.not_eq_true'] at hm
        have := hm.1.1
        rw [List.contains_eq_mem, decide_eq_false_iff_not] at this
        exact absurd ht this
    · subst h
      rw [show upTo k k = false from decide_eq_false (by omega)]
      exact hS
    · rw [show upTo j k = false from decide_eq_false (by omega)]
      rcases pair_of hd h ho hx h1 htx with hm | ⟨hm, _⟩
      · exact late hx hm
      · simp only [apartT, hdst, Bool.and_eq_true, Bool.not_eq_true'] at hm
        have := hm.2
        rw [List.contains_eq_mem, decide_eq_false_iff_not] at this
        exact absurd ht this
  obtain ⟨p, hp, hpw⟩ := heap_at (H0 := H0) hd hl hhs hs.closed
  have hwrite : tr.kd = .write → HSel S 0 trs H0 = HSel (upTo j) 0 trs H0 := fun hk => by
    refine HSel_congr S (upTo j) trs 0 H0 fun k t ht => ?_
    rcases hhs k t ht with h | h
    · exact .inl h
    · refine .inr ?_
      simp only [Nat.zero_add]
      obtain ⟨x, hx⟩ : ∃ x, all[k]? = some x := ⟨_, List.getElem?_eq_getElem (by have := (List.getElem?_eq_some_iff.1 ht).1; omega)⟩
      rcases Nat.lt_trichotomy k j with hlt | hlt | hlt
      · rw [show upTo j k = true from decide_eq_true hlt]
        rcases pair_of hd hlt hx ho ht h1 with hm | ⟨_, hm⟩
        · exact early k hm
        · simp [apartH, h, hk] at hm
      · subst hlt; rw [show upTo k k = false from decide_eq_false (by omega)]; exact hS
      · rw [show upTo j k = false from decide_eq_false (by omega)]
        rcases pair_of hd hlt ho hx h1 ht with hm | ⟨_, hm⟩
        · exact late hx hm
        · simp [apartH, h, hk] at hm
  have hread : ∀ r, tr.kd = .read r → cellsAt K.C (HSel S 0 trs H0) r = cellsAt K.C (HSel (upTo j) 0 trs H0) r := fun r hk => by
    rw [hp]
    rcases Nat.le_total p j with hpj | hpj
    · refine (reach_keeps hlen j hpj (by omega) fun i t h3 h4 h5 => ?_).symm
      rcases hhs i t h5 with h | h
      · exact .inl h
      · refine .inr ?_
        obtain ⟨x, hx⟩ : ∃ x, all[i]? = some x := ⟨_, List.getElem?_eq_getElem (by have := (List.getElem?_eq_some_iff.1 h5).1; omega)⟩
        rcases pair_of hd h4 hx ho h5 h1 with hm | ⟨_, hm⟩
        · have := (hpw i t h5 h).1 (early i hm); omega
        · simpa [apartH, h, hk] using hm
    · by_cases hpl : p ≤ trs.length
      · refine reach_keeps hlen p hpj hpl fun i t h3 h4 h5 => ?_
        rcases hhs i t h5 with h | h
        · exact .inl h
        · refine .inr ?_
          have hji : j < i := by
            rcases Nat.lt_or_ge j i with h | h
            · exact h
            · obtain rfl : i = j := by omega
              rw [h1] at h5; simp at h5; subst h5; rw [hk] at h; simp at h
          obtain ⟨x, hx⟩ : ∃ x, all[i]? = some x := ⟨_, List.getElem?_eq_getElem (by have := (List.getElem?_eq_some_iff.1 h5).1; omega)⟩
          rcases pair_of hd hji ho hx h1 h5 with hm | ⟨_, hm⟩
          · have := late hx hm
            rw [(hpw i t h5 h).2 h4] at this; simp at this
          · simpa [apartH, h, hk] using hm
      · have e : HSel (upTo p) 0 trs H0 = HSel (upTo trs.length) 0 trs H0 := HSel_congr _ _ _ _ _ fun k t hk' => .inr (by
          have := (List.getElem?_eq_some_iff.1 hk').1
          simp only [Nat.zero_add]
          rw [show upTo p k = true from decide_eq_true (by omega), show upTo trs.length k = true from decide_eq_true (by omega)])
        rw [e]
        refine reach_keeps hlen trs.length (by omega) (Nat.le_refl _) fun i t h3 h4 h5 => ?_
        rcases hhs i t h5 with h | h
        · exact .inl h
        · refine .inr ?_
          have hji : j < i := by
            rcases Nat.lt_or_ge j i with h | h
            · exact h
            · obtain rfl : i = j := by omega
              rw [h1] at h5; simp at h5; subst h5; rw [hk] at h; simp at h
          obtain ⟨x, hx⟩ : ∃ x, all[i]? = some x := ⟨_, List.getElem?_eq_getElem (by have := (List.getElem?_eq_some_iff.1 h5).1; omega)⟩
          rcases pair_of hd hji ho hx h1 h5 with hm | ⟨_, hm⟩
          · have := late hx hm
            rw [(hpw i t h5 h).2 (by omega)] at this; simp at this
          · simpa [apartH, h, hk] using hm
  obtain ⟨tr', hst'⟩ := hst.move hag hwrite hread
  -- what it becomes
  have hF' : FSel S' 0 all vs F0 = put (FSel S 0 all vs F0) o.dst v := FSel_insert S S' all vs 0 F0 j o v ho h2 (by simpa using hS) (by simpa using hS') (fun k hk => hother k (by simpa using hk)) fun k x hk hx hSk => by
    simp only [Nat.zero_add] at hSk
    obtain ⟨tx, htx⟩ := trOf hx
    rcases pair_of hd hk ho hx h1 htx with hm | ⟨hm, _⟩
    · have := late hx hm; rw [hSk] at this; simp at this
    · cases hdst : o.dst with
      | none => exact .inl rfl
      | some d =>
        refine .inr fun e => ?_
        simp only [apartT, hdst, Bool.and_eq_true, Bool.not_eq_true', ← e] at hm
        have := hm.1.2
        simp at this
  have hH' : HSel S' 0 trs H0 = acts (HSel S 0 trs H0) tr.hs := by
    rcases hhs j tr h1 with h | h
    · rw [h]
      refine HSel_congr S' S trs 0 H0 fun k t ht => ?_
      by_cases hkj : k = j
      · subst hkj; rw [h1] at ht; simp at ht; subst ht; exact .inl h
      · exact .inr (by simp only [Nat.zero_add]; exact hother k hkj)
    · rw [hwrite h]
      have := HSel_succ trs 0 H0 j tr h1
      simp only [Nat.zero_add] at this
      rw [← this]
      refine HSel_congr S' (upTo (j + 1)) trs 0 H0 fun k t ht => ?_
      rcases hhs k t ht with h' | h'
      · exact .inl h'
      · refine .inr ?_
        simp only [Nat.zero_add]
        by_cases hkj : k = j
        · subst hkj; rw [hS', show upTo (k + 1) k = true from decide_eq_true (by omega)]
        · rw [hother k hkj]
          obtain ⟨x, hx⟩ : ∃ x, all[k]? = some x := ⟨_, List.getElem?_eq_getElem (by have := (List.getElem?_eq_some_iff.1 ht).1; omega)⟩
          rcases Nat.lt_or_ge k j with hlt | hge
          · rw [show upTo (j + 1) k = true from decide_eq_true (by omega)]
            rcases pair_of hd hlt hx ho ht h1 with hm | ⟨_, hm⟩
            · exact early k hm
            · simp [apartH, h, h'] at hm
          · rw [show upTo (j + 1) k = false from decide_eq_false (by omega)]
            rcases pair_of hd (by omega : j < k) ho hx h1 ht with hm | ⟨_, hm⟩
            · exact late hx hm
            · simp [apartH, h, h'] at hm
  refine hst'.sound hK hH hF fun ρ' cv w' g1 g2 g3 g4 => hn _ _ ⟨?_, ρ', ?_, ?_, Env.le_trans hle g3, hfr.trans g4⟩
  · intro k x hx hSk e he hb
    by_cases hek : e.on = j
    · rw [hek]; exact hS'
    · rw [hother _ hek]
      by_cases hkj : k = j
      · subst hkj
        rw [ho] at hx; simp at hx; subst hx
        exact hready e he hb
      · rw [hother k hkj] at hSk
        exact hs.closed k x hx hSk e he hb
  · rw [hH']; exact g1
  · rw [hF']; exact (hF.mono g3).put _ _ _ g2

end
end Go.Am
