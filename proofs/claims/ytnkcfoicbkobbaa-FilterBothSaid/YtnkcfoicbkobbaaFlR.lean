/-
  FilterBoth: the summaries are right; the law.
-/
import Derived.Test.YtnkcfoicbkobbaaFlQ
namespace Go.Am
open Go.Proofs
set_option maxRecDepth 100000
section
variable {C : Ctx}
theorem DOut.cong {f : FuncId} {args : List EV} {H : DHp} {v v' : EV} {hs hs' : List DHop} (h : DOut C f args H v hs) (hv : vV C.G v = vV C.G v') (hh : hs.map (vHop C.G) = hs'.map (vHop C.G)) : DOut C f args H v' hs' := by
  unfold DOut at *
  rw [← hv, ← hh]; exact h
end
theorem mkAt_app {cs ds : List AV} {n m : Nat} (h : okI .i64 cs 0 (n * 3) = true) (h2 : okI .i64 ds 0 (m * 3) = true) (a : Nat) : mkAt (ct2 cs n ds m) (n + m) a = mkAt cs n a ||| mkAt ds m a ∧ vlAt (ct2 cs n ds m) (n + m) a = vlAt cs n a ||| vlAt ds m a := by
  have t := fun i => ct2_tst (i := i) h h2
  have key : ∀ (P : List AV → Nat → Bool), (∀ i, i < n → P (ct2 cs n ds m) i = P cs i) → (∀ i, n ≤ i → i < n + m → P (ct2 cs n ds m) i = P ds (i - n)) →
      ((∃ i, i < n + m ∧ tA (ct2 cs n ds m) i = (a : Int) ∧ P (ct2 cs n ds m) i = true) ↔ (∃ i, i < n ∧ tA cs i = (a : Int) ∧ P cs i = true) ∨ ∃ i, i < m ∧ tA ds i = (a : Int) ∧ P ds i = true) := by
    intro P p1 p2
    constructor
    · rintro ⟨i, hi, ha, hp⟩
      by_cases e : i < n
      · exact .inl ⟨i, e, by rw [← ((t i).1 e).1]; exact ha, by rw [← p1 i e]; exact hp⟩
      · exact .inr ⟨i - n, by omega, by rw [← ((t i).2 (by omega) hi).1]; exact ha, by rw [← p2 i (by omega) hi]; exact hp⟩
    · rintro (⟨i, hi, ha, hp⟩ | ⟨i, hi, ha, hp⟩)
      · exact ⟨i, by omega, by rw [((t i).1 hi).1]; exact ha, by rw [p1 i hi]; exact hp⟩
      · have e : n + i - n = i := by omega
        refine ⟨n + i, by omega, ?_, ?_⟩
        · rw [((t (n + i)).2 (by omega) (by omega)).1, e]; exact ha
        · rw [p2 (n + i) (by omega) (by omega), e]; exact hp
  constructor
  · apply bits; intro j
    rw [Nat.testBit_or, Bool.eq_iff_iff, Bool.or_eq_true, mk_bit, mk_bit, mk_bit]
    refine key (fun l i => (tmN l i).testBit j) (fun i hi => ?_) (fun i h1 h2 => ?_)
    · unfold tmN; rw [((t i).1 hi).2.1]
    · unfold tmN; rw [((t i).2 h1 h2).2.1]
  · apply bits; intro j
    rw [Nat.testBit_or, Bool.eq_iff_iff, Bool.or_eq_true, vl_bit, vl_bit, vl_bit]
    refine key (fun l i => (tvN l i).testBit j) (fun i hi => ?_) (fun i h1 h2 => ?_)
    · unfold tvN; rw [((t i).1 hi).2.2]
    · unfold tvN; rw [((t i).2 h1 h2).2.2]
theorem lo_app {cs ds : List AV} {n m : Nat} (h : okI .i64 cs 0 (n * 3) = true) (h2 : okI .i64 ds 0 (m * 3) = true) : loF (ct2 cs n ds m) (n + m) = if loF cs n > loF ds m then loF cs n else loF ds m := by
  have t := fun i => ct2_tst (i := i) h h2
  have a1 : loF cs n ≤ loF (ct2 cs n ds m) (n + m) := by
    by_cases e : loF cs n = 0
    · omega
    · obtain ⟨i, hi, q⟩ := loF_is e
      have := loF_le (cs := ct2 cs n ds m) (n := n + m) (i := i) (by omega)
      rw [((t i).1 hi).1] at this
      omega
  have a2 : loF ds m ≤ loF (ct2 cs n ds m) (n + m) := by
    by_cases e : loF ds m = 0
    · omega
    · obtain ⟨i, hi, q⟩ := loF_is e
      have := loF_le (cs := ct2 cs n ds m) (n := n + m) (i := n + i) (by omega)
      rw [((t (n + i)).2 (by omega) (by omega)).1, show n + i - n = i by omega] at this
      omega
  have a3 : loF (ct2 cs n ds m) (n + m) ≤ loF cs n ∨ loF (ct2 cs n ds m) (n + m) ≤ loF ds m := by
    by_cases e : loF (ct2 cs n ds m) (n + m) = 0
    · omega
    · obtain ⟨i, hi, q⟩ := loF_is e
      by_cases e2 : i < n
      · have := loF_le (cs := cs) e2
        rw [((t i).1 e2).1] at q
        omega
      · have := loF_le (cs := ds) (n := m) (i := i - n) (by omega)
        rw [((t i).2 (by omega) hi).1] at q
        omega
  split <;> omega
/-- the order of the two is all the same -/
theorem ct2_swap {cs ds : List AV} {n m : Nat} (h : okI .i64 cs 0 (n * 3) = true) (h2 : okI .i64 ds 0 (m * 3) = true) (hm : mayB cs n = true) (hm2 : mayB ds m = true) : mayF (ct2 cs n ds m) (n + m) = mayF (ct2 ds m cs n) (m + n) ∧ ppC (ct2 cs n ds m) (n + m) 64 = ppC (ct2 ds m cs n) (m + n) 64 ∧ ppK (ct2 cs n ds m) (n + m) 64 = ppK (ct2 ds m cs n) (m + n) 64 := by
  have o1 := (okT_iff.1 (ct2_okT h h2 hm hm2)).2.2.2
  have o2 := (okT_iff.1 (ct2_okT h2 h hm2 hm)).2.2.2
  refine ⟨?_, pp_congr o1 o2 (fun a => ?_) ?_⟩
  · rw [Bool.eq_iff_iff]
    constructor
    · intro q; refine by_may o2 fun a => ⟨_, (byF_app h2 h).2 ((byF_app h h2).1 (may_byF o1 q a)).symm⟩
    · intro q; refine by_may o1 fun a => ⟨_, (byF_app h h2).2 ((byF_app h2 h).1 (may_byF o2 q a)).symm⟩
  · obtain ⟨e1, e2⟩ := mkAt_app h h2 a
    obtain ⟨e3, e4⟩ := mkAt_app h2 h a
    rw [e1, e2, e3, e4, Nat.or_comm, Nat.or_comm (vlAt cs n a)]
    exact ⟨rfl, rfl⟩
  · rw [lo_app h h2, lo_app h2 h]; split <;> split <;> omega
theorem stF_comm {cs ds : List AV} {n m : Nat} : stF cs n ds m = stF ds m cs n := by
  unfold stF
  cases e : Nat.beq n m with
  | false =>
    have : Nat.beq m n = false := by
      cases q : Nat.beq m n with
      | false => rfl
      | true => rw [Nat.eq_of_beq_eq_true q, Nat.beq_refl] at e; cases e
    rw [this]; rfl
  | true =>
    have := Nat.eq_of_beq_eq_true e
    subst this
    rw [Nat.beq_refl]
    congr 1
    refine allTo_congr fun i _ => ?_
    unfold rowEq
    rw [Bool.beq_comm (a := tA cs i), Bool.beq_comm (a := tM cs i), Bool.beq_comm (a := tV cs i)]
/-! ### values of the tests -/
theorem cat_full {cs ds : List AV} {n m : Nat} (h : okI .i64 cs 0 (n * 3) = true) (h2 : okI .i64 ds 0 (m * 3) = true) : ctT (subL cs 0 (n * 3) ++ subL ds 0 (m * 3)) (n + m) = ct2 cs n ds m := ctT_all (ct2_okI h h2).1
theorem som_cat {cs ds : List AV} {n m : Nat} (h : okI .i64 cs 0 (n * 3) = true) (h2 : okI .i64 ds 0 (m * 3) = true) (hm : mayB cs n = true) (hm2 : mayB ds m = true) :
    somU [.agg (subL cs 0 (n * 3) ++ subL ds 0 (m * 3)), .int .i64 ((n + m : Nat) : Int)] = mayF (ct2 cs n ds m) (n + m) ∧
    (mayF (ct2 cs n ds m) (n + m) = true → ppU [.agg (subL cs 0 (n * 3) ++ subL ds 0 (m * 3)), .int .i64 ((n + m : Nat) : Int)] = ppC (ct2 cs n ds m) (n + m) 64 ∧ ppN [.agg (subL cs 0 (n * 3) ++ subL ds 0 (m * 3)), .int .i64 ((n + m : Nat) : Int)] = ppK (ct2 cs n ds m) (n + m) 64) := by
  have o1 := (okT_iff.1 (ct2_okT h h2 hm hm2)).2.2.2
  refine ⟨?_, fun e => ?_⟩
  · simp only [somU, int_nat]; rw [cat_full h h2, somF_may o1]
  · simp only [ppU, ppN, int_nat]; rw [cat_full h h2, if_pos e, if_pos e]; exact ⟨rfl, rfl⟩
theorem som_one {cs : List AV} {n : Nat} (h : okI .i64 cs 0 (n * 3) = true) (hm : mayB cs n = true) : somU [.agg cs, .int .i64 (n : Int)] = mayF (ctT cs n) n ∧ (mayF (ctT cs n) n = true → ppU [.agg cs, .int .i64 (n : Int)] = ppC (ctT cs n) n 64 ∧ ppN [.agg cs, .int .i64 (n : Int)] = ppK (ctT cs n) n 64) := by
  have o1 := (okT_iff.1 (ct_okT h hm)).2.2.2
  refine ⟨?_, fun e => ?_⟩
  · simp only [somU, int_nat]; rw [somF_may o1]
  · simp only [ppU, ppN, int_nat]; rw [if_pos e, if_pos e]; exact ⟨rfl, rfl⟩
/-! ### the summaries -/
theorem boT_ok (G : Nat → List AV) (B : Nat) : DSumOk (⟨Try.prog, G, B⟩ : Ctx) 21 boT := by
  intro args H o ho
  unfold boT at ho
  split at ho
  · rename_i x y
    split at ho
    · rename_i l n l2 m hx hy
      simp only [Option.some.injEq] at ho
      subst ho
      intro h1 h2
      have h1' : okI .i64 (vL G l) 0 (vN G n * 3) = true := h1
      have h2' : okI .i64 (vL G l2) 0 (vN G m * 3) = true := h2
      have b0 := boS_ok G B [x, y] H
      unfold boS at b0
      simp only [hx, hy] at b0
      have base := b0 _ rfl h1 h2
      have ev : ∀ (E : Int) (K : Nat) (Cc : List AV), boE (vL G l) (vN G n) (vL G l2) (vN G m) = E → boK (vL G l) (vN G n) (vL G l2) (vN G m) = K → boC (vL G l) (vN G n) (vL G l2) (vN G m) = Cc → ∀ (v : EV) (b : DBlk), vV G v = .tup [.slice true (.rw H.length) 0 K, .int .i64 E] → vBlk G b = ⟨3, Cc⟩ → DOut (⟨Try.prog, G, B⟩ : Ctx) 21 [x, y] H v [.new b] := by
        intro E K Cc e1 e2 e3 v b hv hb
        refine base.cong ?_ ?_
        · rw [hv]; simp only [vV, vVs, vR, vN, vI, vL, boKU, boEU, int_nat, e1, e2]
        · simp only [List.map_cons, List.map_nil, vHop]; rw [hb]; simp only [vBlk, vL, vVs, vV, vI, vN, boCU, int_nat, e3]
      have em : ∀ (l : EL) (n : EN), vB G (.uf 1604 mayU [.agg l, .int .i64 (.ofN n)]) = mayB (vL G l) (vN G n) := fun l n => by simp only [vB, vVs, vV, vL, vI, mayU, int_nat]
      refine ⟨fun e1 => ⟨fun e2 => ?_, fun e2 => ?_⟩, fun e1 => ?_⟩
      · have e1' : mayB (vL G l) (vN G n) = true := by rw [← em]; exact e1
        have e2' : mayB (vL G l2) (vN G m) = true := by rw [← em]; exact e2
        obtain ⟨s1, s2⟩ := som_cat h1' h2' e1' e2'
        refine ⟨fun e3 => ?_, fun e3 => ?_⟩
        · have e3' : mayF (ct2 (vL G l) (vN G n) (vL G l2) (vN G m)) (vN G n + vN G m) = true := by rw [← s1]; exact e3
          obtain ⟨p1, p2⟩ := s2 e3'
          refine ⟨fun _ => ⟨fun _ => ⟨fun e4 => ?_, fun e4 => ?_⟩, fun _ h => by cases h⟩, fun _ h => by cases h⟩
          · have e4 : decide (((ppN [.agg (subL (vL G l) 0 (vN G n * 3) ++ subL (vL G l2) 0 (vN G m * 3)), .int .i64 ((vN G n + vN G m : Nat) : Int)] : Nat) : Int) > 8) = true := e4
            rw [p2] at e4
            have e4 := of_decide_eq_true e4
            have e : boE (vL G l) (vN G n) (vL G l2) (vN G m) = 3 := by simp only [boE, e1', e2', e3', Bool.and_self, if_true]; rw [if_pos (by omega)]
            exact ev 3 0 [] e (by unfold boK; rw [e]; rfl) (by unfold boC; rw [e]; rfl) _ _ rfl rfl
          · have e4 : decide (((ppN [.agg (subL (vL G l) 0 (vN G n * 3) ++ subL (vL G l2) 0 (vN G m * 3)), .int .i64 ((vN G n + vN G m : Nat) : Int)] : Nat) : Int) > 8) = false := e4
            rw [p2] at e4
            have e4 := of_decide_eq_false e4
            have e : boE (vL G l) (vN G n) (vL G l2) (vN G m) = 0 := by simp only [boE, e1', e2', e3', Bool.and_self, if_true]; rw [if_neg (by omega)]
            refine ev 0 _ _ e (by unfold boK; rw [if_pos e]) (by unfold boC; rw [if_pos e]) _ _ ?_ ?_
            · show AV.tup [.slice true (.rw H.length) 0 (ppN [.agg (subL (vL G l) 0 (vN G n * 3) ++ subL (vL G l2) 0 (vN G m * 3)), .int .i64 ((vN G n + vN G m : Nat) : Int)]), .int .i64 0] = _
              rw [p2]
            · show (⟨3, ppU [.agg (subL (vL G l) 0 (vN G n * 3) ++ subL (vL G l2) 0 (vN G m * 3)), .int .i64 ((vN G n + vN G m : Nat) : Int)]⟩ : Blk) = _
              rw [p1]
        · have e3' : mayF (ct2 (vL G l) (vN G n) (vL G l2) (vN G m)) (vN G n + vN G m) = false := by rw [← s1]; exact e3
          have e : boE (vL G l) (vN G n) (vL G l2) (vN G m) = 210 := by simp [boE, e1', e2', e3']
          exact ev 210 0 [] e (by unfold boK; rw [e]; rfl) (by unfold boC; rw [e]; rfl) _ _ rfl rfl
      · have e2' : mayB (vL G l2) (vN G m) = false := by rw [← em]; exact e2
        have e : boE (vL G l) (vN G n) (vL G l2) (vN G m) = 2 := by simp [boE, e2']
        exact ev 2 0 [] e (by unfold boK; rw [e]; rfl) (by unfold boC; rw [e]; rfl) _ _ rfl rfl
      · have e1' : mayB (vL G l) (vN G n) = false := by rw [← em]; exact e1
        have e : boE (vL G l) (vN G n) (vL G l2) (vN G m) = 2 := by simp [boE, e1']
        exact ev 2 0 [] e (by unfold boK; rw [e]; rfl) (by unfold boC; rw [e]; rfl) _ _ rfl rfl
    · simp at ho
  · simp at ho
theorem apT_ok (G : Nat → List AV) (B : Nat) : DSumOk (⟨Try.prog, G, B⟩ : Ctx) 20 apT := by
  intro args H o ho
  unfold apT at ho
  split at ho
  · rename_i x y
    split at ho
    · rename_i l n l2 m hx hy
      simp only [Option.some.injEq] at ho
      subst ho
      intro h1 h2
      have h1' : okI .i64 (vL G l) 0 (vN G n * 3) = true := h1
      have h2' : okI .i64 (vL G l2) 0 (vN G m * 3) = true := h2
      have b0 := apS_ok G B [x, y] H
      unfold apS at b0
      simp only [hx, hy] at b0
      have base := b0 _ rfl h1 h2
      have ev : ∀ (E : Int) (K : Bool), apE (vL G l) (vN G n) (vL G l2) (vN G m) = E → apB (vL G l) (vN G n) (vL G l2) (vN G m) = K → ∀ (v : EV), vV G v = .tup [.bool K, .int .i64 E] → DOut (⟨Try.prog, G, B⟩ : Ctx) 20 [x, y] H v [] := by
        intro E K e1 e2 v hv
        refine base.cong ?_ rfl
        rw [hv]; simp only [vV, vVs, vB, vR, vN, vI, vL, apBU, apEU, int_nat, e1, e2]
      have em : ∀ (l : EL) (n : EN), vB G (.uf 1604 mayU [.agg l, .int .i64 (.ofN n)]) = mayB (vL G l) (vN G n) := fun l n => by simp only [vB, vVs, vV, vL, vI, mayU, int_nat]
      refine ⟨fun e1 => ⟨fun e2 => ?_, fun e2 => ?_⟩, fun e1 => ?_⟩
      · have e1' : mayB (vL G l) (vN G n) = true := by rw [← em]; exact e1
        have e2' : mayB (vL G l2) (vN G m) = true := by rw [← em]; exact e2
        obtain ⟨s1, s2⟩ := som_cat h1' h2' e1' e2'
        refine ev 0 (!mayF (ct2 (vL G l) (vN G n) (vL G l2) (vN G m)) (vN G n + vN G m)) (by simp [apE, e1', e2']) (by simp [apB, e1', e2']) _ ?_
        show AV.tup [.bool (!somU [.agg (subL (vL G l) 0 (vN G n * 3) ++ subL (vL G l2) 0 (vN G m * 3)), .int .i64 ((vN G n + vN G m : Nat) : Int)]), .int .i64 0] = _
        rw [s1]
      · have e2' : mayB (vL G l2) (vN G m) = false := by rw [← em]; exact e2
        exact ev 2 false (by simp [apE, e2']) (by simp [apB, e2']) _ rfl
      · have e1' : mayB (vL G l) (vN G n) = false := by rw [← em]; exact e1
        exact ev 2 false (by simp [apE, e1']) (by simp [apB, e1']) _ rfl
    · simp at ho
  · simp at ho
theorem catO_val {G : Nat → List AV} {l l2 : EL} {n m : EN} (h : okI .i64 (vL G l) 0 (vN G n * 3) = true) (h2 : okI .i64 (vL G l2) 0 (vN G m * 3) = true) (hm : mayB (vL G l) (vN G n) = true) (hm2 : mayB (vL G l2) (vN G m) = true) :
    somU [.agg (vL G (catO l n l2 m).1), .int .i64 (vN G (catO l n l2 m).2 : Int)] = mayF (ct2 (vL G l) (vN G n) (vL G l2) (vN G m)) (vN G n + vN G m) ∧ (mayF (ct2 (vL G l) (vN G n) (vL G l2) (vN G m)) (vN G n + vN G m) = true →
      ppU [.agg (vL G (catO l n l2 m).1), .int .i64 (vN G (catO l n l2 m).2 : Int)] = ppC (ct2 (vL G l) (vN G n) (vL G l2) (vN G m)) (vN G n + vN G m) 64 ∧ ppN [.agg (vL G (catO l n l2 m).1), .int .i64 (vN G (catO l n l2 m).2 : Int)] = ppK (ct2 (vL G l) (vN G n) (vL G l2) (vN G m)) (vN G n + vN G m) 64) := by
  unfold catO
  cases sndV l with
  | false => exact som_cat h h2 hm hm2
  | true =>
    obtain ⟨s1, s2⟩ := som_cat h2 h hm2 hm
    obtain ⟨w1, w2, w3⟩ := ct2_swap h h2 hm hm2
    rw [w1, w2, w3]
    exact ⟨s1, s2⟩
theorem wiT_ok (G : Nat → List AV) (B : Nat) : DSumOk (⟨Try.prog, G, B⟩ : Ctx) 22 wiT := by
  intro args H o ho
  unfold wiT at ho
  split at ho
  · rename_i x y
    split at ho
    · rename_i l n l2 m hx hy
      simp only [Option.some.injEq] at ho
      subst ho
      intro h1 h2
      have h1' : okI .i64 (vL G l) 0 (vN G n * 3) = true := h1
      have h2' : okI .i64 (vL G l2) 0 (vN G m * 3) = true := h2
      have b0 := wiS_ok G B [x, y] H
      unfold wiS at b0
      simp only [hx, hy] at b0
      have base := b0 _ rfl h1 h2
      have ev : ∀ (E : Int) (K : Bool), apE (vL G l) (vN G n) (vL G l2) (vN G m) = E → wiB (vL G l) (vN G n) (vL G l2) (vN G m) = K → ∀ (v : EV), vV G v = .tup [.bool K, .int .i64 E] → DOut (⟨Try.prog, G, B⟩ : Ctx) 22 [x, y] H v [] := by
        intro E K e1 e2 v hv
        refine base.cong ?_ rfl
        rw [hv]; simp only [vV, vVs, vB, vR, vN, vI, vL, wiBU, apEU, int_nat, e1, e2]
      have em : ∀ (l : EL) (n : EN), vB G (.uf 1604 mayU [.agg l, .int .i64 (.ofN n)]) = mayB (vL G l) (vN G n) := fun l n => by simp only [vB, vVs, vV, vL, vI, mayU, int_nat]
      refine ⟨fun e1 => ⟨fun e2 => ⟨fun e3 => ⟨fun e4 => ?_, fun e4 => ?_⟩, fun e3 => ?_⟩, fun e2 => ?_⟩, fun e1 => ?_⟩
      · have e1' : mayB (vL G l) (vN G n) = true := by rw [← em]; exact e1
        have e2' : mayB (vL G l2) (vN G m) = true := by rw [← em]; exact e2
        obtain ⟨s1, s2⟩ := catO_val h1' h2' e1' e2'
        obtain ⟨t1, t2⟩ := som_one h1' e1'
        have e3' : mayF (ctT (vL G l) (vN G n)) (vN G n) = true := by rw [← t1]; exact e3
        have e4' : mayF (ct2 (vL G l) (vN G n) (vL G l2) (vN G m)) (vN G n + vN G m) = true := by rw [← s1]; exact e4
        obtain ⟨p1, p2⟩ := s2 e4'
        obtain ⟨p3, p4⟩ := t2 e3'
        have o1 := ppC_okT (okT_iff.1 (ct2_okT h1' h2' e1' e2')).2.2.2
        have o2 := ppC_okT (okT_iff.1 (ct_okT h1' e1')).2.2.2
        refine ev 0 _ (by simp [apE, e1', e2']) rfl _ ?_
        show AV.tup [.bool (stU [.agg (ppU [.agg (vL G (catO l n l2 m).1), .int .i64 (vN G (catO l n l2 m).2 : Int)]), .int .i64 (ppN [.agg (vL G (catO l n l2 m).1), .int .i64 (vN G (catO l n l2 m).2 : Int)] : Int), .agg (ppU [.agg (vL G l), .int .i64 (vN G n : Int)]), .int .i64 (ppN [.agg (vL G l), .int .i64 (vN G n : Int)] : Int)]), .int .i64 0] = _
        rw [p1, p2, p3, p4, stU_eq (okT_iff.1 o1).1 (okT_iff.1 o2).1, stF_comm]
        simp [wiB, e1', e2', e3', e4']
      · have e1' : mayB (vL G l) (vN G n) = true := by rw [← em]; exact e1
        have e2' : mayB (vL G l2) (vN G m) = true := by rw [← em]; exact e2
        have e3' : mayF (ctT (vL G l) (vN G n)) (vN G n) = true := by rw [← (som_one h1' e1').1]; exact e3
        have e4' : mayF (ct2 (vL G l) (vN G n) (vL G l2) (vN G m)) (vN G n + vN G m) = false := by rw [← (catO_val h1' h2' e1' e2').1]; exact e4
        exact ev 0 false (by simp [apE, e1', e2']) (by simp [wiB, e1', e2', e3', e4']) _ rfl
      · have e1' : mayB (vL G l) (vN G n) = true := by rw [← em]; exact e1
        have e2' : mayB (vL G l2) (vN G m) = true := by rw [← em]; exact e2
        have e3' : mayF (ctT (vL G l) (vN G n)) (vN G n) = false := by rw [← (som_one h1' e1').1]; exact e3
        exact ev 0 true (by simp [apE, e1', e2']) (by simp [wiB, e1', e2', e3']) _ rfl
      · have e2' : mayB (vL G l2) (vN G m) = false := by rw [← em]; exact e2
        exact ev 2 false (by simp [apE, e2']) (by simp [wiB, e2']) _ rfl
      · have e1' : mayB (vL G l) (vN G n) = false := by rw [← em]; exact e1
        exact ev 2 false (by simp [apE, e1']) (by simp [wiB, e1']) _ rfl
    · simp at ho
  · simp at ho
theorem rpT_ok (G : Nat → List AV) (B : Nat) : DSumOk (⟨Try.prog, G, B⟩ : Ctx) 18 rpT := by
  intro args H o ho
  unfold rpT at ho
  split at ho
  · rename_i x
    split at ho
    · rename_i l n hx
      simp only [Option.some.injEq] at ho
      subst ho
      intro h1
      have h1' : okT (ctT (vL G l) (vN G n)) (vN G n) = true := h1
      have b0 := rpS_ok G B [x] H
      unfold rpS at b0
      simp only [hx] at b0
      have base := b0 _ rfl h1
      refine ⟨fun e => ?_, fun e => base⟩
      have ho := (okT_iff.1 h1').2.2.2
      have e' : mayF (ctT (vL G l) (vN G n)) (vN G n) = true := by
        rw [← somF_may ho]
        have e : somF (ctT (vL G l) ((vN G n : Int)).toNat) ((vN G n : Int)).toNat = true := e
        rwa [int_nat] at e
      obtain ⟨f1, f2⟩ := rp_form ho e'
      refine base.cong ?_ ?_
      · simp only [vV, vR, vN, vVs, vL, vI, rpN, ppN, int_nat, f2, e', if_true]
      · simp only [List.map_cons, List.map_nil, vHop, vBlk, vN, vVs, vV, vL, vI, rpU, ppU, int_nat, f1, e', if_true]
    · simp at ho
  · simp at ho
theorem progQ_ok (G : Nat → List AV) (B : Nat) : DSumsOk (⟨Try.prog, G, B⟩ : Ctx) progQ := .cons (boT_ok G B) (.cons (apT_ok G B) (.cons (wiT_ok G B) (.cons (rpT_ok G B) (progN_ok G B))))
end Go.Am
