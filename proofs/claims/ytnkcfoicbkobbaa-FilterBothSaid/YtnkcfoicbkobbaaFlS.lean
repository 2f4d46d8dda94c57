/-
  FilterBoth: the law.
-/
import Derived.Test.YtnkcfoicbkobbaaFlR
namespace Go.Am
open Go.Proofs
set_option maxRecDepth 100000
theorem stF_pas {cs ds ps : List AV} {n m r : Nat} (h : stF cs n ds m = true) : allTo (pasB cs ps r) n = allTo (pasB ds ps r) m := by
  unfold stF at h
  rw [Bool.and_eq_true] at h
  have := Nat.eq_of_beq_eq_true h.1
  subst this
  refine allTo_congr fun i hi => ?_
  have := allTo_iff.1 h.2 i hi
  unfold rowEq at this
  simp only [Bool.and_eq_true, beq_iff_eq] at this
  unfold pasB
  rw [this.1, this.2.1, this.2.2]
/-- what the packet says of the two -/
theorem both_facts {cs ds ps : List AV} {n m r : Nat} (h : okI .i64 cs 0 (n * 3) = true) (h2 : okI .i64 ds 0 (m * 3) = true) (hm : mayB cs n = true) (hm2 : mayB ds m = true) :
    (mayF (ct2 cs n ds m) (n + m) = true → mayF (ctT cs n) n = true ∧ mayF (ctT ds m) m = true) ∧
    (matchB cs n ps r = true → matchB ds m ps r = true → mayF (ct2 cs n ds m) (n + m) = true) ∧
    (mayF (ctT cs n) n = false → matchB cs n ps r = false) ∧ (mayF (ctT ds m) m = false → matchB ds m ps r = false) ∧
    (mayF (ct2 cs n ds m) (n + m) = true → mayF (ctT cs n) n = true → stF (ppC (ct2 cs n ds m) (n + m) 64) (ppK (ct2 cs n ds m) (n + m) 64) (ppC (ctT cs n) n 64) (ppK (ctT cs n) n 64) = true → matchB cs n ps r = true → matchB ds m ps r = true) ∧
    (mayF (ct2 cs n ds m) (n + m) = true → mayF (ctT ds m) m = true → stF (ppC (ct2 cs n ds m) (n + m) 64) (ppK (ct2 cs n ds m) (n + m) 64) (ppC (ctT ds m) m 64) (ppK (ctT ds m) m 64) = true → matchB ds m ps r = true → matchB cs n ps r = true) := by
  have o1 := (okT_iff.1 (ct2_okT h h2 hm hm2)).2.2.2
  have oc := (okT_iff.1 (ct_okT h hm)).2.2.2
  have od := (okT_iff.1 (ct_okT h2 hm2)).2.2.2
  have mc : matchB cs n ps r = (decide (r ≤ 64) && allTo (pasB (ctT cs n) ps r) n) := by rw [← match_ct, matchB_of (by rw [mayB_ct]; exact hm)]
  have md : matchB ds m ps r = (decide (r ≤ 64) && allTo (pasB (ctT ds m) ps r) m) := by rw [← match_ct, matchB_of (by rw [mayB_ct]; exact hm2)]
  have mb := match_both (ps := ps) (r := r) h h2 hm hm2
  have hI : okI .i64 (ctT cs n) 0 (n * 3) = true := by unfold ctT; rw [okI_take]; exact h
  have hI2 : okI .i64 (ctT ds m) 0 (m * 3) = true := by unfold ctT; rw [okI_take]; exact h2
  refine ⟨fun q => ⟨?_, ?_⟩, fun q1 q2 => ?_, fun q => ?_, fun q => ?_, fun q1 q2 q3 q4 => ?_, fun q1 q2 q3 q4 => ?_⟩
  · refine by_may oc fun a => ?_
    have := may_byF o1 q a
    generalize vlAt (ct2 cs n ds m) (n + m) a = v at this
    rw [← ct2_ct] at this
    exact ⟨v, ((byF_app hI hI2).1 this).1⟩
  · refine by_may od fun a => ?_
    have := may_byF o1 q a
    generalize vlAt (ct2 cs n ds m) (n + m) a = v at this
    rw [← ct2_ct] at this
    exact ⟨v, ((byF_app hI hI2).1 this).2⟩
  · rw [q1, q2, Bool.and_self, Bool.and_eq_true] at mb
    cases e : mayF (ct2 cs n ds m) (n + m) with
    | true => rfl
    | false => rw [pas_never o1 e] at mb; cases mb.2
  · rw [mc, pas_never oc q, Bool.and_false]
  · rw [md, pas_never od q, Bool.and_false]
  · rw [mc, ← pp_match oc q2, ← stF_pas q3, pp_match o1 q1, mb, Bool.and_eq_true] at q4
    exact q4.2
  · rw [md, ← pp_match od q2, ← stF_pas q3, pp_match o1 q1, mb, Bool.and_eq_true] at q4
    exact q4.1
theorem fb_call (G : Nat → List AV) (B : Nat) (k n k2 m k3 r : Nat) (hk : okI .i64 (G k) 0 (n * 3) = true) (hk2 : okI .i64 (G k2) 0 (m * 3) = true) (hp : okI .u8 (G k3) 0 r = true) : ACalls (⟨Try.prog, G, B⟩ : Ctx) 6 [.slice true (.ro k) 0 n, .slice true (.ro k2) 0 m, .slice true (.ro k3) 0 r] [] fun v _ => v = .bool true := by
  have := dlaw_ok (C := (⟨Try.prog, G, B⟩ : Ctx)) (fuel := 400) (n0 := 20) (f := 6) (fn := Try.f6) (args := [.slice true (.ro (.var 1 k)) (.lit 0) (.var 2 n), .slice true (.ro (.var 3 k2)) (.lit 0) (.var 4 m), .slice true (.ro (.var 5 k3)) (.lit 0) (.var 6 r)]) (H := []) (R := fun v _ => v = .bool true) (by rw [show loopsOf (bodyOf Try.f6) = [] by kernel_rfl]; exact dgood (inl := [23, 24]) (ls := []) (M := 0) (mixF G B) (by kernel_rfl) (progQ_ok G B) .nil) (by kernel_rfl) (by kernel_rfl) (by kernel_rfl) (by
    rw [l6 G k n k2 m k3 r]
    generalize hcs : G k = cs at *
    generalize hds : G k2 = ds at *
    generalize hps : G k3 = ps at *
    have a1 : rowsU [.agg cs, .int .i64 (n : Int)] = true := hk
    have a2 : rowsU [.agg ds, .int .i64 (m : Int)] = true := hk2
    have a3 : bytesU [.agg ps, .int .i64 (r : Int)] = true := hp
    have b1 : mayU [.agg cs, .int .i64 (n : Int)] = mayB cs n := by simp only [mayU, int_nat]
    have b2 : mayU [.agg ds, .int .i64 (m : Int)] = mayB ds m := by simp only [mayU, int_nat]
    have m1 : matchU [.agg cs, .int .i64 (n : Int), .agg ps, .int .i64 (r : Int)] = matchB cs n ps r := by simp only [matchU, int_nat]
    have m2 : matchU [.agg ds, .int .i64 (m : Int), .agg ps, .int .i64 (r : Int)] = matchB ds m ps r := by simp only [matchU, int_nat]
    have c1 : leB (n * 3) cs.length = true := leB_iff.2 (okI_len hk)
    have c2 : leB (m * 3) ds.length = true := leB_iff.2 (okI_len hk2)
    have c3 : cellsB (subL cs 0 (n * 3)) = true := ints_cells (ct_ints hk).1
    have c4 : cellsB (subL ds 0 (m * 3)) = true := ints_cells (ct_ints hk2).1
    have c5 : Nat.beq (subL cs 0 (n * 3)).length (n * 3) = true := by rw [show (subL cs 0 (n * 3)).length = n * 3 from (ct_ints hk).2]; exact Nat.beq_refl _
    simp only [a1, a2, a3, b1, b2, m1, m2, c1, c2, c3, c4, c5]
    refine ⟨fun _ => trivial, fun g1 => ⟨fun _ => trivial, fun g2 => ⟨fun _ => trivial, fun g3 => ?_⟩⟩⟩
    have g1 := of_decide_eq_false g1
    have g2 := of_decide_eq_false g2
    have c6 : leB (n * 24) 140737488355328 = true := leB_iff.2 (by omega)
    have c7 : leB ((n + m) * 24) 140737488355328 = true := leB_iff.2 (by omega)
    simp only [c6, c7]
    cases hm : mayB cs n with
    | false => simp
    | true =>
      cases hm2 : mayB ds m with
      | false => simp
      | true =>
        obtain ⟨s1, s2⟩ := som_cat hk hk2 hm hm2
        obtain ⟨t1, t2⟩ := som_one hk hm
        obtain ⟨u1, u2⟩ := som_one hk2 hm2
        obtain ⟨f1, f2, f3, f4, f5, f6⟩ := both_facts (ps := ps) (r := r) hk hk2 hm hm2
        have ok := ct2_okT hk hk2 hm hm2
        have d1 : okTU [.agg (subL cs 0 (n * 3) ++ subL ds 0 (m * 3)), .int .i64 ((n + m : Nat) : Int)] = true := by rw [okTU_ct, cat_full hk hk2]; exact ok
        have d2 : okTU [.agg cs, .int .i64 (n : Int)] = true := by rw [okTU_ct]; exact ct_okT hk hm
        have d3 : okTU [.agg ds, .int .i64 (m : Int)] = true := by rw [okTU_ct]; exact ct_okT hk2 hm2
        simp only [s1, t1, u1, d1, d2, d3]
        have oA := ppC_okT (okT_iff.1 ok).2.2.2
        have oF := ppC_okT (okT_iff.1 (ct_okT hk hm)).2.2.2
        have oG := ppC_okT (okT_iff.1 (ct_okT hk2 hm2)).2.2.2
        have okp : ∀ {p : List AV} {K : Nat}, okT p K = true → okTU [.agg p, .int .i64 (K : Int)] = true := fun h => by rw [okTU_ct, ct_full h]; exact h
        have stp : ∀ {p q : List AV} {K L : Nat}, okT p K = true → okT q L = true → stU [.agg p, .int .i64 (K : Int), .agg q, .int .i64 (L : Int)] = stF p K q L := fun h h' => stU_eq (okT_iff.1 h).1 (okT_iff.1 h').1
        have e1 := okp oA
        have e2 := okp oF
        have e3 := okp oG
        have e4 := stp oA oF
        have e5 := stp oA oG
        have e6 := stp oA oA
        have e7 : stF (ppC (ct2 cs n ds m) (n + m) 64) (ppK (ct2 cs n ds m) (n + m) 64) (ppC (ct2 cs n ds m) (n + m) 64) (ppK (ct2 cs n ds m) (n + m) 64) = true := rowEq_self
        cases hA : mayF (ct2 cs n ds m) (n + m) with
        | false =>
          have f2' : ¬(matchB cs n ps r = true ∧ matchB ds m ps r = true) := fun ⟨h1, h2⟩ => by have := f2 h1 h2; rw [hA] at this; cases this
          clear f1 f2 f5 f6 s1 s2 t1 t2 u1 u2 a1 a2 a3 b1 b2 m1 m2 c1 c2 c3 c4 c5 c6 c7 d1 d2 d3
          generalize matchB cs n ps r = M1 at *
          generalize matchB ds m ps r = M2 at *
          cases hF : mayF (ctT cs n) n <;> cases hG : mayF (ctT ds m) m
          · rw [f3 hF, f4 hG]; simp
          · rw [f3 hF]; cases M2 <;> simp
          · rw [f4 hG]; cases M1 <;> simp
          · cases M1 <;> cases M2 <;> simp_all
        | true =>
          obtain ⟨hF, hG⟩ := f1 hA
          obtain ⟨p1, p2⟩ := s2 hA
          obtain ⟨p3, p4⟩ := t2 hF
          obtain ⟨p5, p6⟩ := u2 hG
          simp only [hF, hG, p1, p2, p3, p4, p5, p6, e1, e2, e3, e4, e5, e6, e7]
          have f5 := f5 hA hF
          have f6 := f6 hA hG
          clear f1 f2 f3 f4 s1 s2 t1 t2 u1 u2 a1 a2 a3 b1 b2 m1 m2 c1 c2 c3 c4 c5 c6 c7 d1 d2 d3 e4 e5 e6 e7
          generalize matchB cs n ps r = M1 at *
          generalize matchB ds m ps r = M2 at *
          generalize stF (ppC (ct2 cs n ds m) (n + m) 64) (ppK (ct2 cs n ds m) (n + m) 64) (ppC (ctT cs n) n 64) (ppK (ctT cs n) n 64) = S1 at *
          generalize stF (ppC (ct2 cs n ds m) (n + m) 64) (ppK (ct2 cs n ds m) (n + m) 64) (ppC (ctT ds m) m 64) (ppK (ctT ds m) m 64) = S2 at *
          cases S1 <;> cases S2 <;> cases M1 <;> cases M2 <;> simp_all)
  exact this
end Go.Am
