/-
  FilterHomes: the law.
-/
import Derived.Test.YtnkcfoicbkobbaaFlO
namespace Go.Am
open Go.Proofs
set_option maxRecDepth 100000
def hmT (a : Int) : List AV := [.int .i64 0, .int .i64 255, .int .i64 a]
theorem hm_rows (a : Int) : okI .i64 (hmT a) 0 (1 * 3) = true := rfl
theorem hm_may {a : Int} : mayB (hmT a) 1 = by8 a := by
  show (decide (1 ≤ 8) && allTo (okTst (hmT a)) 1) = by8 a
  have : okTst (hmT a) 0 = by8 a := by
    show ((decide ((0 : Int) ≤ 0) && decide ((0 : Int) < 64)) && (by8 255 && by8 a)) = by8 a
    rw [show by8 255 = true from rfl]; simp
  simp only [allTo, this]; simp
theorem allTo_app {cs ds ps : List AV} {n m r : Nat} (h : okI .i64 cs 0 (n * 3) = true) (h2 : okI .i64 ds 0 (m * 3) = true) : allTo (pasB (ct2 cs n ds m) ps r) (n + m) = (allTo (pasB cs ps r) n && allTo (pasB ds ps r) m) := by
  have key : ∀ j, j ≤ m → allTo (pasB (ct2 cs n ds m) ps r) (n + j) = (allTo (pasB cs ps r) n && allTo (pasB ds ps r) j) := by
    intro j hj
    induction j with
    | zero =>
      simp only [Nat.add_zero, allTo, Bool.and_true]
      refine allTo_congr fun i hi => ?_
      obtain ⟨e1, e2, e3⟩ := (ct2_tst (i := i) h h2).1 hi
      unfold pasB; rw [e1, e2, e3]
    | succ j ih =>
      obtain ⟨e1, e2, e3⟩ := (ct2_tst (i := n + j) h h2).2 (by omega) (by omega)
      rw [show n + (j + 1) = (n + j) + 1 by omega]
      simp only [allTo]
      rw [ih (by omega), Bool.and_assoc]
      congr 2
      rw [show n + j - n = j by omega] at e1 e2 e3
      unfold pasB; rw [e1, e2, e3]
  exact key m (Nat.le_refl _)
theorem byF_app {cs ds : List AV} {n m a b : Nat} (h : okI .i64 cs 0 (n * 3) = true) (h2 : okI .i64 ds 0 (m * 3) = true) : byF (ct2 cs n ds m) (n + m) a b = true ↔ byF cs n a b = true ∧ byF ds m a b = true := by
  simp only [byF_iff]
  constructor
  · intro q
    refine ⟨fun i hi ha => ?_, fun i hi ha => ?_⟩
    · obtain ⟨e1, e2, e3⟩ := (ct2_tst (i := i) h h2).1 hi
      have := q i (by omega) (by rw [e1]; exact ha)
      unfold tmN tvN at this ⊢
      rwa [e2, e3] at this
    · obtain ⟨e1, e2, e3⟩ := (ct2_tst (i := n + i) h h2).2 (by omega) (by omega)
      rw [show n + i - n = i by omega] at e1 e2 e3
      have := q (n + i) (by omega) (by rw [e1]; exact ha)
      unfold tmN tvN at this ⊢
      rwa [e2, e3] at this
  · rintro ⟨q1, q2⟩ i hi ha
    by_cases e : i < n
    · obtain ⟨e1, e2, e3⟩ := (ct2_tst (i := i) h h2).1 e
      have := q1 i e (by rw [← e1]; exact ha)
      unfold tmN tvN at this ⊢
      rwa [e2, e3]
    · obtain ⟨e1, e2, e3⟩ := (ct2_tst (i := i) h h2).2 (by omega) hi
      have := q2 (i - n) (by omega) (by rw [← e1]; exact ha)
      unfold tmN tvN at this ⊢
      rwa [e2, e3]
theorem match_both {cs ds ps : List AV} {n m r : Nat} (h : okI .i64 cs 0 (n * 3) = true) (h2 : okI .i64 ds 0 (m * 3) = true) (hm : mayB cs n = true) (hm2 : mayB ds m = true) : (decide (r ≤ 64) && allTo (pasB (ct2 cs n ds m) ps r) (n + m)) = (matchB cs n ps r && matchB ds m ps r) := by
  rw [matchB_of hm, matchB_of hm2, allTo_app h h2]
  cases decide (r ≤ 64) <;> cases allTo (pasB cs ps r) n <;> cases allTo (pasB ds ps r) m <;> rfl
/-- what two filters have both, where there is such a filter -/
theorem bo_facts {cs ds : List AV} {n m : Nat} (h : okI .i64 cs 0 (n * 3) = true) (h2 : okI .i64 ds 0 (m * 3) = true) (e : boE cs n ds m = 0) : mayB cs n = true ∧ mayB ds m = true ∧ mayF (ct2 cs n ds m) (n + m) = true ∧ okF (ct2 cs n ds m) (n + m) ∧ boC cs n ds m = ppC (ct2 cs n ds m) (n + m) 64 ∧ boK cs n ds m = ppK (ct2 cs n ds m) (n + m) 64 ∧ boK cs n ds m ≤ 8 := by
  have hm : (mayB cs n && mayB ds m) = true := by
    unfold boE at e; split at e
    · assumption
    · omega
  have hf : mayF (ct2 cs n ds m) (n + m) = true := by
    unfold boE at e; rw [if_pos hm] at e; split at e
    · assumption
    · omega
  have hk : ppK (ct2 cs n ds m) (n + m) 64 ≤ 8 := by
    unfold boE at e; rw [if_pos hm, if_pos hf] at e; split at e
    · omega
    · omega
  rw [Bool.and_eq_true] at hm
  refine ⟨hm.1, hm.2, hf, (okT_iff.1 (ct2_okT h h2 hm.1 hm.2)).2.2.2, by unfold boC; rw [if_pos e], by unfold boK; rw [if_pos e], by unfold boK; rw [if_pos e]; exact hk⟩
theorem bo_match {cs ds ps : List AV} {n m r : Nat} (h : okI .i64 cs 0 (n * 3) = true) (h2 : okI .i64 ds 0 (m * 3) = true) (e : boE cs n ds m = 0) : mayB (boC cs n ds m) (boK cs n ds m) = true ∧ matchB (boC cs n ds m) (boK cs n ds m) ps r = (matchB cs n ps r && matchB ds m ps r) := by
  obtain ⟨h3, h4, h5, h6, h7, h8, h9⟩ := bo_facts h h2 e
  have hmp : mayB (boC cs n ds m) (boK cs n ds m) = true := by rw [h7, h8]; exact pp_may h6 (by rw [← h8]; exact h9)
  refine ⟨hmp, ?_⟩
  rw [matchB_of hmp, h7, h8, pp_match h6 h5, match_both h h2 h3 h4]
theorem bo_by {cs ds : List AV} {n m : Nat} (h : okI .i64 cs 0 (n * 3) = true) (h2 : okI .i64 ds 0 (m * 3) = true) (e : boE cs n ds m = 0) (a b : Nat) : byF (boC cs n ds m) (boK cs n ds m) a b = true ↔ byF cs n a b = true ∧ byF ds m a b = true := by
  obtain ⟨h3, h4, h5, h6, h7, h8, h9⟩ := bo_facts h h2 e
  obtain ⟨p1, p2, p3⟩ := pp_at h6 h5
  rw [h7, h8, byF_mask (okT_iff.1 (ppC_okT h6)).2.2.2 p3, (p1 a).1, (p1 a).2, ← byF_mask h6 h5, byF_app h h2]
theorem hm_by {a : Int} {b : Nat} (h : by8 a = true) : byF (hmT a) 1 0 b = true ↔ b % 256 = a.toNat := by
  rw [byF_iff]
  have e : b &&& 255 = b % 256 := Nat.and_two_pow_sub_one_eq_mod b 8
  constructor
  · intro q
    have := q 0 (by omega) rfl
    have this : b &&& 255 = a.toNat := this
    omega
  · intro q i hi _
    have : i = 0 := by omega
    subst this
    show b &&& 255 = a.toNat
    omega
theorem hm_match {a : Int} {ps : List AV} {r : Nat} (h : by8 a = true) (hp : 0 ≤ getI ps 0 ∧ getI ps 0 ≤ 255) : matchB (hmT a) 1 ps r = (decide (r ≤ 64) && (decide (0 < r) && (IntKind.i64.wrap (getI ps 0) == a))) := by
  rw [matchB_of (by rw [hm_may]; exact h)]
  congr 1
  have ha : 0 ≤ a ∧ a ≤ 255 := by unfold by8 at h; simp only [Bool.and_eq_true, decide_eq_true_eq] at h; exact h
  simp only [allTo, Bool.true_and]
  have hx : getI ps 0 = ((getI ps 0).toNat : Int) := by omega
  show (decide ((0 : Int) < (r : Int)) && (kAnd .i64 (IntKind.i64.wrap (getI ps ((0 : Int)).toNat)) 255 == a)) = _
  rw [show ((0 : Int)).toNat = 0 from rfl, i64_in (by omega)]
  congr 1
  · rw [Bool.eq_iff_iff, decide_eq_true_iff, decide_eq_true_iff]; omega
  · have e : (getI ps 0).toNat &&& 255 = (getI ps 0).toNat % 256 := Nat.and_two_pow_sub_one_eq_mod _ 8
    rw [hx, show (255 : Int) = ((255 : Nat) : Int) from rfl, kAnd_nat (by omega) (by omega), e, Nat.mod_eq_of_lt (by omega)]
theorem hm_apart {cs ds : List AV} {n m : Nat} {a b : Int} (h : okI .i64 cs 0 (n * 3) = true) (h2 : okI .i64 ds 0 (m * 3) = true) (e : boE cs n (hmT a) 1 = 0) (e2 : boE ds m (hmT b) 1 = 0) :
    apE (boC cs n (hmT a) 1) (boK cs n (hmT a) 1) (boC ds m (hmT b) 1) (boK ds m (hmT b) 1) = 0 ∧ (a ≠ b → apB (boC cs n (hmT a) 1) (boK cs n (hmT a) 1) (boC ds m (hmT b) 1) (boK ds m (hmT b) 1) = true) := by
  have m1 := (bo_match (ps := []) (r := 0) h (hm_rows a) e).1
  have m2 := (bo_match (ps := []) (r := 0) h2 (hm_rows b) e2).1
  have o1 := boC_okT h (hm_rows a)
  have o2 := boC_okT h2 (hm_rows b)
  have ha : by8 a = true := by rw [← hm_may]; exact (bo_facts h (hm_rows a) e).2.1
  have hb : by8 b = true := by rw [← hm_may]; exact (bo_facts h2 (hm_rows b) e2).2.1
  refine ⟨by unfold apE; rw [m1, m2]; rfl, fun hab => ?_⟩
  unfold apB
  rw [m1, m2]
  have hf : mayF (ct2 (boC cs n (hmT a) 1) (boK cs n (hmT a) 1) (boC ds m (hmT b) 1) (boK ds m (hmT b) 1)) (boK cs n (hmT a) 1 + boK ds m (hmT b) 1) = false := by
    cases q : mayF (ct2 (boC cs n (hmT a) 1) (boK cs n (hmT a) 1) (boC ds m (hmT b) 1) (boK ds m (hmT b) 1)) (boK cs n (hmT a) 1 + boK ds m (hmT b) 1) with
    | false => rfl
    | true =>
      have k1 := (okT_iff.1 o1).2.2.1
      have k2 := (okT_iff.1 o2).2.2.1
      have ho := (okT_iff.1 (ct2_okT k1 k2 m1 m2)).2.2.2
      obtain ⟨b1, b2⟩ := (byF_app k1 k2).1 (may_byF ho q 0)
      have c1 := (hm_by ha).1 ((bo_by h (hm_rows a) e 0 _).1 b1).2
      have c2 := (hm_by hb).1 ((bo_by h2 (hm_rows b) e2 0 _).1 b2).2
      unfold by8 at ha hb
      simp only [Bool.and_eq_true, decide_eq_true_eq] at ha hb
      omega
  rw [hf]; rfl
theorem fh_call (G : Nat → List AV) (B : Nat) (k n k2 m k3 r : Nat) (a b : Int) (hk : okI .i64 (G k) 0 (n * 3) = true) (hk2 : okI .i64 (G k2) 0 (m * 3) = true) (hp : okI .u8 (G k3) 0 r = true) (hp8 : 0 ≤ getI (G k3) 0 ∧ getI (G k3) 0 ≤ 255) : ACalls (⟨Try.prog, G, B⟩ : Ctx) 5 [.int .i64 a, .int .i64 b, .slice true (.ro k) 0 n, .slice true (.ro k2) 0 m, .slice true (.ro k3) 0 r] [] fun v _ => v = .bool true := by
  have := dlaw_ok (C := (⟨Try.prog, G, B⟩ : Ctx)) (fuel := 400) (n0 := 20) (f := 5) (fn := Try.f5) (args := [.int .i64 (.var 7 a), .int .i64 (.var 8 b), .slice true (.ro (.var 1 k)) (.lit 0) (.var 2 n), .slice true (.ro (.var 3 k2)) (.lit 0) (.var 4 m), .slice true (.ro (.var 5 k3)) (.lit 0) (.var 6 r)]) (H := []) (R := fun v _ => v = .bool true) (by rw [show loopsOf (bodyOf Try.f5) = [] by kernel_rfl]; exact dgood (inl := [19]) (ls := []) (M := 0) (mixF G B) (by kernel_rfl) (progP_ok G B) .nil) (by kernel_rfl) (by kernel_rfl) (by kernel_rfl) (by
    rw [l5 G k n k2 m k3 r a b]
    generalize hcs : G k = cs at *
    generalize hds : G k2 = ds at *
    generalize hps : G k3 = ps at *
    have a1 : rowsU [.agg cs, .int .i64 (n : Int)] = true := hk
    have a1' : rowsU [.agg ds, .int .i64 (m : Int)] = true := hk2
    have a2 : ∀ x : Int, rowsU [.agg [.int .i64 0, .int .i64 255, .int .i64 x], .int .i64 ((1 : Nat) : Int)] = true := fun x => rfl
    have a3 : bytesU [.agg ps, .int .i64 (r : Int)] = true := hp
    have b1 : mayU [.agg cs, .int .i64 (n : Int)] = mayB cs n := by simp only [mayU, int_nat]
    have b5 : ∀ (x : Int) (xs : List AV) (y : Nat), boEU [.agg xs, .int .i64 (y : Int), .agg [.int .i64 0, .int .i64 255, .int .i64 x], .int .i64 ((1 : Nat) : Int)] = boE xs y (hmT x) 1 := fun x xs y => by simp only [boEU, int_nat]; rfl
    have b6 : ∀ (x : Int) (xs : List AV) (y : Nat), boKU [.agg xs, .int .i64 (y : Int), .agg [.int .i64 0, .int .i64 255, .int .i64 x], .int .i64 ((1 : Nat) : Int)] = boK xs y (hmT x) 1 := fun x xs y => by simp only [boKU, int_nat]; rfl
    have b7 : ∀ (x : Int) (xs : List AV) (y : Nat), boCU [.agg xs, .int .i64 (y : Int), .agg [.int .i64 0, .int .i64 255, .int .i64 x], .int .i64 ((1 : Nat) : Int)] = boC xs y (hmT x) 1 := fun x xs y => by simp only [boCU, int_nat]; rfl
    have b8 : ∀ (xs ys : List AV) (x y : Nat), apEU [.agg xs, .int .i64 (x : Int), .agg ys, .int .i64 (y : Int)] = apE xs x ys y := fun xs ys x y => by simp only [apEU, int_nat]
    have b9 : ∀ (xs ys : List AV) (x y : Nat), apBU [.agg xs, .int .i64 (x : Int), .agg ys, .int .i64 (y : Int)] = apB xs x ys y := fun xs ys x y => by simp only [apBU, int_nat]
    have m1 : ∀ (xs ys : List AV) (x y : Nat), matchU [.agg xs, .int .i64 (x : Int), .agg ys, .int .i64 (y : Int)] = matchB xs x ys y := fun xs ys x y => by simp only [matchU, int_nat]
    have r1 := boC_okT hk (hm_rows a)
    have r2 := boC_okT hk2 (hm_rows b)
    have r3 : rowsU [.agg (boC cs n (hmT a) 1), .int .i64 (boK cs n (hmT a) 1 : Int)] = true := (okT_iff.1 r1).2.2.1
    have r4 : rowsU [.agg (boC ds m (hmT b) 1), .int .i64 (boK ds m (hmT b) 1 : Int)] = true := (okT_iff.1 r2).2.2.1
    simp only [a1, a1', a2, a3, b1, b5, b6, b7, b8, b9, m1, shr8, r3, r4]
    have ap := fun e1 e2 => hm_apart (a := a) (b := b) hk hk2 e1 e2
    have mt := fun e1 => (bo_match (ps := ps) (r := r) hk (hm_rows a) e1).2
    have e2c : mayB cs n = false → boE cs n (hmT a) 1 = 2 ∧ boK cs n (hmT a) 1 = 0 := fun h => by
      have : boE cs n (hmT a) 1 = 2 := by simp [boE, h]
      exact ⟨this, by simp [boK, this]⟩
    have ec : by8 a = true → mayB cs n = true → boE cs n (hmT a) 1 = 0 ∨ boE cs n (hmT a) 1 = 3 ∨ boE cs n (hmT a) 1 = 210 := fun h1 h2 => by
      unfold boE; rw [hm_may, h1, h2]; simp only [Bool.and_self, if_true]
      split
      · split
        · exact .inr (.inl rfl)
        · exact .inl rfl
      · exact .inr (.inr rfl)
    have mh := fun h1 => hm_match (a := a) (r := r) h1 hp8
    have mo : matchB cs n ps r = true → decide (r ≤ 64) = true := fun h => by unfold matchB at h; simp only [Bool.and_eq_true] at h; exact h.2.1
    generalize boE cs n (hmT a) 1 = E1 at *
    generalize boE ds m (hmT b) 1 = E2 at *
    generalize matchB (hmT a) 1 ps r = MH at *
    generalize matchB cs n ps r = MC at *
    generalize matchB (boC cs n (hmT a) 1) (boK cs n (hmT a) 1) ps r = MB at *
    generalize apE (boC cs n (hmT a) 1) (boK cs n (hmT a) 1) (boC ds m (hmT b) 1) (boK ds m (hmT b) 1) = AE at *
    generalize apB (boC cs n (hmT a) 1) (boK cs n (hmT a) 1) (boC ds m (hmT b) 1) (boK ds m (hmT b) 1) = AB at *
    generalize boK cs n (hmT a) 1 = K1 at *
    cases ha : by8 a with
    | false =>
      have : a < 0 ∨ a > 255 := by unfold by8 at ha; simp only [Bool.and_eq_false_iff, decide_eq_false_iff_not] at ha; omega
      rcases this with this | this
      · simp [this]
      · simp [this, show ¬ a < 0 by omega]
    | true =>
      have hr : ¬ a < 0 ∧ ¬ a > 255 := by unfold by8 at ha; simp only [Bool.and_eq_true, decide_eq_true_eq] at ha; omega
      cases hm : mayB cs n with
      | false =>
        obtain ⟨e1, e2⟩ := e2c hm
        simp [hr.1, hr.2, e1, e2]
      | true =>
        have hM := mh ha
        rcases ec ha hm with rfl | rfl | rfl
        · have hB := mt rfl
          have h0 : decide ((r : Int) > 0) = decide (0 < r) := by rw [Bool.eq_iff_iff, decide_eq_true_iff, decide_eq_true_iff]; omega
          have i0 : 0 < r → isI .u8 ps 0 = true := fun h => by have := okI_get hp (j := 0) h; rwa [Nat.zero_add] at this
          have ap0 := fun e => ap rfl e
          simp only [hr.1, hr.2, decide_false]
          clear ap mt e2c ec mh
          subst hM hB
          by_cases hE : E2 = 0
          · obtain ⟨q1, q2⟩ := ap0 hE
            by_cases hab : a = b
            · cases MC with
              | false => by_cases h0 : 0 < r <;> simp_all
              | true => have h64 := mo rfl; by_cases h0 : 0 < r <;> simp_all
            · have q2 := q2 hab
              cases MC with
              | false => by_cases h0 : 0 < r <;> simp_all
              | true => have h64 := mo rfl; by_cases h0 : 0 < r <;> simp_all
          · cases MC with
            | false => by_cases h0 : 0 < r <;> simp_all
            | true => have h64 := mo rfl; by_cases h0 : 0 < r <;> simp_all
        · simp [hr.1, hr.2]
        · simp [hr.1, hr.2])
  exact this
end Go.Am
