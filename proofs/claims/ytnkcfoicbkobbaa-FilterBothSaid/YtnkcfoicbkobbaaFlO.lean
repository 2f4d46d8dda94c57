/-
  FilterPlains: the law.
-/
import Derived.Test.YtnkcfoicbkobbaaFlX
namespace Go.Am
open Go.Proofs
set_option maxRecDepth 100000
theorem ct2_nil {cs : List AV} {n : Nat} : ct2 cs n [] 0 = ctT cs n := by
  show ctT cs n ++ List.take (0 * 3) [] = ctT cs n
  rw [List.take_nil, List.append_nil]
theorem match_ct {cs ps : List AV} {n m : Nat} : matchB (ctT cs n) n ps m = matchB cs n ps m := by
  have h1 := matchB_take (cs := ctT cs n) (n := n) (ps := ps) (m := m)
  have h2 := matchB_take (cs := cs) (n := n) (ps := ps) (m := m)
  have h3 : (ctT cs n).take (n * 3) = cs.take (n * 3) := ctT_ctT
  rw [h3] at h1
  exact h1.symm.trans h2
theorem matchB_of {cs ps : List AV} {n m : Nat} (hm : mayB cs n = true) : matchB cs n ps m = (decide (m ≤ 64) && allTo (pasB cs ps m) n) := by unfold matchB; rw [hm, Bool.true_and]
theorem rowEq_self {cs : List AV} {n : Nat} : stF cs n cs n = true := by
  unfold stF; rw [Nat.beq_refl, Bool.true_and]
  exact allTo_iff.2 fun i _ => by unfold rowEq; simp
theorem vlL_u8 {cs : List AV} {n : Nat} : ∀ j, (vlL cs n j).all u8V = true
  | 0 => rfl
  | j + 1 => by simp only [vlL]; rw [List.all_append, vlL_u8 j]; rfl
theorem u8s_of {l : List AV} (h : l.all u8V = true) : u8s l = true := by
  unfold u8s
  rw [List.all_eq_true] at *
  intro v hv
  have := h v hv
  cases v with
  | int k n => cases k <;> simp [u8V] at this; rfl
  | _ => simp [u8V] at this
theorem subL_full {l : List AV} {n : Nat} (h : l.length = n) : subL l 0 n = l := by unfold subL; rw [List.drop_zero]; exact List.take_of_length_le (by omega)
theorem fp_call (G : Nat → List AV) (B : Nat) (k n k2 m : Nat) (hk : okI .i64 (G k) 0 (n * 3) = true) (hp : okI .u8 (G k2) 0 m = true) : ACalls (⟨Try.prog, G, B⟩ : Ctx) 4 [.slice true (.ro k) 0 n, .slice true (.ro k2) 0 m] [] fun v _ => v = .bool true := by
  have := dlaw_ok (C := (⟨Try.prog, G, B⟩ : Ctx)) (fuel := 400) (n0 := 20) (f := 4) (fn := Try.f4) (args := [.slice true (.ro (.var 1 k)) (.lit 0) (.var 2 n), .slice true (.ro (.var 3 k2)) (.lit 0) (.var 4 m)]) (H := []) (R := fun v _ => v = .bool true) (by rw [show loopsOf (bodyOf Try.f4) = [] by kernel_rfl]; exact dgood (inl := [14]) (ls := []) (M := 0) (mixF G B) (by kernel_rfl) (progP_ok G B) .nil) (by kernel_rfl) (by kernel_rfl) (by kernel_rfl) (by
    rw [l4 G k n k2 m]
    generalize hcs : G k = cs at *
    generalize hps : G k2 = ps at *
    have a1 : rowsU [.agg cs, .int .i64 (n : Int)] = true := hk
    have a2 : rowsU [.agg [], .int .i64 ((0 : Nat) : Int)] = true := rfl
    have a3 : bytesU [.agg ps, .int .i64 (m : Int)] = true := hp
    have b1 : mayU [.agg cs, .int .i64 (n : Int)] = mayB cs n := by simp only [mayU, int_nat]
    have b2 : (chkU [.agg cs, .int .i64 (n : Int)] : Int) = if mayB cs n then 0 else 2 := chkU_eq
    have b3 : neBU [.agg cs, .int .i64 (n : Int)] = neB cs n := by simp only [neBU, int_nat]
    have b4 : somU [.agg cs, .int .i64 (n : Int)] = somF (ctT cs n) n := by simp only [somU, int_nat]
    have b5 : boEU [.agg cs, .int .i64 (n : Int), .agg [], .int .i64 ((0 : Nat) : Int)] = boE cs n [] 0 := by simp only [boEU, int_nat]
    have b5' : boEU [.agg cs, .int .i64 (n : Int), .agg [], .int .i64 0] = boE cs n [] 0 := b5
    have b6 : boKU [.agg cs, .int .i64 (n : Int), .agg [], .int .i64 ((0 : Nat) : Int)] = boK cs n [] 0 := by simp only [boKU, int_nat]
    have b7 : boCU [.agg cs, .int .i64 (n : Int), .agg [], .int .i64 ((0 : Nat) : Int)] = boC cs n [] 0 := by simp only [boCU, int_nat]
    have b8 : ltN [.agg cs, .int .i64 (n : Int)] = (leW (boC cs n [] 0) (boK cs n [] 0)).length := by simp only [ltN, int_nat]
    have b9 : ltU [.agg cs, .int .i64 (n : Int)] = leW (boC cs n [] 0) (boK cs n [] 0) := by simp only [ltU, int_nat]
    have m1 : ∀ (qs : List AV) (x : Nat), matchU [.agg cs, .int .i64 (n : Int), .agg qs, .int .i64 (x : Int)] = matchB cs n qs x := fun qs x => by simp only [matchU, int_nat]
    simp only [a1, a2, a3, b1, b2, b3, b4, b5, b5', b6, b7, b8, b9, m1]
    cases hm : mayB cs n with
    | false =>
      have e1 : boE cs n [] 0 = 2 := by simp [boE, hm]
      have e2 : boK cs n [] 0 = 0 := by simp [boK, e1]
      have e3 : neB cs n = false := by simp [neB, hm]
      simp only [e1, e2, e3]
      simp [leW, i64_in]
    | true =>
      have ok := ct_okT hk hm
      have ho := (okT_iff.1 ok).2.2.2
      have n8 := (mayB_iff.1 hm).1
      have c1 : okTU [.agg cs, .int .i64 (n : Int)] = true := by rw [okTU_ct, ok]
      rw [c1]
      cases hf : mayF (ctT cs n) n with
      | false =>
        have e1 : boE cs n [] 0 = 210 := by unfold boE; rw [ct2_nil, Nat.add_zero, hm, hf]; rfl
        have e2 : boK cs n [] 0 = 0 := by simp [boK, e1]
        have e3 : neB cs n = true := by simp [neB, hm, hf]
        have e4 : somF (ctT cs n) n = false := by rw [somF_may ho, hf]
        have e5 : matchB cs n ps m = false := by rw [← match_ct, matchB_of (by rw [mayB_ct]; exact hm), pas_never ho hf, Bool.and_false]
        simp only [e1, e2, e3, e4, e5]
        simp [leW, i64_in]
      | true =>
        have hk8 := ppK_le ho
        have e1 : boE cs n [] 0 = 0 := by unfold boE; rw [ct2_nil, Nat.add_zero, hm, hf]; simp only [show mayB [] 0 = true from rfl, Bool.and_self, if_true]; rw [if_neg (by omega)]
        have e2 : boK cs n [] 0 = ppK (ctT cs n) n 64 := by unfold boK; rw [ct2_nil, Nat.add_zero, if_pos e1]
        have e2' : boC cs n [] 0 = ppC (ctT cs n) n 64 := by unfold boC; rw [ct2_nil, Nat.add_zero, if_pos e1]
        have e3 : neB cs n = false := by simp [neB, hm, hf]
        have e4 : somF (ctT cs n) n = true := by rw [somF_may ho, hf]
        have e5 := leW_pp ho hf
        obtain ⟨f1, f2⟩ := lc_vl ho hf
        have e6 : lcU [.agg cs, .int .i64 (n : Int)] = vlL (ctT cs n) n (loF (ctT cs n) n) := by simp only [lcU, int_nat, f1]
        have e7 : lnU [.agg cs, .int .i64 (n : Int)] = loF (ctT cs n) n := by simp only [lnU, int_nat, f2]
        obtain ⟨g1, g2⟩ := rp_form ho hf
        have e8 : rpU [.agg cs, .int .i64 (n : Int)] = ppC (ctT cs n) n 64 := by simp only [rpU, int_nat, g1]
        have e9 : rpN [.agg cs, .int .i64 (n : Int)] = ppK (ctT cs n) n 64 := by simp only [rpN, int_nat, g2]
        have h64 := loF_le64 ho
        have ep : matchB cs n (vlL (ctT cs n) n (loF (ctT cs n) n)) (loF (ctT cs n) n) = true := by rw [← match_ct, matchB_of (by rw [mayB_ct]; exact hm), le_pass ho hf, decide_eq_true h64]; rfl
        have okp := ppC_okT ho
        have hmp := pp_may ho (by omega)
        have hpm : matchB (ppC (ctT cs n) n 64) (ppK (ctT cs n) n 64) ps m = matchB cs n ps m := by rw [matchB_of hmp, pp_match ho hf, ← match_ct (cs := cs), matchB_of (by rw [mayB_ct]; exact hm)]
        obtain ⟨p1, p2⟩ := pp_pp ho hf
        have hfp := (pp_at ho hf).2.2
        have ctp := ct_full okp
        simp only [e1, e2, e2', e3, e4, e5, vlL_len, e6, e7, e8, e9, ep]
        generalize ppC (ctT cs n) n 64 = p at *
        generalize ppK (ctT cs n) n 64 = K at *
        generalize hv : vlL (ctT cs n) n (loF (ctT cs n) n) = v at *
        have lv : v.length = loF (ctT cs n) n := by rw [← hv, vlL_len]
        generalize loF (ctT cs n) n = L at *
        have v8 : v.all u8V = true := by rw [← hv]; exact vlL_u8 _
        have q1 : rowsU [.agg p, .int .i64 (K : Int)] = true := (okT_iff.1 okp).2.2.1
        have q2 : okTU [.agg p, .int .i64 (K : Int)] = true := by rw [okTU_ct, ctp]; exact okp
        have q3 : stU [.agg p, .int .i64 (K : Int), .agg p, .int .i64 (K : Int)] = true := by rw [stU_eq (okT_iff.1 okp).1 (okT_iff.1 okp).1]; exact rowEq_self
        have q4 : bytesU [.agg v, .int .i64 (L : Int)] = true := by
          show okI .u8 v 0 ((L : Int)).toNat = true
          rw [int_nat]; exact (u8s_flat v8).2.2.2 _ (by omega)
        have q5 : matchU [.agg p, .int .i64 (K : Int), .agg ps, .int .i64 (m : Int)] = matchB cs n ps m := by simp only [matchU, int_nat, hpm]
        have q6 : boEU [.agg p, .int .i64 (K : Int), .agg [], .int .i64 ((0 : Nat) : Int)] = 0 := by
          simp only [boEU, int_nat, boE]; rw [ct2_nil, Nat.add_zero, ctp, hmp, hfp, p2]; simp only [show mayB [] 0 = true from rfl, Bool.and_self, if_true]; rw [if_neg (by omega)]
        have q7 : boKU [.agg p, .int .i64 (K : Int), .agg [], .int .i64 ((0 : Nat) : Int)] = K := by
          simp only [boEU, int_nat] at q6
          simp only [boKU, int_nat, boK]; rw [if_pos q6, ct2_nil, Nat.add_zero, ctp, p2]
        have q8 : boCU [.agg p, .int .i64 (K : Int), .agg [], .int .i64 ((0 : Nat) : Int)] = p := by
          simp only [boEU, int_nat] at q6
          simp only [boCU, int_nat, boC]; rw [if_pos q6, ct2_nil, Nat.add_zero, ctp, p1]
        simp only [q1, q2, q5, q6, q7, q8, q3, subL_full lv, lv, q4, u8s_of v8]
        simp [leB])
  exact this
end Go.Am
