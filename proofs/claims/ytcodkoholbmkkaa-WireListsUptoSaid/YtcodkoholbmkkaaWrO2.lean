/-
  WireLists: the law's call.
-/
import Derived.Test.YtcodkoholbmkkaaWrO
namespace Go.Am
open Go.Proofs
set_option maxRecDepth 100000
set_option maxHeartbeats 2000000

theorem nread_form {s : List AV} : ∀ (ps : List Nat) (a : Nat) (r : List AV), allU ps → s.drop a = bytesL (fcat ps) ++ r → nread s ps.length a = some (ps, a + (fcat ps).length)
  | [], a, r, _, _ => by simp [nread, fcat]
  | p :: ps, a, r, hu, h => by
    have e : fcat (p :: ps) = nform p ++ fcat ps := rfl
    rw [e, bytesL_append, List.append_assoc] at h
    have hw := wrd_form (hu p (List.mem_cons_self ..)) h
    have h2 : s.drop (a + (nform p).length) = bytesL (fcat ps) ++ r := by
      rw [← List.drop_drop, h, List.drop_append, List.drop_of_length_le (by rw [bytesL_length]; omega), bytesL_length, Nat.sub_self]; rfl
    have := nread_form ps _ r (fun q hq => hu q (List.mem_cons_of_mem _ hq)) h2
    simp only [List.length_cons, nread, hw, this, Option.map_some, e, List.length_append]
    rw [Nat.add_assoc]
theorem wrdF_ext {s : List AV} {c t : Nat} : ∀ (f k : Nat) (p : Nat × Nat), wrdF (s.take c) t f k = some p → wrdF s t f k = some p
  | 0, k, p, h => by simp [wrdF] at h
  | f + 1, k, p, h => by
    rw [wrdF] at h ⊢
    split at h
    · rename_i hl
      have h1 : t + k < s.length := by simp at hl; omega
      have h2 : t + k < c := by simp at hl; omega
      have e : getI (s.take c) (t + k) = getI s (t + k) := by simp [getI, List.getElem?_take, h2]
      rw [e] at h
      rw [if_pos h1]
      split at h
      · simp at h
      · rename_i hb
        rw [if_neg hb]
        split at h
        · rename_i hc; rw [if_pos hc]; exact h
        · rename_i hc
          rw [if_neg hc]
          cases hr : wrdF (s.take c) t f (k + 1) with
          | none => rw [hr] at h; simp at h
          | some q => rw [hr] at h; rw [wrdF_ext f (k + 1) q hr]; exact h
    · simp at h
theorem nread_ext {s : List AV} {c : Nat} : ∀ (n a : Nat) (p : List Nat × Nat), nread (s.take c) n a = some p → nread s n a = some p
  | 0, a, p, h => by simpa [nread] using h
  | n + 1, a, p, h => by
    simp only [nread] at h ⊢
    split at h
    · simp at h
    · rename_i v j hw
      rw [show wrd s a = some (v, j) from wrdF_ext _ _ _ hw]
      simp only
      cases hr : nread (s.take c) n (a + j) with
      | none => rw [hr] at h; simp at h
      | some q => rw [hr] at h; rw [nread_ext n _ q hr]; exact h
/-- a list that is cut short is refused -/
theorem rp_short {l : List AV} {c m v j : Nat} {ps : List Nat} {x n : Nat} (hw : wrd l 0 = some (v, j)) (hv : v ≤ m) (hr : nread l (v * 2) j = some (ps, l.length)) (hc : c < l.length) (hx : x = c) :
    rpEU [.agg (l.take c), .ptr (.rw 0) x, .int .i64 0, .int .i64 (m : Int)] = 4 ∧ rpNU [.agg (l.take c), .ptr (.rw 0) x, .int .i64 0, .int .i64 (m : Int)] = 0 ∧ rpAU [.agg (l.take c), .ptr (.rw 0) x, .int .i64 0, .int .i64 (m : Int)] = 0 := by
  cases hw2 : wrd (l.take c) 0 with
  | none =>
    have e : rdEU [.agg (l.take c), .int .i64 0] = 4 := by simp [rdEU, hw2]
    have hk : rpOk (l.take c) 0 (m : Int) = false := by simp [rpOk, e]
    simp [rpEU, rpNU, rpAU, hk, e]
  | some p =>
    have := wrdF_ext _ _ _ hw2
    rw [show wrdF l 0 10 0 = wrd l 0 from rfl, hw] at this
    simp only [Option.some.injEq] at this
    subst this
    obtain ⟨g1, g2, g3⟩ := rd_some (k := .i64) hw2
    simp only [Int.natCast_zero, Nat.zero_add] at g1 g2 g3
    have hno : nrOkU [.agg (l.take c), .int .i64 (j : Int), .int .i64 ((v : Int) * 2)] = false := by
      simp only [nrOkU]
      rw [show ((v : Int) * 2).toNat = v * 2 by omega, Int.toNat_natCast]
      cases hq : nread (l.take c) (v * 2) j with
      | none => rfl
      | some q =>
        have h1 := nread_ext _ _ _ hq
        rw [hr] at h1
        simp only [Option.some.injEq] at h1
        subst h1
        have hj : j ≤ (l.take c).length := by have := (wrd_len hw2).1; omega
        have := (nread_len hq hj).2.2
        simp at this
        omega
    have hk : rpOk (l.take c) 0 (m : Int) = false := by simp [rpOk, g1, g2, g3, hno]
    simp only [rpEU, rpNU, rpAU, hk, g1, g2]
    simp
    omega
theorem ll_call (G : Nat → List AV) (B : Nat) (k m : Nat) (c : Int) (hl : (G k).length = m * 2) (hu : (G k).all u64c = true) (hm : m ≤ 1048576) (hc : -9223372036854775808 ≤ c ∧ c ≤ 9223372036854775807) :
    ACalls (⟨Try.prog, G, B⟩ : Ctx) 5 [.slice true (.ro k) 0 m, .int .i64 c] [] fun v _ => v = .bool true := by
  have key := dlaw_ok (C := (⟨Try.prog, G, B⟩ : Ctx)) (f := 5) (R := fun v _ => v = .bool true) (dgLL G B) (by kernel_rfl) (by kernel_rfl) (by kernel_rfl) (fuel := 600) (n0 := 40) (args := [.slice true (.ro (.var 6 k)) (.lit 0) (.var 4 m), .int .i64 (.var 7 c)]) (H := []) (by
    rw [ll_run]
    dsimp only
    obtain ⟨g1, g2⟩ := cells_u64 hu
    obtain ⟨ps, hps⟩ : ∃ ps, ps = (G k).map cellN := ⟨_, rfl⟩
    rw [← hps] at g1 g2
    have lps : ps.length = m * 2 := by rw [hps]; simpa using hl
    have e1 : subL (G k) 0 (m * 2) = G k := by simp [subL, ← hl]
    have wm : IntKind.wrap .u64 (m : Int) = (m : Int) := u64_in (by omega)
    have wm1 : IntKind.wrap .i64 ((m : Int) + 1) = (m : Int) + 1 := i64_in (by omega)
    have tm1 : Int.toNat ((m : Int) + 1) = m + 1 := by omega
    have ef1 : fcatU [.agg (G k ++ tail7), .ptr (.rw 0) m] = fcat ps := by
      simp only [fcatU, List.map_append, ← hps]
      rw [List.take_append_of_le_length (by omega), ← lps, List.take_length]
    have ef2 : fcatU [.agg (G k), .ptr (.rw 0) m] = fcat ps := by
      simp only [fcatU, ← hps]
      rw [← lps, List.take_length]
    have ok1 : okPU [.agg (G k ++ tail7), .ptr (.rw 0) m] = true := by
      simp only [okPU, List.all_append, hu, Bool.and_eq_true, leB_iff]
      exact ⟨⟨trivial, rfl⟩, by simp; omega⟩
    have es7 : subL (G k ++ tail7) (m * 2) 2 = tail7 := by simp [subL, ← hl]
    have ok2 : okLU G [.agg (G k ++ tail7), .ptr (.rw 0) (m + 1), .ptr (.ro k) m] = true := by
      simp only [okLU, hu, hl, Nat.beq_refl, Bool.and_true, Bool.true_and, Bool.and_eq_true, leB_iff]
      refine ⟨?_, by omega⟩
      have : G k ++ tail7 = u64L (ps ++ [7, 71]) := by conv => lhs; rw [g1]
                                                       simp [u64L]
      rw [this]
      exact samCs_refl (List.all_eq_true.2 fun v hv => by
        simp only [u64L, List.mem_map] at hv
        obtain ⟨x, _, rfl⟩ := hv
        simp [samC])
    obtain ⟨T, hT⟩ : ∃ T, T = bytesL (nform m ++ fcat ps) := ⟨_, rfl⟩
    have lT : T.length = (nform m).length + (fcat ps).length := by rw [hT, bytesL_length, List.length_append]
    have ln := nform_len m
    have lf := fcat_len ps
    have bT : b8s T = true := by rw [hT]; exact b8s_bytes _
    have uT := b8s_u8 bT
    have cT := u8s_cells uT
    have sT : subL T 0 T.length = T := by simp [subL]
    have sT2 : subL T 0 (nform m ++ fcat ps).length = T := by rw [List.length_append, ← lT]; exact sT
    have w1 : wrd T 0 = some (m, (nform m).length) := wrd_form (r := bytesL (fcat ps)) (by omega) (by rw [hT, bytesL_append, List.drop_zero])
    have n1 : nread T (m * 2) (nform m).length = some (ps, T.length) := by
      have := nread_form (s := T) ps (nform m).length [] g2 (by rw [hT, bytesL_append, List.drop_append, List.drop_of_length_le (by rw [bytesL_length]; omega), bytesL_length, Nat.sub_self]; simp)
      rw [lps] at this
      rw [this, lT]
    obtain ⟨a1, a2, a3⟩ := rd_some (k := .i64) w1
    simp only [Int.natCast_zero, Nat.zero_add] at a1 a2 a3
    have okT : okRdU [.agg T, .ptr (.rw 0) T.length, .int .i64 0] = true := by
      have := okRd_of (a := 0) bT (by omega) (by omega)
      exact this
    have nok : nrOkU [.agg T, .int .i64 ((nform m).length : Int), .int .i64 ((m : Int) * 2)] = true := by
      simp only [nrOkU]
      rw [show ((m : Int) * 2).toNat = m * 2 by omega, Int.toNat_natCast, n1]; rfl
    have rk : rpOk T 0 (m : Int) = true := by simp [rpOk, a1, a2, a3, nok]
    have r1 : rpEU [.agg T, .ptr (.rw 0) T.length, .int .i64 0, .int .i64 (m : Int)] = 0 := by simp [rpEU, rk]
    have r2 : rpNU [.agg T, .ptr (.rw 0) T.length, .int .i64 0, .int .i64 (m : Int)] = m := by simp [rpNU, rk, a1]
    have r3 : rpAU [.agg T, .ptr (.rw 0) T.length, .int .i64 0, .int .i64 (m : Int)] = (T.length : Int) := by
      simp only [rpAU, rk, a1, a3, if_true, nrAU]
      rw [show ((m : Int) * 2).toNat = m * 2 by omega, Int.toNat_natCast, n1]
    have r4 : rpLU [.agg T, .ptr (.rw 0) T.length, .int .i64 0, .int .i64 (m : Int)] = G k := by
      simp only [rpLU, rk, a1, a3, if_true, nrLU]
      rw [show ((m : Int) * 2).toNat = m * 2 by omega, Int.toNat_natCast, n1, g1]
    have okB : okBU G [.agg (G k), .ptr (.rw 0) m, .ptr (.ro k) m] = true := by
      simp only [okBU, hu, hl, Nat.beq_refl, Bool.and_true, Bool.true_and, Bool.and_eq_true, leB_iff]
      refine ⟨?_, by omega⟩
      rw [g1]
      exact samCs_refl (List.all_eq_true.2 fun v hv => by
        simp only [u64L, List.mem_map] at hv
        obtain ⟨x, _, rfl⟩ := hv
        simp [samC])
    have cut : 0 ≤ c → c < (T.length : Int) → (subL T 0 c.toNat).length = c.toNat ∧ okRdU [.agg (subL T 0 c.toNat), .ptr (.rw 0) c.toNat, .int .i64 0] = true ∧ cellsB (subL T 0 c.toNat) = true ∧
        rpEU [.agg (subL T 0 c.toNat), .ptr (.rw 0) c.toNat, .int .i64 0, .int .i64 (m : Int)] = 4 ∧ rpNU [.agg (subL T 0 c.toNat), .ptr (.rw 0) c.toNat, .int .i64 0, .int .i64 (m : Int)] = 0 ∧ rpAU [.agg (subL T 0 c.toNat), .ptr (.rw 0) c.toNat, .int .i64 0, .int .i64 (m : Int)] = 0 := fun h1 h2 => by
      have hlen : (subL T 0 c.toNat).length = c.toNat := by simp [subL]; omega
      have hb := b8s_sub bT 0 c.toNat
      have hok := okRd_of (a := 0) hb (by omega) (by omega)
      rw [hlen] at hok
      have e : subL T 0 c.toNat = T.take c.toNat := by simp [subL]
      refine ⟨hlen, hok, u8s_cells (b8s_u8 hb), ?_⟩
      rw [e]
      exact rp_short (n := 0) w1 (Nat.le_refl _) n1 (by omega) rfl
    have wT1 : IntKind.wrap .i64 ((T.length : Int) + 1) = (T.length : Int) + 1 := i64_in (by omega)
    have wT0 : IntKind.wrap .i64 ((T.length : Int) - 0) = (T.length : Int) := by rw [i64_in (by omega)]; omega
    have wTT : IntKind.wrap .i64 ((T.length : Int) - (T.length : Int)) = 0 := by rw [i64_in (by omega)]; omega
    have eT := hT.symm
    have q7 : (getI tail7 0 == 7) = true := rfl
    have q71 : (getI tail7 1 == 71) = true := rfl
    have i70 : isI .u64 tail7 0 = true := rfl
    have i71 : isI .u64 tail7 1 = true := rfl
    have wcut : ∀ x : Nat, x ≤ T.length → IntKind.wrap .i64 ((x : Int) + 1) = (x : Int) + 1 := fun x hx => i64_in (by omega)
    have wcut2 : ∀ x : Nat, x ≤ T.length → IntKind.wrap .i64 ((x : Int) - 0) = (x : Int) := fun x hx => by rw [i64_in (by omega)]; omega
    have len7 : (G k ++ tail7).length = m * 2 + 2 := by simp [hl]
    simp only [e1, wm, wm1, tm1, ef1, ef2, ok1, es7, ok2, nformU_nat, eT, forall_eq]
    have cG : cellsB (G k) = true := by rw [g1]; exact u64L_cells _
    have inm : inU64 [.int .u64 (m : Int)] = true := inU_nat (by omega)
    simp only [cG, inm, sT, sT2, hl, len7, q7, q71, i70, i71, uT, cT, wT1, bigF, Int.natCast_one, Int.natCast_zero, Int.mul_one, leB_iff, decide_eq_true_eq, Nat.beq_refl, beq_self_eq_true, true_and, and_true]
    have hneg : ∀ x y : Int, x ≤ y → (decide (x > y) = false) := fun x y h => decide_eq_false (by omega)
    by_cases hm0 : 0 < m
    · have wm3 : IntKind.wrap .i64 ((m : Int) - 1) = (m : Int) - 1 := i64_in (by omega)
      have s1 : rpOk T 0 ((m : Int) - 1) = false := by simp [rpOk, a1, a2]; omega
      have s2 : rpEU [.agg T, .ptr (.rw 0) T.length, .int .i64 0, .int .i64 ((m : Int) - 1)] = 3 := by simp [rpEU, s1, a1, a2]; omega
      have s3 : rpNU [.agg T, .ptr (.rw 0) T.length, .int .i64 0, .int .i64 ((m : Int) - 1)] = 0 := by simp [rpNU, s1]
      have s4 : rpAU [.agg T, .ptr (.rw 0) T.length, .int .i64 0, .int .i64 ((m : Int) - 1)] = 0 := by simp [rpAU, s1]
      simp only [wm3, s2, s3, s4, r1, r2, r3, r4, okT, okB, wT0, wTT, beq_self_eq_true, true_and, and_true]
      rcases Int.lt_or_le c 0 with hc0 | hc0
      · have d1 : decide (c < 0) = true := decide_eq_true hc0
        simp only [d1]
        repeat' first | refine And.intro ?_ ?_ | intro _
        all_goals first
          | omega
          | contradiction
          | exact True.intro
          | exact rfl
          | (rename_i q; exact absurd q (by decide))
          | (rename_i q; have q := ne_of_beq_false q; omega)
          | (rename_i q; simp at q; done)
          | skip
      · rcases Int.lt_or_le c (T.length : Int) with hc1 | hc1
        · obtain ⟨k1, k2, k3, k4, k5, k6⟩ := cut hc0 hc1
          have hcn : c.toNat ≤ T.length := by omega
          have d3 : decide (c < 0) = false := decide_eq_false (by omega)
          have d4 : decide (c ≥ (T.length : Int)) = false := decide_eq_false (by omega)
          simp only [d3, d4, k2, k3, k4, k5, k6, wcut _ hcn, wcut2 _ hcn]
          repeat' first | refine And.intro ?_ ?_ | intro _
          all_goals first
            | omega
            | contradiction
            | exact True.intro
            | exact rfl
            | (rename_i q; exact absurd q (by decide))
            | (rename_i q; have q := ne_of_beq_false q; omega)
            | (rename_i q; simp at q; done)
            | skip
        · have d2 : decide (c ≥ (T.length : Int)) = true := decide_eq_true (by omega)
          have d3 : decide (c < 0) = false := decide_eq_false (by omega)
          simp only [d2, d3]
          repeat' first | refine And.intro ?_ ?_ | intro _
          all_goals first
            | omega
            | contradiction
            | exact True.intro
            | exact rfl
            | (rename_i q; exact absurd q (by decide))
            | (rename_i q; have q := ne_of_beq_false q; omega)
            | (rename_i q; simp at q; done)
            | skip
    · have hm1 : m = 0 := by omega
      simp only [r1, r2, r3, r4, okT, okB, wT0, wTT, beq_self_eq_true, true_and, and_true]
      rcases Int.lt_or_le c 0 with hc0 | hc0
      · have d1 : decide (c < 0) = true := decide_eq_true hc0
        simp only [d1]
        repeat' first | refine And.intro ?_ ?_ | intro _
        all_goals first
          | omega
          | contradiction
          | exact True.intro
          | exact rfl
          | (rename_i q; exact absurd q (by decide))
          | (rename_i q; have q := ne_of_beq_false q; omega)
          | (rename_i q; simp at q; done)
          | skip
      · rcases Int.lt_or_le c (T.length : Int) with hc1 | hc1
        · obtain ⟨k1, k2, k3, k4, k5, k6⟩ := cut hc0 hc1
          have hcn : c.toNat ≤ T.length := by omega
          have d3 : decide (c < 0) = false := decide_eq_false (by omega)
          have d4 : decide (c ≥ (T.length : Int)) = false := decide_eq_false (by omega)
          simp only [d3, d4, k2, k3, k4, k5, k6, wcut _ hcn, wcut2 _ hcn]
          repeat' first | refine And.intro ?_ ?_ | intro _
          all_goals first
            | omega
            | contradiction
            | exact True.intro
            | exact rfl
            | (rename_i q; exact absurd q (by decide))
            | (rename_i q; have q := ne_of_beq_false q; omega)
            | (rename_i q; simp at q; done)
            | skip
        · have d2 : decide (c ≥ (T.length : Int)) = true := decide_eq_true (by omega)
          have d3 : decide (c < 0) = false := decide_eq_false (by omega)
          simp only [d2, d3]
          repeat' first | refine And.intro ?_ ?_ | intro _
          all_goals first
            | omega
            | contradiction
            | exact True.intro
            | exact rfl
            | (rename_i q; exact absurd q (by decide))
            | (rename_i q; have q := ne_of_beq_false q; omega)
            | (rename_i q; simp at q; done)
            | skip)
  simp only [vVs, vV, vR, vN, vI, vL, vB, vHp, List.map_nil] at key
  exact key
end Go.Am
