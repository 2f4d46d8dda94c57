/-
  Wire: the document's reader.
-/
import Derived.Test.YtcodkoholbmkkaaWrQ
namespace Go.Am
open Go.Proofs
set_option maxRecDepth 100000
def docB (k n : Nat) (a : Nat) : Option Blk := some ⟨1, [.slice true (.ro k) 0 n, .int .i64 (a : Int)]⟩
theorem dg01 (G : Nat → List AV) (B : Nat) : DGood (⟨Try.prog, G, B⟩ : Ctx) (Dc Try.prog [] [] [] 1) [] := dgood (mix G B) (by kernel_rfl) .nil .nil
theorem rl40 (G : Nat → List AV) (B : Nat) (k n a : Nat) (hb : b8s (G k) = true) (hn : (G k).length = n) (h62 : n ≤ 4611686018427387904) (ha : a ≤ n) :
    AWp (⟨Try.prog, G, B⟩ : Ctx) 1 (.loop (loopN Try.f40 0)) (fl 72 [0, 2, 3, 4, 5] [.ptr (.rw 0) 0, .int .u64 0, .int .i64 0, .int .u64 0, .int .i64 0]) [docB k n a]
      (lv 72 [0, 2, 3, 4, 5] fun e vs H => (e = .exit 0 ∧ wrd (G k) a = none ∧ wk [.ptr (.rw 0) 0, .int .u64 0, .int .i64 0, .undef, .undef] vs ∧ H = [docB k n a])
        ∨ (e = .ret ∧ wrd (G k) a = none ∧ wk [.ptr (.rw 0) 0, .int .u64 0, .int .i64 4, .undef, .undef] vs ∧ H = [docB k n a])
        ∨ (e = .ret ∧ ∃ v j, wrd (G k) a = some (v, j) ∧ wk [.ptr (.rw 0) 0, .int .u64 (v : Int), .int .i64 0, .undef, .undef] vs ∧ H = [docB k n (a + j)])) := by
  refine aloop_lv (fun j vs H => ∃ i acc : Nat, i ≤ 9 ∧ j = 9 - i ∧ acc < 128 ^ i ∧ wrd (G k) a = (wrdF (G k) a (10 - i) i).map (upd acc i) ∧ vs = [.ptr (.rw 0) 0, .int .u64 0, .int .i64 0, .int .u64 (acc : Int), .int .i64 (i : Int)] ∧ H = [docB k n a]) 9
    ⟨0, 0, by omega, rfl, by simp, by rw [show upd 0 0 = id from by funext p; simp [upd]]; simp [wrd], rfl, rfl⟩ ?_
  rintro j vs H ⟨i, acc, hk, rfl, hacc, hs, rfl, rfl⟩
  refine dloop_ok (C := (⟨Try.prog, G, B⟩ : Ctx)) (dg01 G B) (fuel := 200) (n0 := 10) (m := 1) (c := loopN Try.f40 0) (vs := [.ptr (.rw 0) (.lit 0), .int .u64 (.lit 0), .int .i64 (.lit 0), .int .u64 (.var 1 (acc : Int)), .int .i64 (.var 2 (i : Int))])
    (H := [some ⟨1, .of [.slice true (.ro (.var 6 k)) (.lit 0) (.var 4 n), .int .i64 (.var 5 (a : Int))]⟩]) (by simp) ?_
  rw [rb40]
  have w1 : IntKind.wrap .i64 ((a : Int) + (i : Int)) = ((a + i : Nat) : Int) := by rw [i64_in (by omega)]; omega
  have w2 : IntKind.wrap .i64 (7 * (i : Int)) = ((7 * i : Nat) : Int) := by rw [i64_in (by omega)]; omega
  have w3 : IntKind.wrap .i64 ((i : Int) + 1) = ((i + 1 : Nat) : Int) := by rw [i64_in (by omega)]; omega
  have w4 : IntKind.wrap .i64 (((a + i : Nat) : Int) + 1) = ((a + (i + 1) : Nat) : Int) := by rw [i64_in (by omega)]; omega
  rw [w1, w2, w3, w4, Int.toNat_natCast]
  refine ⟨fun _ => ⟨fun hl => ?_, fun hl => ?_⟩, fun h => absurd (of_decide_eq_false h) (by omega)⟩
  · have hl0 := of_decide_eq_true hl
    clear hl
    have hl : a + i < (G k).length := by omega
    obtain ⟨g1, g2, g3⟩ := b8s_get hb hl
    have g0 : decide ((0 : Int) ≤ ((a + i : Nat) : Int)) = true := decide_eq_true (by omega)
    have g7 : decide ((0 : Int) ≤ ((7 * i : Nat) : Int)) = true := decide_eq_true (by omega)
    have hc : getI (G k) (a + i) = ((getI (G k) (a + i)).toNat : Int) := by omega
    have hd : (getI (G k) (a + i)).toNat % 128 < 128 := Nat.mod_lt _ (by omega)
    have tm : IntKind.wrap .u64 (Int.tmod (getI (G k) (a + i)) 128) = (((getI (G k) (a + i)).toNat % 128 : Nat) : Int) := by
      rw [Int.tmod_eq_emod_of_nonneg g2, u64_in (by omega)]; omega
    rw [tm]
    have vals : ¬ Bad (G k) a i → IntKind.wrap .u64 ((acc : Int) + kShl .u64 (((getI (G k) (a + i)).toNat % 128 : Nat) : Int) ((7 * i : Nat) : Int)) = ((acc + (getI (G k) (a + i)).toNat % 128 * 128 ^ i : Nat) : Int) := fun hb => by
      have h9 : i = 9 → (getI (G k) (a + i)).toNat % 128 ≤ 1 := fun h => by
        have : ¬ 1 < (getI (G k) (a + i)).toNat := fun h1 => hb (.inl ⟨h, h1⟩)
        omega
      have hf := dig_fit hk hd h9
      have hp := pow9 hk
      rw [shl_dig hk hd h9, u64_in (by omega)]; omega
    have ret : ¬ Bad (G k) a i → (getI (G k) (a + i)).toNat < 128 → wrd (G k) a = some (acc + (getI (G k) (a + i)).toNat % 128 * 128 ^ i, i + 1) := fun hb hc => by
      have := wrd_last hs hk hl hb hc
      rwa [Nat.mod_eq_of_lt hc]
    refine ⟨g0, decide_eq_true (by omega), g1, fun h9 => ⟨fun h => ?_, fun h => ⟨decide_eq_true (by have := eq_of_beq h9; omega), fun h0 => ?_, fun h0 => ?_⟩⟩, fun h9 => ⟨fun hp => ⟨fun h0 => ?_, fun h0 => ⟨g7, fun hlt => ?_, fun hlt => ?_⟩⟩, fun hp => ⟨g7, fun hlt => ?_, fun hlt => ?_⟩⟩⟩
    all_goals try simp only [decide_eq_true_eq, decide_eq_false_iff_not, beq_iff_eq, beq_eq_false_iff_ne, ne_eq] at *
    · exact .inr (.inl ⟨by trivial, wrd_stop hs hk (.inr (.inl ⟨by omega, by omega⟩)), by simp [wk], rfl⟩)
    · exact .inr (.inl ⟨by trivial, wrd_stop hs hk (.inr (.inr ⟨by omega, by omega⟩)), by simp [wk], rfl⟩)
    · have nb : ¬ Bad (G k) a i := by rintro (⟨_, h2⟩ | ⟨_, h2⟩) <;> omega
      rw [vals nb]
      exact ⟨by omega, by omega, .inr (.inr ⟨by trivial, _, _, ret nb (by omega), by simp [wk], rfl⟩)⟩
    · exact .inr (.inl ⟨by trivial, wrd_stop hs hk (.inr (.inr ⟨by omega, by omega⟩)), by simp [wk], rfl⟩)
    · have nb : ¬ Bad (G k) a i := by rintro (⟨_, h2⟩ | ⟨_, h2⟩) <;> omega
      rw [vals nb]
      exact .inr (.inr ⟨by trivial, _, _, ret nb (by omega), by simp [wk], rfl⟩)
    · have nb : ¬ Bad (G k) a i := by rintro (⟨_, h2⟩ | ⟨_, h2⟩) <;> omega
      rw [vals nb]
      obtain ⟨n1, n2⟩ := wrd_next hs hk hl nb (by omega)
      exact ⟨9 - (i + 1), by omega, .inl ⟨i + 1, _, by omega, rfl, acc_next hacc hd, n2, rfl, rfl⟩⟩
    · have nb : ¬ Bad (G k) a i := by rintro (⟨_, h2⟩ | ⟨_, h2⟩) <;> omega
      rw [vals nb]
      exact .inr (.inr ⟨by trivial, _, _, ret nb (by omega), by simp [wk], rfl⟩)
    · have nb : ¬ Bad (G k) a i := by rintro (⟨_, h2⟩ | ⟨_, h2⟩) <;> omega
      rw [vals nb]
      obtain ⟨n1, n2⟩ := wrd_next hs hk hl nb (by omega)
      exact ⟨9 - (i + 1), by omega, .inl ⟨i + 1, _, by omega, rfl, acc_next hacc hd, n2, rfl, rfl⟩⟩
  · have hl := of_decide_eq_false hl
    exact .inl ⟨by trivial, wrd_stop hs hk (.inl (by omega)), by simp [wk], rfl⟩
def rL40 : DL := ⟨0, 72, [0, 2, 3, 4, 5], fun vs H => match vs, H with
  | [.ptr (.rw 0) (.lit 0), .int .u64 (.lit 0), .int .i64 (.lit 0), .int .u64 (.lit 0), .int .i64 (.lit 0)], [some ⟨1, .of [.slice true (.ro k) (.lit 0) n, .int .i64 a]⟩] =>
    some (.chk (.uf 1120 okRdU [.agg (.ro k), .ptr (.rw 0) n, .int .i64 a]) <| .tst (.uf 1121 rdOkU [.agg (.ro k), .int .i64 a])
      (.one .ret [.ptr (.rw 0) (.lit 0), .int .u64 (.uf 1122 rdVU [.agg (.ro k), .int .i64 a]), .int .i64 (.lit 0), .undef, .undef] [some ⟨1, .of [.slice true (.ro k) (.lit 0) n, .int .i64 (.uf 1124 rdAU [.agg (.ro k), .int .i64 a])]⟩])
      (.allB fun b => .tst b (.one (.exit 0) [.ptr (.rw 0) (.lit 0), .int .u64 (.lit 0), .int .i64 (.lit 0), .undef, .undef] [some ⟨1, .of [.slice true (.ro k) (.lit 0) n, .int .i64 a]⟩])
        (.one .ret [.ptr (.rw 0) (.lit 0), .int .u64 (.lit 0), .int .i64 (.lit 4), .undef, .undef] [some ⟨1, .of [.slice true (.ro k) (.lit 0) n, .int .i64 a]⟩])))
  | _, _ => none⟩
theorem rL40_ok (G : Nat → List AV) (B : Nat) : DLoopOk (⟨Try.prog, G, B⟩ : Ctx) 1 (loopN Try.f40 0) rL40 := by
  refine .of fun vs H o ho n Q hQ => ?_
  simp only [rL40] at ho
  split at ho
  · rename_i k n a
    simp only [Option.some.injEq] at ho
    subst ho
    obtain ⟨h1, h3, h4⟩ := hQ
    simp only [vB, vVs, vV, vR, vN, vL] at h1 h3 h4
    have ok := okRd_iff.1 h1
    simp only [rL40, vVs, vV, vR, vN, vI, vL, vHp, List.map_cons, List.map_nil, Option.map_some, vBlk]
    have key := rl40 G B (vN G k) (vN G n) (vI G a).toNat ok.b ok.len ok.big ok.le
    simp only [docB] at key
    rw [← ok.pos] at key
    refine key.lmono ?_
    rintro e vs'' H'' (⟨rfl, g1, g2, rfl⟩ | ⟨rfl, g1, g2, rfl⟩ | ⟨rfl, v, j, g1, g2, rfl⟩)
    · have := (h4 (by simp [rdOkU, g1]) true).1 rfl
      refine .inl ⟨_, g2, ?_⟩
      simp only [lHolds, vVs, vV, vR, vN, vI, vB, vL, vHp, List.map_cons, List.map_nil, Option.map_some, vBlk] at this
      exact this
    · have := (h4 (by simp [rdOkU, g1]) false).2 rfl
      refine .inl ⟨_, g2, ?_⟩
      simp only [lHolds, vVs, vV, vR, vN, vI, vB, vL, vHp, List.map_cons, List.map_nil, Option.map_some, vBlk] at this
      exact this
    · have := h3 (by simp [rdOkU, g1])
      refine .inl ⟨_, g2, ?_⟩
      simp only [lHolds, vVs, vV, vR, vN, vI, vB, vL, vHp, List.map_cons, List.map_nil, Option.map_some, vBlk, rdVU, rdAU, g1] at this
      exact this
  · simp at ho
theorem dgR40 (G : Nat → List AV) (B : Nat) : DGood (⟨Try.prog, G, B⟩ : Ctx) (Dc Try.prog [] [] [rL40] 1) (loopsOf (bodyOf Try.f40)) := dgood (mix G B) (by kernel_rfl) .nil (.cast (.cons (i := 0) (by kernel_rfl) rfl (rL40_ok G B) .nil) (by kernel_rfl))
theorem t40 (G : Nat → List AV) (k n : Nat) (a : Int) (Q : Ex → List AV → Hp → Prop) (R : AV → Hp → Prop) : vT G Q R (dcall (Dc Try.prog [] [] [rL40] 1) 200 10 Try.f40 [.ptr (.rw 0) (.lit 0)] [some ⟨1, .of [.slice true (.ro (.var 6 k)) (.lit 0) (.var 4 n), .int .i64 (.var 5 a)]⟩] 1) = (
    okRdU [.agg (G (k)), .ptr (.rw 0) (n), .int .i64 (a)] = true ∧
    (rdOkU [.agg (G (k)), .int .i64 (a)] = true →
      R (.tup [.int .u64 (rdVU [.agg (G (k)), .int .i64 (a)]), .int .i64 (0)]) [some ⟨1, ([.slice true (.ro (k)) (0) (n), .int .i64 (rdAU [.agg (G (k)), .int .i64 (a)])] : List AV)⟩]) ∧
    (rdOkU [.agg (G (k)), .int .i64 (a)] = false →
      (∀ b10 : Bool,
      (b10 = true →
        R (.tup [.int .u64 (0), .int .i64 (4)]) [some ⟨1, ([.slice true (.ro (k)) (0) (n), .int .i64 (a)] : List AV)⟩]) ∧
      (b10 = false →
        R (.tup [.int .u64 (0), .int .i64 (4)]) [some ⟨1, ([.slice true (.ro (k)) (0) (n), .int .i64 (a)] : List AV)⟩])))) := by kernel_rfl
theorem read40 (G : Nat → List AV) (B : Nat) (k n : Nat) (a : Int) (h : okRdU [.agg (G k), .ptr (.rw 0) n, .int .i64 a] = true) : ACalls (⟨Try.prog, G, B⟩ : Ctx) 40 [.ptr (.rw 0) 0] [some ⟨1, [.slice true (.ro k) 0 n, .int .i64 a]⟩]
    fun v' H' => v' = .tup [.int .u64 (rdVU [.agg (G k), .int .i64 a]), .int .i64 (rdEU [.agg (G k), .int .i64 a])] ∧ H'.take 1 = [some ⟨1, [.slice true (.ro k) 0 n, .int .i64 (rdAU [.agg (G k), .int .i64 a])]⟩] := by
  exact dcall_ok (C := (⟨Try.prog, G, B⟩ : Ctx)) (fn := Try.f40) (f := 40) (R := fun v' H' => v' = .tup [.int .u64 (rdVU [.agg (G k), .int .i64 a]), .int .i64 (rdEU [.agg (G k), .int .i64 a])] ∧ H' = [some ⟨1, [.slice true (.ro k) 0 n, .int .i64 (rdAU [.agg (G k), .int .i64 a])]⟩])
    (dgR40 G B) (by kernel_rfl) (by kernel_rfl) (by kernel_rfl) (fuel := 200) (n0 := 10) (keep := 1) (args := [.ptr (.rw 0) (.lit 0)]) (H := [some ⟨1, .of [.slice true (.ro (.var 6 k)) (.lit 0) (.var 4 n), .int .i64 (.var 5 a)]⟩]) (by
    rw [t40]
    obtain ⟨g1, g2⟩ := rd_vals (l := G k) (k := .i64) (a := a)
    refine ⟨h, fun hk => ?_, fun hk => ?_⟩
    · rw [g1 hk]; exact ⟨rfl, rfl⟩
    · obtain ⟨e1, e2, e3⟩ := g2 hk
      rw [e1, e2, e3]
      exact fun b => ⟨fun _ => ⟨rfl, rfl⟩, fun _ => ⟨rfl, rfl⟩⟩)
def dreadS : DSum := fun xs H => match xs with
  | [.ptr (.rw i) (.lit 0)] => match H[i]? with
    | some (some ⟨1, .of [.slice true (.ro k) (.lit 0) n, .int .i64 a]⟩) =>
      some (.chk (.uf 1120 okRdU [.agg (.ro k), .ptr (.rw 0) n, .int .i64 a]) (.one (.tup [.int .u64 (.uf 1122 rdVU [.agg (.ro k), .int .i64 a]), .int .i64 (.uf 1123 rdEU [.agg (.ro k), .int .i64 a])]) [.set i ⟨1, .of [.slice true (.ro k) (.lit 0) n, .int .i64 (.uf 1124 rdAU [.agg (.ro k), .int .i64 a])]⟩]))
    | _ => none
  | _ => none
theorem dreadS_ok (G : Nat → List AV) (B : Nat) : DSumOk (⟨Try.prog, G, B⟩ : Ctx) 40 dreadS := by
  intro xs H o ho
  simp only [dreadS] at ho
  split at ho
  · rename_i i
    split at ho
    · rename_i k n a hi
      simp only [Option.some.injEq] at ho
      subst ho
      intro h1
      simp only [vB, vVs, vV, vR, vN, vL] at h1
      refine DOut.set1 (C := (⟨Try.prog, G, B⟩ : Ctx)) (rest := []) hi ?_ (by simp [vL, vVs, vV, vR, vN, bnds, bnd]) (by simp [vL, vVs, vV, vR, vN, bnds, bnd]) rfl (by simp [vV, vVs, bnd, bnds]) (by simp [vV])
      simp only [vVs, vV, vB, vI, vL, vR, vN]
      exact read40 G B (vN G k) (vN G n) (vI G a) h1
    · simp at ho
  · simp at ho
/-! the document's Bytes -/
def docQ : List (Nat × DSum) := [(40, dreadS)]
theorem docQ_ok (G : Nat → List AV) (B : Nat) : DSumsOk (⟨Try.prog, G, B⟩ : Ctx) docQ := .cons (dreadS_ok G B) .nil
theorem dgDQ (G : Nat → List AV) (B : Nat) : DGood (⟨Try.prog, G, B⟩ : Ctx) (Dc Try.prog [32] docQ [] 1) [] := dgood (mix G B) (by kernel_rfl) (docQ_ok G B) .nil
theorem t43 (G : Nat → List AV) (k n : Nat) (a m : Int) (Q : Ex → List AV → Hp → Prop) (R : AV → Hp → Prop) : vT G Q R (dcall (Dc Try.prog [32] docQ [] 1) 200 10 Try.f43 [.ptr (.rw 0) (.lit 0), .int .i64 (.var 7 m)] [some ⟨1, .of [.slice true (.ro (.var 6 k)) (.lit 0) (.var 4 n), .int .i64 (.var 5 a)]⟩] 2) = (
    okRdU [.agg (G (k)), .ptr (.rw 0) (n), .int .i64 (a)] = true ∧
    (((rdEU [.agg (G (k)), .int .i64 (a)] : Int) == 0) = true →
      (decide ((rdVU [.agg (G (k)), .int .i64 (a)] : Int) > IntKind.wrap .u64 (m)) = true →
        R (.tup [.nils, .int .i64 (3)]) [some ⟨1, ([.slice true (.ro (k)) (0) (n), .int .i64 (a)] : List AV)⟩]) ∧
      (decide ((rdVU [.agg (G (k)), .int .i64 (a)] : Int) > IntKind.wrap .u64 (m)) = false →
        ((rdEU [.agg (G (k)), .int .i64 (a)] : Int) == 0) = true ∧
        (decide ((rdVU [.agg (G (k)), .int .i64 (a)] : Int) > IntKind.wrap .u64 (IntKind.wrap .i64 (((n : Nat) : Int) - rdAU [.agg (G (k)), .int .i64 (a)]))) = true →
          R (.tup [.nils, .int .i64 (4)]) [some ⟨1, ([.slice true (.ro (k)) (0) (n), .int .i64 (a)] : List AV)⟩]) ∧
        (decide ((rdVU [.agg (G (k)), .int .i64 (a)] : Int) > IntKind.wrap .u64 (IntKind.wrap .i64 (((n : Nat) : Int) - rdAU [.agg (G (k)), .int .i64 (a)]))) = false →
          ((rdEU [.agg (G (k)), .int .i64 (a)] : Int) == 0) = true ∧
          decide ((0 : Int) ≤ IntKind.wrap .i64 (IntKind.wrap .i64 (rdAU [.agg (G (k)), .int .i64 (a)] + IntKind.wrap .i64 (rdVU [.agg (G (k)), .int .i64 (a)])) - IntKind.wrap .i64 (rdVU [.agg (G (k)), .int .i64 (a)]))) = true ∧
          decide ((IntKind.wrap .i64 (IntKind.wrap .i64 (rdAU [.agg (G (k)), .int .i64 (a)] + IntKind.wrap .i64 (rdVU [.agg (G (k)), .int .i64 (a)])) - IntKind.wrap .i64 (rdVU [.agg (G (k)), .int .i64 (a)])) : Int) ≤ IntKind.wrap .i64 (rdAU [.agg (G (k)), .int .i64 (a)] + IntKind.wrap .i64 (rdVU [.agg (G (k)), .int .i64 (a)]))) = true ∧
          decide ((IntKind.wrap .i64 (rdAU [.agg (G (k)), .int .i64 (a)] + IntKind.wrap .i64 (rdVU [.agg (G (k)), .int .i64 (a)])) : Int) ≤ ((n : Nat) : Int)) = true ∧
          leB (Int.toNat (IntKind.wrap .i64 (IntKind.wrap .i64 (rdAU [.agg (G (k)), .int .i64 (a)] + IntKind.wrap .i64 (rdVU [.agg (G (k)), .int .i64 (a)])) - IntKind.wrap .i64 (rdVU [.agg (G (k)), .int .i64 (a)]))) + ((Int.toNat (IntKind.wrap .i64 (rdAU [.agg (G (k)), .int .i64 (a)] + IntKind.wrap .i64 (rdVU [.agg (G (k)), .int .i64 (a)])))) - (Int.toNat (IntKind.wrap .i64 (IntKind.wrap .i64 (rdAU [.agg (G (k)), .int .i64 (a)] + IntKind.wrap .i64 (rdVU [.agg (G (k)), .int .i64 (a)])) - IntKind.wrap .i64 (rdVU [.agg (G (k)), .int .i64 (a)])))))) (List.length (G (k))) = true ∧
          cellsB (subL (G (k)) (Int.toNat (IntKind.wrap .i64 (IntKind.wrap .i64 (rdAU [.agg (G (k)), .int .i64 (a)] + IntKind.wrap .i64 (rdVU [.agg (G (k)), .int .i64 (a)])) - IntKind.wrap .i64 (rdVU [.agg (G (k)), .int .i64 (a)])))) ((Int.toNat (IntKind.wrap .i64 (rdAU [.agg (G (k)), .int .i64 (a)] + IntKind.wrap .i64 (rdVU [.agg (G (k)), .int .i64 (a)])))) - (Int.toNat (IntKind.wrap .i64 (IntKind.wrap .i64 (rdAU [.agg (G (k)), .int .i64 (a)] + IntKind.wrap .i64 (rdVU [.agg (G (k)), .int .i64 (a)])) - IntKind.wrap .i64 (rdVU [.agg (G (k)), .int .i64 (a)])))))) = true ∧
          leB ((Int.toNat (IntKind.wrap .i64 (rdAU [.agg (G (k)), .int .i64 (a)] + IntKind.wrap .i64 (rdVU [.agg (G (k)), .int .i64 (a)])))) - (Int.toNat (IntKind.wrap .i64 (IntKind.wrap .i64 (rdAU [.agg (G (k)), .int .i64 (a)] + IntKind.wrap .i64 (rdVU [.agg (G (k)), .int .i64 (a)])) - IntKind.wrap .i64 (rdVU [.agg (G (k)), .int .i64 (a)]))))) (140737488355328) = true ∧
          R (.tup [.slice true (.rw 1) (0) ((Int.toNat (IntKind.wrap .i64 (rdAU [.agg (G (k)), .int .i64 (a)] + IntKind.wrap .i64 (rdVU [.agg (G (k)), .int .i64 (a)])))) - (Int.toNat (IntKind.wrap .i64 (IntKind.wrap .i64 (rdAU [.agg (G (k)), .int .i64 (a)] + IntKind.wrap .i64 (rdVU [.agg (G (k)), .int .i64 (a)])) - IntKind.wrap .i64 (rdVU [.agg (G (k)), .int .i64 (a)]))))), .int .i64 (0)]) [some ⟨1, ([.slice true (.ro (k)) (0) (n), .int .i64 (IntKind.wrap .i64 (rdAU [.agg (G (k)), .int .i64 (a)] + IntKind.wrap .i64 (rdVU [.agg (G (k)), .int .i64 (a)])))] : List AV)⟩, some ⟨1, (subL (G (k)) (Int.toNat (IntKind.wrap .i64 (IntKind.wrap .i64 (rdAU [.agg (G (k)), .int .i64 (a)] + IntKind.wrap .i64 (rdVU [.agg (G (k)), .int .i64 (a)])) - IntKind.wrap .i64 (rdVU [.agg (G (k)), .int .i64 (a)])))) ((Int.toNat (IntKind.wrap .i64 (rdAU [.agg (G (k)), .int .i64 (a)] + IntKind.wrap .i64 (rdVU [.agg (G (k)), .int .i64 (a)])))) - (Int.toNat (IntKind.wrap .i64 (IntKind.wrap .i64 (rdAU [.agg (G (k)), .int .i64 (a)] + IntKind.wrap .i64 (rdVU [.agg (G (k)), .int .i64 (a)])) - IntKind.wrap .i64 (rdVU [.agg (G (k)), .int .i64 (a)]))))))⟩]))) ∧
    (((rdEU [.agg (G (k)), .int .i64 (a)] : Int) == 0) = false →
      (!(((rdEU [.agg (G (k)), .int .i64 (a)] : Int) == 0))) = true ∧
      (!(((rdEU [.agg (G (k)), .int .i64 (a)] : Int) == 0))) = true ∧
      R (.tup [.nils, .int .i64 (rdEU [.agg (G (k)), .int .i64 (a)])]) [some ⟨1, ([.slice true (.ro (k)) (0) (n), .int .i64 (a)] : List AV)⟩])) := by kernel_rfl
theorem bytes43a (G : Nat → List AV) (B : Nat) (k n : Nat) (a m : Int) (h : okRdU [.agg (G k), .ptr (.rw 0) n, .int .i64 a] = true) (h40 : n ≤ 1099511627776) (hm : 0 ≤ m ∧ m ≤ 9223372036854775807) : ACalls (⟨Try.prog, G, B⟩ : Ctx) 43 [.ptr (.rw 0) 0, .int .i64 m] [some ⟨1, [.slice true (.ro k) 0 n, .int .i64 a]⟩]
    fun v' H' => (rbOk (G k) n a m = false ∧ v' = .tup [.nils, .int .i64 (rbEU [.agg (G k), .ptr (.rw 0) n, .int .i64 a, .int .i64 m])] ∧ H'.take 2 = [some ⟨1, [.slice true (.ro k) 0 n, .int .i64 a]⟩]) ∨
      (rbOk (G k) n a m = true ∧ v' = .tup [.slice true (.rw 1) 0 (rbNU [.agg (G k), .ptr (.rw 0) n, .int .i64 a, .int .i64 m]), .int .i64 0] ∧ H'.take 2 = [some ⟨1, [.slice true (.ro k) 0 n, .int .i64 (rbAU [.agg (G k), .ptr (.rw 0) n, .int .i64 a, .int .i64 m])]⟩, some ⟨1, rbCU [.agg (G k), .ptr (.rw 0) n, .int .i64 a, .int .i64 m]⟩]) := by
  have ok := okRd_iff.1 h
  have hp := ok.pos
  have hle := ok.le
  have hlen := ok.len
  exact dcall_ok (C := (⟨Try.prog, G, B⟩ : Ctx)) (fn := Try.f43) (f := 43) (R := fun v' H' => (rbOk (G k) n a m = false ∧ v' = .tup [.nils, .int .i64 (rbEU [.agg (G k), .ptr (.rw 0) n, .int .i64 a, .int .i64 m])] ∧ H' = [some ⟨1, [.slice true (.ro k) 0 n, .int .i64 a]⟩]) ∨
      (rbOk (G k) n a m = true ∧ v' = .tup [.slice true (.rw 1) 0 (rbNU [.agg (G k), .ptr (.rw 0) n, .int .i64 a, .int .i64 m]), .int .i64 0] ∧ H' = [some ⟨1, [.slice true (.ro k) 0 n, .int .i64 (rbAU [.agg (G k), .ptr (.rw 0) n, .int .i64 a, .int .i64 m])]⟩, some ⟨1, rbCU [.agg (G k), .ptr (.rw 0) n, .int .i64 a, .int .i64 m]⟩]))
    (dgDQ G B) (by kernel_rfl) (by kernel_rfl) (by kernel_rfl) (fuel := 200) (n0 := 10) (keep := 2) (args := [.ptr (.rw 0) (.lit 0), .int .i64 (.var 7 m)]) (H := [some ⟨1, .of [.slice true (.ro (.var 6 k)) (.lit 0) (.var 4 n), .int .i64 (.var 5 a)]⟩]) (by
    rw [t43]
    dsimp only
    have wm : IntKind.wrap .u64 m = m := u64_in (by omega)
    rw [wm]
    refine ⟨h, fun he => ?_, fun he => ?_⟩
    · have he := eq_of_beq he
      obtain ⟨b1, b2, b3⟩ := rd_bound (k := .i64) ok he
      refine ⟨fun hv => ?_, fun hv => ⟨by rw [he]; rfl, ?_⟩⟩
      · have hv := of_decide_eq_true hv
        exact .inl ⟨by simp [rbOk]; omega, by simp only [rbEU, he, if_true]; rw [if_neg (by omega)], rfl⟩
      · have hv := of_decide_eq_false hv
        have w1 : IntKind.wrap .i64 (rdVU [.agg (G k), .int .i64 a]) = rdVU [.agg (G k), .int .i64 a] := i64_in (by omega)
        have w2 : IntKind.wrap .u64 (IntKind.wrap .i64 ((n : Int) - rdAU [.agg (G k), .int .i64 a])) = (n : Int) - rdAU [.agg (G k), .int .i64 a] := by rw [i64_in (by omega), u64_in (by omega)]
        rw [w1, w2]
        refine ⟨fun hc => ?_, fun hc => ?_⟩
        · have hc := of_decide_eq_true hc
          exact .inl ⟨by simp [rbOk]; omega, by simp only [rbEU, he, if_true]; rw [if_pos (by omega), if_neg (by omega)], rfl⟩
        · have hc := of_decide_eq_false hc
          have w3 : IntKind.wrap .i64 (rdAU [.agg (G k), .int .i64 a] + rdVU [.agg (G k), .int .i64 a]) = rdAU [.agg (G k), .int .i64 a] + rdVU [.agg (G k), .int .i64 a] := i64_in (by omega)
          have w4 : IntKind.wrap .i64 (rdAU [.agg (G k), .int .i64 a] + rdVU [.agg (G k), .int .i64 a] - rdVU [.agg (G k), .int .i64 a]) = rdAU [.agg (G k), .int .i64 a] := by rw [i64_in (by omega)]; omega
          have w5 : (rdAU [.agg (G k), .int .i64 a] + rdVU [.agg (G k), .int .i64 a]).toNat - (rdAU [.agg (G k), .int .i64 a]).toNat = (rdVU [.agg (G k), .int .i64 a]).toNat := by omega
          have hok : rbOk (G k) n a m = true := by simp [rbOk, he]; omega
          rw [w3, w4, w5]
          exact ⟨by rw [he]; rfl, decide_eq_true (by omega), decide_eq_true (by omega), decide_eq_true (by omega), leB_iff.2 (by omega), u8s_cells (by have := b8s_u8 ok.b; simp only [u8s, List.all_eq_true, subL] at this ⊢; exact fun v hv => this v (List.mem_of_mem_drop (List.mem_of_mem_take hv))), leB_iff.2 (by omega), .inr ⟨hok, by simp [rbNU, hok], by simp [rbAU, rbCU, hok]⟩⟩
    · have he := ne_of_beq_false he
      have hb : (rdEU [.agg (G k), .int .i64 a] == 0) = false := by simp [he]
      rw [hb]
      exact ⟨rfl, rfl, .inl ⟨by simp [rbOk, he], by simp [rbEU, he], rfl⟩⟩)
/-- a nil result, or a list: as a list of its own -/
theorem merge_nil {C : Ctx} {f : FuncId} {args : List AV} {H0 H1 H2 : Hp} {k : Nat} {ok : Bool} {N : Nat} {E : Int} {cs : List AV} {mb : Bool} (h : ACalls C f args H0 fun v' H' => (ok = false ∧ v' = .tup [.nils, .int .i64 E] ∧ ∃ r, H'.take k = H1 ++ r) ∨ (ok = true ∧ v' = .tup [.slice mb (.rw H2.length) 0 N, .int .i64 0] ∧ H'.take k = H2 ++ [some ⟨1, cs⟩]))
    (h1 : H0.length ≤ H1.length) (b1 : hpB H1.length H1 = true) (h2 : H0.length ≤ H2.length + 1) (b2 : hpB (H2.length + 1) (H2 ++ [some ⟨1, cs⟩]) = true) (hE : ok = true → E = 0) (hN : ok = false → N = 0 ∧ cs = [] ∧ H2 = H1) :
    ACalls C f args H0 fun v' H' => v' = .tup [.slice true (.rw H2.length) 0 N, .int .i64 E] ∧ H' = H2 ++ [some ⟨1, cs⟩] := by
  have g1 := h.view (K' := fun v' H' => (ok = false ∧ v' = .tup [.nils, .int .i64 E] ∧ H' = H1) ∨ (ok = true ∧ v' = .tup [.slice mb (.rw H2.length) 0 N, .int .i64 0] ∧ H' = H2 ++ [some ⟨1, cs⟩])) (fun v H' hk => by
    rcases hk with ⟨g1, rfl, r, g3⟩ | ⟨g1, rfl, g3⟩
    · refine ⟨_, _, .inl ⟨g1, rfl, rfl⟩, ?_⟩
      have e : H' = H1 ++ (r ++ H'.drop k) := by rw [← List.append_assoc, ← g3, List.take_append_drop]
      rw [e]
      exact View.same h1 b1 ⟨⟨by simp [bnd, bnds], rfl⟩, trivial⟩
    · refine ⟨_, _, .inr ⟨g1, rfl, rfl⟩, ?_⟩
      have e : H' = (H2 ++ [some ⟨1, cs⟩]) ++ H'.drop k := by rw [← g3, List.take_append_drop]
      rw [e]
      exact View.same (by simpa using h2) (by simpa using b2) ⟨⟨by simp [bnd, bnds], rfl⟩, trivial⟩)
  have g2 := g1.nil (K' := fun v' H' => ∃ b, v' = .tup [.slice b (.rw H2.length) 0 N, .int .i64 E] ∧ H' = H2 ++ [some ⟨1, cs⟩]) 1 (fun v H' hk => by
    rcases hk with ⟨q1, rfl, q3⟩ | ⟨q1, rfl, q3⟩
    · obtain ⟨e1, e2, e3⟩ := hN q1
      refine .inr ⟨_, ⟨true, rfl, by rw [e2, e3, q3]⟩, nilH_refl _, ?_⟩
      rw [e1, e3, q3]
      exact ⟨.inr ⟨rfl, rfl⟩, .inl rfl, trivial⟩
    · exact .inl ⟨mb, by rw [hE q1], q3⟩)
  refine g2.conv fun v H' hk => ?_
  obtain ⟨b, rfl, rfl⟩ := hk
  refine ⟨_, ⟨rfl, rfl⟩, fun ρ cv hv => ?_⟩
  simp only [VR] at hv
  obtain ⟨vs, e, hs⟩ := hv
  simp only [VRs] at hs
  obtain ⟨x, ys, e1, e2, e3⟩ := hs
  simp only [VR, VRs]
  exact ⟨vs, e, x, ys, e1, by have := VR_may (ρ := ρ) (v := x) (mb := b) (by simpa only [VR] using e2); simpa only [VR] using this, e3⟩
theorem rb_E {s : List AV} {n : Nat} {a m : Int} (h : rbOk s n a m = true) : rbEU [.agg s, .ptr (.rw 0) n, .int .i64 a, .int .i64 m] = 0 := by
  simp only [rbOk, Bool.and_eq_true, decide_eq_true_eq] at h
  simp only [rbEU, h.1, if_true]
  rw [if_pos h.2.1, if_pos h.2.2]
theorem bytes43 (G : Nat → List AV) (B : Nat) (k n : Nat) (a m : Int) (h : okRdU [.agg (G k), .ptr (.rw 0) n, .int .i64 a] = true) (h40 : n ≤ 1099511627776) (hm : 0 ≤ m ∧ m ≤ 9223372036854775807) : ACalls (⟨Try.prog, G, B⟩ : Ctx) 43 [.ptr (.rw 0) 0, .int .i64 m] [some ⟨1, [.slice true (.ro k) 0 n, .int .i64 a]⟩]
    fun v' H' => v' = .tup [.slice true (.rw 1) 0 (rbNU [.agg (G k), .ptr (.rw 0) n, .int .i64 a, .int .i64 m]), .int .i64 (rbEU [.agg (G k), .ptr (.rw 0) n, .int .i64 a, .int .i64 m])] ∧ H' = [some ⟨1, [.slice true (.ro k) 0 n, .int .i64 (rbAU [.agg (G k), .ptr (.rw 0) n, .int .i64 a, .int .i64 m])]⟩] ++ [some ⟨1, rbCU [.agg (G k), .ptr (.rw 0) n, .int .i64 a, .int .i64 m]⟩] := by
  have hs := b8s_u8 (okRd_iff.1 h).b
  have hc : ∀ j, bnds j (rbCU [.agg (G k), .ptr (.rw 0) n, .int .i64 a, .int .i64 m]) = true := fun j => rbC_flat (fun l r n' k a' k' m' he => by simp at he; rw [← he.1]; exact hs) j
  exact merge_nil (ok := rbOk (G k) n a m) (H1 := [some ⟨1, [.slice true (.ro k) 0 n, .int .i64 a]⟩]) (H2 := [some ⟨1, [.slice true (.ro k) 0 n, .int .i64 (rbAU [.agg (G k), .ptr (.rw 0) n, .int .i64 a, .int .i64 m])]⟩]) (k := 2) (mb := true) ((bytes43a G B k n a m h h40 hm).mono fun v H' hk => hk.imp (fun ⟨q1, q2, q3⟩ => ⟨q1, q2, [], by rw [q3, List.append_nil]⟩) id)
    (by simp) (by simp [hpB, bnds, bnd]) (by simp) (by simp [hpB, bnds, bnd, hc]) rb_E (fun h => by simp [rbNU, rbCU, rbAU, h])
def dbytesR : DSum := fun xs H => match xs with
  | [.ptr (.rw i) (.lit 0), .int .i64 m'] => match H[i]? with
    | some (some ⟨1, .of [.slice true (.ro k) (.lit 0) n, .int .i64 a]⟩) =>
      some (.chk (.uf 1120 okRdU [.agg (.ro k), .ptr (.rw 0) n, .int .i64 a]) (.chk (.leN n (.lit 1099511627776)) (.chk (.cmp .leq (.lit 0) m') (.chk (.cmp .leq m' (.lit 9223372036854775807))
          (.one (.tup [.slice true (.rw H.length) (.lit 0) (.uf 1129 rbNU [.agg (.ro k), .ptr (.rw 0) n, .int .i64 a, .int .i64 m']), .int .i64 (.uf 1128 rbEU [.agg (.ro k), .ptr (.rw 0) n, .int .i64 a, .int .i64 m'])]) [.set i ⟨1, .of [.slice true (.ro k) (.lit 0) n, .int .i64 (.uf 1131 rbAU [.agg (.ro k), .ptr (.rw 0) n, .int .i64 a, .int .i64 m'])]⟩, .new ⟨1, .uf 1130 rbCU [.agg (.ro k), .ptr (.rw 0) n, .int .i64 a, .int .i64 m']⟩])))))
    | _ => none
  | _ => none
theorem dbytesR_ok (G : Nat → List AV) (B : Nat) : DSumOk (⟨Try.prog, G, B⟩ : Ctx) 43 dbytesR := by
  intro xs H o ho
  simp only [dbytesR] at ho
  split at ho
  · rename_i i m'
    split at ho
    · rename_i k n a hi
      simp only [Option.some.injEq] at ho
      subst ho
      intro h1 h2 h3 h4
      simp only [vB, vVs, vV, vR, vN, vL, cmpI, decide_eq_true_eq, vI] at h1 h2 h3 h4
      have hu := b8s_u8 (okRd_iff.1 h1).b
      have key := bytes43 G B (vN G k) (vN G n) (vI G a) (vI G m') h1 (leB_iff.1 h2) ⟨of_decide_eq_true h3, of_decide_eq_true h4⟩
      have hc : ∀ j, bnds j (rbCU [.agg (G (vN G k)), .ptr (.rw 0) (vN G n), .int .i64 (vI G a), .int .i64 (vI G m')]) = true := fun j => rbC_flat (fun l' r n' k a' k' m' he => by simp at he; rw [← he.1]; exact hu) j
      refine DOut.fr (θ := [i]) (by simp) rfl (fun k' b hk => ?_) (by simp [bnds, bnd]) (by simp [vVs, vV, vR, vN, rens, ren]) key (by simp) (by simp [bnd, bnds]) (by simp [hpB, hc, bnds, bnd]) (by simp [vV, vVs, vR, vN, vI, vL, ren, rens, wide]) ?_
      · match k' with
        | 0 => simp at hk; subst hk; exact ⟨_, rfl, by simp [bnds, bnd], by simpa [renB, vBlk, vL, vVs, vV, vR, vN, rens, ren] using vHp_some (G := G) hi⟩
        | k' + 1 => simp at hk
      · simp only [List.map_cons, List.map_nil, acts, Hop.act, vHop, vBlk, merge, lay, renO, renB, Option.map_some, rens_flat _ _ (hc 0), List.length_cons, List.length_nil, List.drop_succ_cons, List.drop_zero, vL, vVs, vV, vR, vN, vI, List.cons_append, List.nil_append]
        simp [rens, ren, wide]
    · simp at ho
  · simp at ho
/-! lists of numbers -/
def progT : List (Nat × DSum) := [(20, readS)]
theorem progT_ok (G : Nat → List AV) (B : Nat) : DSumsOk (⟨Try.prog, G, B⟩ : Ctx) progT := .cons (readS_ok G B) .nil
theorem dgT2 (G : Nat → List AV) (B : Nat) : DGood (⟨Try.prog, G, B⟩ : Ctx) (Dc Try.prog [] progT [] 2) [] := dgood (mix G B) (by kernel_rfl) (progT_ok G B) .nil
theorem dgT1 (G : Nat → List AV) (B : Nat) : DGood (⟨Try.prog, G, B⟩ : Ctx) (Dc Try.prog [] docQ [] 1) [] := dgood (mix G B) (by kernel_rfl) (docQ_ok G B) .nil
theorem rb44 (G : Nat → List AV) (s xs : List AV) (n len : Nat) (a b v e i : Int) (Q : Ex → List AV → Hp → Prop) (R : AV → Hp → Prop) : vT G Q R (dloop (Dc Try.prog [] progT [] 2) 200 20 2 (loopN Try.f44 0) 59 [0, 2, 6, 7, 8, 9, 10, 11, 12] [.ptr (.rw 0) (.lit 0), .func 20 [], .nils, .int .i64 (.lit 0), .int .i64 (.var 1 b), .int .i64 (.var 2 v), .int .i64 (.var 3 e), .slice false (.rw 2) (.lit 0) (.var 7 len), .int .i64 (.var 8 i)] [some ⟨1, .of [.slice false (.rw 1) (.lit 0) (.var 4 n), .int .i64 (.var 5 a)]⟩, some ⟨1, .var 6 s⟩, some ⟨1, .var 9 xs⟩]) = (
    (((e : Int) == 0) = true →
      (decide ((i : Int) < v) = true →
        okRdU [.agg s, .ptr (.rw 0) (n), .int .i64 (a)] = true ∧
        leB ((len + 1) * 8) (140737488355328) = true ∧
        Nat.beq (List.length xs) (len) = true ∧
        Q .normal [.ptr (.rw 0) (0), .func 20 [], .nils, .int .i64 (0), .int .i64 (b), .int .i64 (v), .int .i64 (rdEU [.agg s, .int .i64 (a)]), .slice false (.rw 4) (0) (len + 1), .int .i64 (IntKind.wrap .i64 (i + 1))] [some ⟨1, ([.slice false (.rw 1) (0) (n), .int .i64 (rdAU [.agg s, .int .i64 (a)])] : List AV)⟩, some ⟨1, s⟩, none, some ⟨1, ([.int .u64 (rdVU [.agg s, .int .i64 (a)])] : List AV)⟩, some ⟨1, (xs ++ ([.int .u64 (rdVU [.agg s, .int .i64 (a)])] : List AV))⟩]) ∧
      (decide ((i : Int) < v) = false →
        Q (.exit 0) [.ptr (.rw 0) (0), .func 20 [], .nils, .int .i64 (0), .int .i64 (b), .int .i64 (v), .int .i64 (e), .slice false (.rw 2) (0) (len), .int .i64 (i)] [some ⟨1, ([.slice false (.rw 1) (0) (n), .int .i64 (a)] : List AV)⟩, some ⟨1, s⟩, some ⟨1, xs⟩])) ∧
    (((e : Int) == 0) = false →
      Q (.exit 0) [.ptr (.rw 0) (0), .func 20 [], .nils, .int .i64 (0), .int .i64 (b), .int .i64 (v), .int .i64 (e), .slice false (.rw 2) (0) (len), .int .i64 (i)] [some ⟨1, ([.slice false (.rw 1) (0) (n), .int .i64 (a)] : List AV)⟩, some ⟨1, s⟩, some ⟨1, xs⟩])) := by kernel_rfl
theorem rb45 (G : Nat → List AV) (xs : List AV) (k n len : Nat) (a b v e i : Int) (Q : Ex → List AV → Hp → Prop) (R : AV → Hp → Prop) : vT G Q R (dloop (Dc Try.prog [] docQ [] 1) 200 20 1 (loopN Try.f45 0) 57 [0, 4, 5, 6, 7, 8, 9, 10] [.ptr (.rw 0) (.lit 0), .nils, .int .i64 (.lit 0), .int .i64 (.var 1 b), .int .u64 (.var 2 v), .int .i64 (.var 3 e), .slice true (.rw 1) (.lit 0) (.var 7 len), .int .u64 (.var 8 i)] [some ⟨1, .of [.slice true (.ro (.var 6 k)) (.lit 0) (.var 4 n), .int .i64 (.var 5 a)]⟩, some ⟨1, .var 9 xs⟩]) = (
    (((e : Int) == 0) = true →
      (decide ((i : Int) < v) = true →
        okRdU [.agg (G (k)), .ptr (.rw 0) (n), .int .i64 (a)] = true ∧
        leB ((len + 1) * 8) (140737488355328) = true ∧
        Nat.beq (List.length xs) (len) = true ∧
        Q .normal [.ptr (.rw 0) (0), .nils, .int .i64 (0), .int .i64 (b), .int .u64 (v), .int .i64 (rdEU [.agg (G (k)), .int .i64 (a)]), .slice true (.rw 3) (0) (len + 1), .int .u64 (IntKind.wrap .u64 (i + 1))] [some ⟨1, ([.slice true (.ro (k)) (0) (n), .int .i64 (rdAU [.agg (G (k)), .int .i64 (a)])] : List AV)⟩, none, some ⟨1, ([.int .u64 (rdVU [.agg (G (k)), .int .i64 (a)])] : List AV)⟩, some ⟨1, (xs ++ ([.int .u64 (rdVU [.agg (G (k)), .int .i64 (a)])] : List AV))⟩]) ∧
      (decide ((i : Int) < v) = false →
        Q (.exit 0) [.ptr (.rw 0) (0), .nils, .int .i64 (0), .int .i64 (b), .int .u64 (v), .int .i64 (e), .slice true (.rw 1) (0) (len), .int .u64 (i)] [some ⟨1, ([.slice true (.ro (k)) (0) (n), .int .i64 (a)] : List AV)⟩, some ⟨1, xs⟩])) ∧
    (((e : Int) == 0) = false →
      Q (.exit 0) [.ptr (.rw 0) (0), .nils, .int .i64 (0), .int .i64 (b), .int .u64 (v), .int .i64 (e), .slice true (.rw 1) (0) (len), .int .u64 (i)] [some ⟨1, ([.slice true (.ro (k)) (0) (n), .int .i64 (a)] : List AV)⟩, some ⟨1, xs⟩])) := by kernel_rfl
end Go.Am
