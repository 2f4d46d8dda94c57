/-
  WireReads: the loop and the run.
-/
import Derived.Test.YtcodkoholbmkkaaWrG
namespace Go.Am
open Go.Proofs
set_option maxRecDepth 100000
def stepS : DSum := fun xs H => match xs with
  | [.ptr (.rw i) (.lit 0), .ptr (.rw j) (.lit 0), .agg (.of [.int .i64 c, .int .i64 m'])] => match H[i]?, H[j]? with
    | some (some ⟨1, .of [.slice false (.rw q) (.lit 0) n, .int .i64 a]⟩), some (some ⟨1, .of [.slice true (.ro k') (.lit 0) n', .int .i64 a']⟩) => match H[q]? with
      | some (some ⟨1, .ro k⟩) => match ndB [i, q, j] with
        | true => some (.chk (.uf 1120 okRdU [.agg (.ro k), .ptr (.rw 0) n, .int .i64 a]) <| .chk (.leN n (.lit 1099511627776)) <| .chk (.cmp .leq m' (.lit 9223372036854775807)) <| .chk (.eqN k k') <| .chk (.eqN n n') <| .chk (.cmp .eql a a') <|
          .one (.bool (.lit true)) [.set i ⟨1, .of [.slice false (.rw q) (.lit 0) n, .int .i64 (.uf 1141 stAU [.agg (.ro k), .ptr (.rw 0) n, .int .i64 a, .int .i64 c, .int .i64 m'])]⟩, .set j ⟨1, .of [.slice true (.ro k') (.lit 0) n', .int .i64 (.uf 1141 stAU [.agg (.ro k), .ptr (.rw 0) n, .int .i64 a, .int .i64 c, .int .i64 m'])]⟩])
        | false => none
      | _ => none
    | _, _ => none
  | _ => none
theorem stepS_ok (G : Nat → List AV) (B : Nat) : DSumOk (⟨Try.prog, G, B⟩ : Ctx) 31 stepS := by
  intro xs H o ho
  simp only [stepS] at ho
  split at ho
  · rename_i i j c m'
    split at ho
    · rename_i q n a k' n' a' hi hj
      split at ho
      · rename_i k hq
        split at ho
        · rename_i hnd
          simp only [Option.some.injEq] at ho
          subst ho
          intro h1 h2 h3 h4 h5 h6
          simp only [vB, vVs, vV, vR, vN, vL, vI, cmpI] at h1 h2 h3 h4 h5 h6
          have hnd := ndB_eq hnd
          have e4 := Nat.eq_of_beq_eq_true h4
          have e5 := Nat.eq_of_beq_eq_true h5
          have e6 := eq_of_beq h6
          have hf : ∀ j, bnds j (G (vN G k)) = true := fun j => u8s_flat (b8s_u8 (okRd_iff.1 h1).b)
          have key := step31 G B (vN G k) (vN G n) (vI G a) (vI G c) (vI G m') h1 (leB_iff.1 h2) (of_decide_eq_true h3)
          have hiq : i ≠ q ∧ i ≠ j ∧ q ≠ j := by simpa [and_assoc] using hnd
          refine DOut.fr (θ := [i, q, j]) hnd rfl (fun z b hk => ?_) (by simp [bnds, bnd]) (by simp [vVs, vV, vR, vN, vL, vI, rens, ren]) key (by simp) (by simp [bnd]) (by simp [hpB, hf, bnds, bnd]) (by simp [vV, vB, ren]) ?_
          · match z with
            | 0 => simp at hk; subst hk; exact ⟨_, rfl, by simp [bnds, bnd], by simpa [renB, vBlk, vL, vVs, vV, vR, vN, rens, ren] using vHp_some (G := G) hi⟩
            | 1 => simp at hk; subst hk; exact ⟨_, rfl, hf _, by simpa [renB, vBlk, vL, rens_flat _ _ (hf 0)] using vHp_some (G := G) hq⟩
            | 2 => simp at hk; subst hk; exact ⟨_, rfl, by simp [bnds, bnd], by simpa [renB, vBlk, vL, vVs, vV, vR, vN, vI, rens, ren, e4, e5, e6] using vHp_some (G := G) hj⟩
            | z + 3 => simp at hk
          · have hs := vHp_set_same (G := G) hq
            simp only [vBlk, vL] at hs
            simp only [List.map_cons, List.map_nil, acts, Hop.act, vHop, vBlk, merge, lay, renO, renB, Option.map_some, rens_flat _ _ (hf 0), List.length_cons, List.length_nil, List.drop_succ_cons, List.drop_nil, List.append_nil, vL, vVs, vV, vR, vN, vI]
            rw [List.set_comm _ _ hiq.1, hs]
            simp [rens, ren, wide, e4, e5]
        · simp at ho
      · simp at ho
    · simp at ho
  · simp at ho
def progI : List (Nat × DSum) := (31, stepS) :: progS
theorem progI_ok (G : Nat → List AV) (B : Nat) : DSumsOk (⟨Try.prog, G, B⟩ : Ctx) progI := .cons (stepS_ok G B) (progS_ok G B)
theorem dgI (G : Nat → List AV) (B : Nat) : DGood (⟨Try.prog, G, B⟩ : Ctx) (Dc Try.prog [24, 25, 26, 32, 38] progI [] 0) [] := dgood (mix G B) (by kernel_rfl) (progI_ok G B) .nil
theorem rb6 (G : Nat → List AV) (c1 c6 : List AV) (k n k2 n2 : Nat) (a i : Int) (Q : Ex → List AV → Hp → Prop) (R : AV → Hp → Prop) : vT G Q R (dloop (Dc Try.prog [24, 25, 26, 32, 38] progI [] 0) 300 40 0 (loopN Try.f6 0) 69 [1, 4, 6, 7, 8] [.slice true (.ro (.var 7 k2)) (.lit 0) (.var 8 n2), .bool (.lit false), .ptr (.rw 5) (.lit 0), .ptr (.rw 7) (.lit 0), .int .i64 (.var 9 i)] [none, some ⟨1, .var 20 c1⟩, none, none, some ⟨1, .ro (.var 6 k)⟩, some ⟨1, .of [.slice false (.rw 4) (.lit 0) (.var 4 n), .int .i64 (.var 5 a)]⟩, some ⟨1, .var 21 c6⟩, some ⟨1, .of [.slice true (.ro (.var 6 k)) (.lit 0) (.var 4 n), .int .i64 (.var 5 a)]⟩]) = (
    (decide ((i : Int) < ((n2 : Nat) : Int)) = true →
      (decide ((i : Int) < 300) = true →
        decide ((0 : Int) ≤ i) = true ∧
        decide ((i : Int) < ((n2 : Nat) : Int)) = true ∧
        leafsOk (G (k2)) ((Int.toNat (i)) * 2) [.int .i64, .int .i64] = true ∧
        okRdU [.agg (G (k)), .ptr (.rw 0) (n), .int .i64 (a)] = true ∧
        leB (n) (1099511627776) = true ∧
        decide ((getI (G (k2)) ((Int.toNat (i)) * 2 + 1) : Int) ≤ 9223372036854775807) = true ∧
        Nat.beq (k) (k) = true ∧
        Nat.beq (n) (n) = true ∧
        ((a : Int) == a) = true ∧
        ((IntKind.wrap .i64 (((n : Nat) : Int) - stAU [.agg (G (k)), .ptr (.rw 0) (n), .int .i64 (a), .int .i64 (getI (G (k2)) ((Int.toNat (i)) * 2)), .int .i64 (getI (G (k2)) ((Int.toNat (i)) * 2 + 1))]) : Int) == IntKind.wrap .i64 (((n : Nat) : Int) - stAU [.agg (G (k)), .ptr (.rw 0) (n), .int .i64 (a), .int .i64 (getI (G (k2)) ((Int.toNat (i)) * 2)), .int .i64 (getI (G (k2)) ((Int.toNat (i)) * 2 + 1))])) = true ∧
        (decide ((IntKind.wrap .i64 (((n : Nat) : Int) - stAU [.agg (G (k)), .ptr (.rw 0) (n), .int .i64 (a), .int .i64 (getI (G (k2)) ((Int.toNat (i)) * 2)), .int .i64 (getI (G (k2)) ((Int.toNat (i)) * 2 + 1))]) : Int) > 0) = true →
          (!(((IntKind.wrap .i64 (((n : Nat) : Int) - stAU [.agg (G (k)), .ptr (.rw 0) (n), .int .i64 (a), .int .i64 (getI (G (k2)) ((Int.toNat (i)) * 2)), .int .i64 (getI (G (k2)) ((Int.toNat (i)) * 2 + 1))]) : Int) == 0))) = true ∧
          Q .normal [.slice true (.ro (k2)) (0) (n2), .bool (false), .ptr (.rw 5) (0), .ptr (.rw 7) (0), .int .i64 (IntKind.wrap .i64 (i + 1))] [none, some ⟨1, c1⟩, none, none, some ⟨1, (G (k))⟩, some ⟨1, ([.slice false (.rw 4) (0) (n), .int .i64 (stAU [.agg (G (k)), .ptr (.rw 0) (n), .int .i64 (a), .int .i64 (getI (G (k2)) ((Int.toNat (i)) * 2)), .int .i64 (getI (G (k2)) ((Int.toNat (i)) * 2 + 1))])] : List AV)⟩, some ⟨1, c6⟩, some ⟨1, ([.slice true (.ro (k)) (0) (n), .int .i64 (stAU [.agg (G (k)), .ptr (.rw 0) (n), .int .i64 (a), .int .i64 (getI (G (k2)) ((Int.toNat (i)) * 2)), .int .i64 (getI (G (k2)) ((Int.toNat (i)) * 2 + 1))])] : List AV)⟩]) ∧
        (decide ((IntKind.wrap .i64 (((n : Nat) : Int) - stAU [.agg (G (k)), .ptr (.rw 0) (n), .int .i64 (a), .int .i64 (getI (G (k2)) ((Int.toNat (i)) * 2)), .int .i64 (getI (G (k2)) ((Int.toNat (i)) * 2 + 1))]) : Int) > 0) = false →
          (((IntKind.wrap .i64 (((n : Nat) : Int) - stAU [.agg (G (k)), .ptr (.rw 0) (n), .int .i64 (a), .int .i64 (getI (G (k2)) ((Int.toNat (i)) * 2)), .int .i64 (getI (G (k2)) ((Int.toNat (i)) * 2 + 1))]) : Int) == 0) = true →
            Q .normal [.slice true (.ro (k2)) (0) (n2), .bool (false), .ptr (.rw 5) (0), .ptr (.rw 7) (0), .int .i64 (IntKind.wrap .i64 (i + 1))] [none, some ⟨1, c1⟩, none, none, some ⟨1, (G (k))⟩, some ⟨1, ([.slice false (.rw 4) (0) (n), .int .i64 (stAU [.agg (G (k)), .ptr (.rw 0) (n), .int .i64 (a), .int .i64 (getI (G (k2)) ((Int.toNat (i)) * 2)), .int .i64 (getI (G (k2)) ((Int.toNat (i)) * 2 + 1))])] : List AV)⟩, some ⟨1, c6⟩, some ⟨1, ([.slice true (.ro (k)) (0) (n), .int .i64 (stAU [.agg (G (k)), .ptr (.rw 0) (n), .int .i64 (a), .int .i64 (getI (G (k2)) ((Int.toNat (i)) * 2)), .int .i64 (getI (G (k2)) ((Int.toNat (i)) * 2 + 1))])] : List AV)⟩]) ∧
          (((IntKind.wrap .i64 (((n : Nat) : Int) - stAU [.agg (G (k)), .ptr (.rw 0) (n), .int .i64 (a), .int .i64 (getI (G (k2)) ((Int.toNat (i)) * 2)), .int .i64 (getI (G (k2)) ((Int.toNat (i)) * 2 + 1))]) : Int) == 0) = false →
            Q .ret [.slice true (.ro (k2)) (0) (n2), .bool (false), .ptr (.rw 5) (0), .ptr (.rw 7) (0), .int .i64 (i)] [none, some ⟨1, c1⟩, none, none, some ⟨1, (G (k))⟩, some ⟨1, ([.slice false (.rw 4) (0) (n), .int .i64 (stAU [.agg (G (k)), .ptr (.rw 0) (n), .int .i64 (a), .int .i64 (getI (G (k2)) ((Int.toNat (i)) * 2)), .int .i64 (getI (G (k2)) ((Int.toNat (i)) * 2 + 1))])] : List AV)⟩, some ⟨1, c6⟩, some ⟨1, ([.slice true (.ro (k)) (0) (n), .int .i64 (stAU [.agg (G (k)), .ptr (.rw 0) (n), .int .i64 (a), .int .i64 (getI (G (k2)) ((Int.toNat (i)) * 2)), .int .i64 (getI (G (k2)) ((Int.toNat (i)) * 2 + 1))])] : List AV)⟩]))) ∧
      (decide ((i : Int) < 300) = false →
        Q (.exit 0) [.slice true (.ro (k2)) (0) (n2), .bool (false), .ptr (.rw 5) (0), .ptr (.rw 7) (0), .int .i64 (i)] [none, some ⟨1, c1⟩, none, none, some ⟨1, (G (k))⟩, some ⟨1, ([.slice false (.rw 4) (0) (n), .int .i64 (a)] : List AV)⟩, some ⟨1, c6⟩, some ⟨1, ([.slice true (.ro (k)) (0) (n), .int .i64 (a)] : List AV)⟩])) ∧
    (decide ((i : Int) < ((n2 : Nat) : Int)) = false →
      Q (.exit 0) [.slice true (.ro (k2)) (0) (n2), .bool (false), .ptr (.rw 5) (0), .ptr (.rw 7) (0), .int .i64 (i)] [none, some ⟨1, c1⟩, none, none, some ⟨1, (G (k))⟩, some ⟨1, ([.slice false (.rw 4) (0) (n), .int .i64 (a)] : List AV)⟩, some ⟨1, c6⟩, some ⟨1, ([.slice true (.ro (k)) (0) (n), .int .i64 (a)] : List AV)⟩])) := by kernel_rfl
def i64c : AV → Bool
  | .int .i64 m => decide (m ≤ 9223372036854775807)
  | _ => false
def okScU (G : Nat → List AV) (xs : List AV) : Bool := match xs with
  | [.ptr (.ro k) n] => (G k).all i64c && leB (n * 2) (G k).length
  | _ => false
theorem okSc_get {G : Nat → List AV} {k n i : Nat} (h : okScU G [.ptr (.ro k) n] = true) (hi : i < n * 2) : isI .i64 (G k) i = true ∧ getI (G k) i ≤ 9223372036854775807 := by
  simp only [okScU, Bool.and_eq_true, leB_iff] at h
  have hl : i < (G k).length := by omega
  have := List.all_eq_true.1 h.1 (G k)[i] (List.getElem_mem hl)
  have e := List.getElem?_eq_getElem hl
  generalize (G k)[i] = v at this e
  cases v with
  | int kd m => cases kd <;> simp_all [i64c, isI, getI]
  | _ => simp [i64c] at this
def eqBU (xs : List AV) : Bool := match xs with
  | [.agg x, .agg y] => samCs x y
  | _ => false
theorem rl6 (G : Nat → List AV) (B : Nat) (c1 c6 : List AV) (k n k2 n2 : Nat) (a : Int) (h : okRdU [.agg (G k), .ptr (.rw 0) n, .int .i64 a] = true) (h40 : n ≤ 1099511627776) (hs : okScU G [.ptr (.ro k2) n2] = true) :
    AWp (⟨Try.prog, G, B⟩ : Ctx) 0 (.loop (loopN Try.f6 0)) (fl 69 [1, 4, 6, 7, 8] [.slice true (.ro k2) 0 n2, .bool false, .ptr (.rw 5) 0, .ptr (.rw 7) 0, .int .i64 0]) [none, some ⟨1, c1⟩, none, none, some ⟨1, G k⟩, some ⟨1, [.slice false (.rw 4) 0 n, .int .i64 a]⟩, some ⟨1, c6⟩, some ⟨1, [.slice true (.ro k) 0 n, .int .i64 a]⟩]
      (lv 69 [1, 4, 6, 7, 8] fun e vs H => e = .exit 0 ∧ wk [.undef, .bool false, .undef, .undef, .undef] vs ∧ ∃ a, H = [none, some ⟨1, c1⟩, none, none, some ⟨1, G k⟩, some ⟨1, [.slice false (.rw 4) 0 n, .int .i64 a]⟩, some ⟨1, c6⟩, some ⟨1, [.slice true (.ro k) 0 n, .int .i64 a]⟩]) := by
  refine aloop_lv (fun j vs H => ∃ (i : Nat) (a : Int), i ≤ 300 ∧ j = 300 - i ∧ RdOk (G k) n a ∧ vs = [.slice true (.ro k2) 0 n2, .bool false, .ptr (.rw 5) 0, .ptr (.rw 7) 0, .int .i64 (i : Int)] ∧ H = [none, some ⟨1, c1⟩, none, none, some ⟨1, G k⟩, some ⟨1, [.slice false (.rw 4) 0 n, .int .i64 a]⟩, some ⟨1, c6⟩, some ⟨1, [.slice true (.ro k) 0 n, .int .i64 a]⟩]) 300 ⟨0, a, by omega, rfl, okRd_iff.1 h, rfl, rfl⟩ ?_
  rintro j vs H ⟨i, a, hi, rfl, ok, rfl, rfl⟩
  refine dloop_ok (C := (⟨Try.prog, G, B⟩ : Ctx)) (dgI G B) (fuel := 300) (n0 := 40) (m := 0) (c := loopN Try.f6 0) (vs := [.slice true (.ro (.var 7 k2)) (.lit 0) (.var 8 n2), .bool (.lit false), .ptr (.rw 5) (.lit 0), .ptr (.rw 7) (.lit 0), .int .i64 (.var 9 (i : Int))]) (H := [none, some ⟨1, .var 20 c1⟩, none, none, some ⟨1, .ro (.var 6 k)⟩, some ⟨1, .of [.slice false (.rw 4) (.lit 0) (.var 4 n), .int .i64 (.var 5 a)]⟩, some ⟨1, .var 21 c6⟩, some ⟨1, .of [.slice true (.ro (.var 6 k)) (.lit 0) (.var 4 n), .int .i64 (.var 5 a)]⟩]) (by simp) ?_
  rw [rb6]
  dsimp only
  rw [Int.toNat_natCast]
  refine ⟨fun h1 => ⟨fun h2 => ?_, fun _ => ⟨rfl, by simp [wk], a, rfl⟩⟩, fun _ => ⟨rfl, by simp [wk], a, rfl⟩⟩
  have h1' := of_decide_eq_true h1
  have h2' := of_decide_eq_true h2
  obtain ⟨g1, g2⟩ := okSc_get (i := i * 2) hs (by omega)
  obtain ⟨g3, g4⟩ := okSc_get (i := i * 2 + 1) hs (by omega)
  have hp := st_pos (r := .rw 0) (k := .i64) (c := getI (G k2) (i * 2)) (m := getI (G k2) (i * 2 + 1)) ok
  have hle := ok.le
  have hpos := ok.pos
  generalize stAU [.agg (G k), .ptr (.rw 0) n, .int .i64 a, .int .i64 (getI (G k2) (i * 2)), .int .i64 (getI (G k2) (i * 2 + 1))] = z at *
  have wn : IntKind.wrap .i64 ((n : Int) - z) = (n : Int) - z := i64_in (by omega)
  have wi : IntKind.wrap .i64 ((i : Int) + 1) = ((i + 1 : Nat) : Int) := by rw [i64_in (by omega)]; omega
  rw [wn, wi]
  have okz : RdOk (G k) n z := ⟨ok.b, ok.len, ok.big, by omega, by omega⟩
  refine ⟨decide_eq_true (by omega), h1, by simp [leafsOk, leafOk, g1, g3], okRd_iff.2 ok, leB_iff.2 h40, decide_eq_true g4, Nat.beq_refl _, Nat.beq_refl _, beq_self_eq_true _, beq_self_eq_true _, fun q => ?_, fun q => ⟨fun q2 => ?_, fun q2 => ?_⟩⟩
  · have q' := of_decide_eq_true q
    exact ⟨by simp; omega, 300 - (i + 1), by omega, .inl ⟨i + 1, z, by omega, rfl, okz, rfl, rfl⟩⟩
  · exact ⟨300 - (i + 1), by omega, .inl ⟨i + 1, z, by omega, rfl, okz, rfl, rfl⟩⟩
  · have q' := of_decide_eq_false q
    have q2 := ne_of_beq_false q2
    omega
def rL6 (G : Nat → List AV) : DL := ⟨0, 69, [1, 4, 6, 7, 8], fun vs H => match vs, H with
  | [.slice true (.ro k2) (.lit 0) n2, .bool (.lit false), .ptr (.rw 5) (.lit 0), .ptr (.rw 7) (.lit 0), .int .i64 (.lit 0)],
    [none, some ⟨1, c1⟩, none, none, some ⟨1, l⟩, some ⟨1, .of [.slice false (.rw 4) (.lit 0) n, .int .i64 (.lit 0)]⟩, some ⟨1, c6⟩, some ⟨1, .of [.slice true (.ro k) (.lit 0) n', .int .i64 (.lit 0)]⟩] =>
    some (.chk (.uf 1142 eqBU [.agg l, .agg (.ro k)]) <| .chk (.uf 1120 okRdU [.agg (.ro k), .ptr (.rw 0) n, .int .i64 (.lit 0)]) <| .chk (.leN n (.lit 1099511627776)) <| .chk (.eqN n n') <| .chk (.uf 1143 (okScU G) [.ptr (.ro k2) n2]) <|
      .allI fun a => .one (.exit 0) [.undef, .bool (.lit false), .undef, .undef, .undef] [none, some ⟨1, c1⟩, none, none, some ⟨1, .ro k⟩, some ⟨1, .of [.slice false (.rw 4) (.lit 0) n, .int .i64 a]⟩, some ⟨1, c6⟩, some ⟨1, .of [.slice true (.ro k) (.lit 0) n, .int .i64 a]⟩])
  | _, _ => none⟩
theorem rL6_ok (G : Nat → List AV) (B : Nat) : DLoopOk (⟨Try.prog, G, B⟩ : Ctx) 0 (loopN Try.f6 0) (rL6 G) := by
  refine .of fun vs H o ho nn Q hQ => ?_
  simp only [rL6] at ho
  split at ho
  · rename_i k2 n2 c1 l n c6 k n'
    simp only [Option.some.injEq] at ho
    subst ho
    obtain ⟨h1, h2, h3, h4, h5, hh⟩ := hQ
    simp only [vB, vVs, vV, vR, vN, vL, vI, eqBU] at h1 h2 h3 h4 h5
    have e1 := samCs_eq h1
    have e4 := Nat.eq_of_beq_eq_true h4
    simp only [rL6, vVs, vV, vR, vN, vI, vB, vL, vHp, List.map_cons, List.map_nil, Option.map_some, Option.map_none, vBlk]
    rw [← e4, e1]
    refine (rl6 G B (vL G c1) (vL G c6) (vN G k) (vN G n) (vN G k2) (vN G n2) 0 h2 (leB_iff.1 h3) h5).lmono ?_
    rintro ex vs'' H'' ⟨rfl, g2, a, rfl⟩
    have := hh a
    refine .inl ⟨_, g2, ?_⟩
    simp only [lHolds, vVs, vV, vR, vN, vI, vB, vL, vHp, List.map_cons, List.map_nil, Option.map_some, Option.map_none, vBlk] at this
    exact this
  · simp at ho
theorem dgRD (G : Nat → List AV) (B : Nat) : DGood (⟨Try.prog, G, B⟩ : Ctx) (Dc Try.prog [19, 24, 25, 26, 32, 38] progI [rL6 G] 0) (loopsOf (bodyOf Try.f6)) := dgood (mix G B) (by kernel_rfl) (progI_ok G B) (.cast (.cons (i := 0) (by kernel_rfl) rfl (rL6_ok G B) .nil) (by kernel_rfl))
theorem rd_run (G : Nat → List AV) (k n k2 n2 : Nat) (Q : Ex → List AV → Hp → Prop) (R : AV → Hp → Prop) : vT G Q R (dlaw (Dc Try.prog [19, 24, 25, 26, 32, 38] progI [rL6 G] 0) 400 40 Try.f6 [.slice true (.ro (.var 6 k)) (.lit 0) (.var 4 n), .slice true (.ro (.var 7 k2)) (.lit 0) (.var 8 n2)] []) = (
    leB (n) (List.length (G (k))) = true ∧
    cellsB (subL (G (k)) (0) (n)) = true ∧
    leB (n) (140737488355328) = true ∧
    leB (n + 1) (140737488355328) = true ∧
    Nat.beq (List.length (subL (G (k)) (0) (n))) (n) = true ∧
    decide ((0 : Int) ≤ ((n : Nat) : Int)) = true ∧
    decide ((((n : Nat) : Int) : Int) ≤ ((n + 1 : Nat) : Int)) = true ∧
    decide ((0 : Int) ≤ IntKind.wrap .i64 (((n : Nat) : Int) + 1)) = true ∧
    decide ((bigF 1 [.int .i64 (IntKind.wrap .i64 (((n : Nat) : Int) + 1))] : Int) ≤ 140737488355328) = true ∧
    decide ((IntKind.wrap .i64 (((n : Nat) : Int) + 1) : Int) ≤ 140737488355328) = true ∧
    leB (n) (List.length ((subL (G (k)) (0) (n)) ++ ([.int .u8 (165)] : List AV))) = true ∧
    cellsB (subL ((subL (G (k)) (0) (n)) ++ ([.int .u8 (165)] : List AV)) (0) (n)) = true ∧
    leB (n) (140737488355328) = true ∧
    leB (n + 1) (List.length ((subL (G (k)) (0) (n)) ++ ([.int .u8 (165)] : List AV))) = true ∧
    u8s (subL ((subL (G (k)) (0) (n)) ++ ([.int .u8 (165)] : List AV)) (0) (n + 1)) = true ∧
    leB (n) (List.length (G (k))) = true ∧
    u8s (subL (G (k)) (0) (n)) = true ∧
    leB (List.length (strL (subL (G (k)) (0) (n))) + 1) (9223372036854775807) = true ∧
    ((((strL (subL ((subL (G (k)) (0) (n)) ++ ([.int .u8 (165)] : List AV)) (0) (n + 1))) : List UInt8) == ((strL (subL (G (k)) (0) (n))) ++ ([165] : List UInt8))) = true →
      u8s ((subL (G (k)) (0) (n)) ++ ([.int .u8 (165)] : List AV)) = true ∧
      Nat.beq (List.length ((subL (G (k)) (0) (n)) ++ ([.int .u8 (165)] : List AV))) (n + 1) = true ∧
      leB (n + 1) (1099511627776) = true ∧
      eqBU [.agg (subL ((subL (G (k)) (0) (n)) ++ ([.int .u8 (165)] : List AV)) (0) (n)), .agg (G (k))] = true ∧
      okRdU [.agg (G (k)), .ptr (.rw 0) (n), .int .i64 (0)] = true ∧
      leB (n) (1099511627776) = true ∧
      Nat.beq (n) (n) = true ∧
      (okScU G) [.ptr (.ro (k2)) (n2)] = true ∧
      (∀ i40 : Int,
      R (.bool (true)) [])) ∧
    ((((strL (subL ((subL (G (k)) (0) (n)) ++ ([.int .u8 (165)] : List AV)) (0) (n + 1))) : List UInt8) == ((strL (subL (G (k)) (0) (n))) ++ ([165] : List UInt8))) = false →
      R (.bool (false)) [])) := by kernel_rfl
theorem rd_call (G : Nat → List AV) (B : Nat) (k n k2 n2 : Nat) (hl : (G k).length = n) (hu : b8s (G k) = true) (h7 : n ≤ 1048576) (hs : okScU G [.ptr (.ro k2) n2] = true) :
    ACalls (⟨Try.prog, G, B⟩ : Ctx) 6 [.slice true (.ro k) 0 n, .slice true (.ro k2) 0 n2] [] fun v _ => v = .bool true := by
  have key := dlaw_ok (C := (⟨Try.prog, G, B⟩ : Ctx)) (f := 6) (R := fun v _ => v = .bool true) (dgRD G B) (by kernel_rfl) (by kernel_rfl) (by kernel_rfl) (fuel := 400) (n0 := 40) (args := [.slice true (.ro (.var 6 k)) (.lit 0) (.var 4 n), .slice true (.ro (.var 7 k2)) (.lit 0) (.var 8 n2)]) (H := []) (by
    rw [rd_run]
    dsimp only
    have hku := b8s_u8 hu
    have e1 : subL (G k) 0 n = G k := by simp [subL, ← hl]
    have e2 : subL (G k ++ ([.int .u8 165] : List AV)) 0 n = G k := by simp [subL, ← hl]
    have e3 : subL (G k ++ ([.int .u8 165] : List AV)) 0 (n + 1) = G k ++ ([.int .u8 165] : List AV) := by rw [← hl]; simp only [subL, List.drop_zero]; exact List.take_of_length_le (by simp)
    have e4 : strL (G k ++ ([.int .u8 165] : List AV)) = strL (G k) ++ ([165] : List UInt8) := by simp [strL, toByte]
    have e5 : u8s ([.int .u8 165] : List AV) = true := rfl
    have okk : okRdU [.agg (G k), .ptr (.rw 0) n, .int .i64 0] = true := by rw [← hl]; exact okRd_of (a := 0) hu (by omega) (by omega)
    have eb : eqBU [.agg (G k), .agg (G k)] = true := u8s_sam hku
    have wn : IntKind.wrap .i64 ((n : Int) + 1) = (n : Int) + 1 := i64_in (by omega)
    have es : (strL (G k)).length = n := by simp [strL, hl]
    have uc := u8s_cells hku
    simp only [e1, e2, e3, e4, e5, okk, eb, wn, es, uc, hku, hs, u8s_append, bigF, Int.mul_one, leB_iff, decide_eq_true_eq, hl, List.length_append, List.length_cons, List.length_nil, Nat.beq_refl, Bool.and_self, true_and, and_true, beq_self_eq_true]
    repeat' first | refine And.intro ?_ ?_ | intro _
    all_goals first
      | omega
      | trivial
      | (rename_i q; simp at q; done))
  simp only [vVs, vV, vR, vN, vI, vL, vB, vHp, List.map_nil] at key
  exact key
end Go.Am
