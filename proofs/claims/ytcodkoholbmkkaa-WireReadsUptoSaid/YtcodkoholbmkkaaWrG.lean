/-
  Wire: one step of WireReads, both sides.
-/
import Derived.Test.YtcodkoholbmkkaaWrF
import Derived.Test.YtcodkoholbmkkaaWrP
namespace Go.Am
open Go.Proofs
set_option maxRecDepth 100000
theorem bytes22n (G : Nat → List AV) (B : Nat) (s : List AV) (n : Nat) (a m : Int) (hs : ∀ j, bnds j s = true) (hm : m < 0) : ACalls (⟨Try.prog, G, B⟩ : Ctx) 22 [.ptr (.rw 0) 0, .int .i64 m] [some ⟨1, [.slice false (.rw 1) 0 n, .int .i64 a]⟩, some ⟨1, s⟩]
    fun v' H' => v' = .tup [.nils, .int .i64 2] ∧ H' = [some ⟨1, [.slice false (.rw 1) 0 n, .int .i64 a]⟩, some ⟨1, s⟩] := by
  have key := dcall_ok (C := (⟨Try.prog, G, B⟩ : Ctx)) (fn := Try.f22) (f := 22) (R := fun v' H' => v' = .tup [.nils, .int .i64 2] ∧ H' = [some ⟨1, [.slice false (.rw 1) 0 n, .int .i64 a]⟩, some ⟨1, s⟩]) (dgQ G B) (by kernel_rfl) (by kernel_rfl) (by kernel_rfl) (fuel := 200) (n0 := 10) (keep := 4) (args := [.ptr (.rw 0) (.lit 0), .int .i64 (.var 7 m)]) (H := [some ⟨1, .of [.slice false (.rw 1) (.lit 0) (.var 4 n), .int .i64 (.var 5 a)]⟩, some ⟨1, .var 6 s⟩]) (by
    rw [t22]
    exact ⟨fun _ => ⟨rfl, rfl⟩, fun h => absurd (of_decide_eq_false h) (by omega)⟩)
  exact ACalls.keep (H := [some ⟨1, [.slice false (.rw 1) 0 n, .int .i64 a]⟩, some ⟨1, s⟩]) key (by simp) (by simp [hpB, bnds, bnd, hs]) (by simp [bnd, bnds]) (by simp)
theorem take44n (G : Nat → List AV) (B : Nat) (s : List AV) (n : Nat) (a m : Int) (hs : ∀ j, bnds j s = true) (hm : m < 0) : ACalls (⟨Try.prog, G, B⟩ : Ctx) 44 [.ptr (.rw 0) 0, .int .i64 m, .func 20 []] [some ⟨1, [.slice false (.rw 1) 0 n, .int .i64 a]⟩, some ⟨1, s⟩]
    fun v' H' => v' = .tup [.nils, .int .i64 2] ∧ H' = [some ⟨1, [.slice false (.rw 1) 0 n, .int .i64 a]⟩, some ⟨1, s⟩] := by
  have key := dcall_ok (C := (⟨Try.prog, G, B⟩ : Ctx)) (fn := Try.f44) (f := 44) (R := fun v' H' => v' = .tup [.nils, .int .i64 2] ∧ ∃ r, H' = [some ⟨1, [.slice false (.rw 1) 0 n, .int .i64 a]⟩, some ⟨1, s⟩] ++ r) (dgF44 G B) (by kernel_rfl) (by kernel_rfl) (by kernel_rfl) (fuel := 300) (n0 := 20) (keep := 3) (args := [.ptr (.rw 0) (.lit 0), .int .i64 (.var 7 m), .func 20 []]) (H := [some ⟨1, .of [.slice false (.rw 1) (.lit 0) (.var 4 n), .int .i64 (.var 5 a)]⟩, some ⟨1, .var 6 s⟩]) (by
    rw [t44]
    exact ⟨fun _ => ⟨rfl, rfl, _, rfl⟩, fun h => absurd (of_decide_eq_false h) (by omega)⟩)
  refine key.view fun v H' hk => ?_
  obtain ⟨rfl, r, g3⟩ := hk
  refine ⟨_, _, ⟨rfl, rfl⟩, ?_⟩
  have e : H' = [some ⟨1, [.slice false (.rw 1) 0 n, .int .i64 a]⟩, some ⟨1, s⟩] ++ (r ++ H'.drop 3) := by rw [← List.append_assoc, ← g3, List.take_append_drop]
  rw [e]
  exact View.same (by simp [vHp]) (by simp [hpB, bnds, bnd, hs]) ⟨⟨by simp [bnd, bnds], rfl⟩, trivial⟩
def bytesN : DSum := fun xs H => match bytesR xs H, xs with
  | some o, [.ptr (.rw i) (.lit 0), .int .i64 m'] => match H[i]? with
    | some (some ⟨1, .of [.slice false (.rw m) (.lit 0) n, .int .i64 a]⟩) => match H[m]? with
      | some (some ⟨1, l⟩) => some (.tst (.cmp .lss m' (.lit 0)) (.chk (.uf 1120 okRdU [.agg l, .ptr (.rw 0) n, .int .i64 a]) (.one (.tup [.nils, .int .i64 (.lit 2)]) [])) o)
      | _ => none
    | _ => none
  | _, _ => none
/-- a call that leaves the reader as it is -/
theorem DOut.still2 {C : Ctx} {f : FuncId} {H : DHp} {i m : Nat} {n : EN} {a : EI} {l : EL} {rest : List EV} {v : EV} (him : i ≠ m) (hi : H[i]? = some (some ⟨1, .of [.slice false (.rw m) (.lit 0) n, .int .i64 a]⟩)) (hm : H[m]? = some (some ⟨1, l⟩))
    (hf : ∀ j, bnds j (vL C.G l) = true) (hr : bnds 0 (vVs C.G rest) = true) (hv : bnd 0 (vV C.G v) = true)
    (key : ACalls C f (.ptr (.rw 0) 0 :: vVs C.G rest) [some ⟨1, [.slice false (.rw 1) 0 (vN C.G n), .int .i64 (vI C.G a)]⟩, some ⟨1, vL C.G l⟩] fun v' H' => v' = vV C.G v ∧ H' = [some ⟨1, [.slice false (.rw 1) 0 (vN C.G n), .int .i64 (vI C.G a)]⟩, some ⟨1, vL C.G l⟩]) :
    DOut C f (.ptr (.rw i) (.lit 0) :: rest) H v [] := by
  have := DOut.reader (C := C) (a' := a) him hi hm hf hr hv key
  unfold DOut at this ⊢
  refine this.mono fun v' H' ⟨h1, h2⟩ => ⟨h1, ?_⟩
  rw [h2]
  simp only [List.map_cons, List.map_nil, acts, Hop.act, vHop]
  exact vHp_set_same hi
theorem bytesN_ok (G : Nat → List AV) (B : Nat) : DSumOk (⟨Try.prog, G, B⟩ : Ctx) 22 bytesN := by
  intro xs H o ho
  simp only [bytesN] at ho
  split at ho
  · rename_i o' i m' hb
    split at ho
    · rename_i m n a hi
      split at ho
      · rename_i l hm
        simp only [Option.some.injEq] at ho
        subst ho
        have him : i ≠ m := fun h => by
          simp only [bytesR, hi] at hb
          subst h
          simp only [hi, Nat.beq_refl] at hb
          simp at hb
        refine ⟨fun hn h1 => ?_, fun _ => bytesR_ok G B _ _ _ hb⟩
        simp only [vB, vVs, vV, vR, vN, vI, cmpI, decide_eq_true_eq] at hn h1
        have hn := of_decide_eq_true hn
        have hf : ∀ j, bnds j (vL G l) = true := fun j => u8s_flat (b8s_u8 (okRd_iff.1 h1).b)
        refine DOut.still2 (C := (⟨Try.prog, G, B⟩ : Ctx)) (rest := [.int .i64 m']) him hi hm hf rfl (by simp [vV, vVs, bnd, bnds]) ?_
        simp only [vVs, vV, vI]
        exact bytes22n G B (vL G l) (vN G n) (vI G a) (vI G m') hf hn
      · simp at ho
    · simp at ho
  · simp at ho
def takeN : DSum := fun xs H => match xs with
  | [.ptr (.rw i) (.lit 0), .int .i64 m', .func 20 []] => match H[i]? with
    | some (some ⟨1, .of [.slice false (.rw m) (.lit 0) n, .int .i64 a]⟩) => match H[m]? with
      | some (some ⟨1, l⟩) => match Nat.beq i m with
        | true => none
        | false => some (.tst (.cmp .lss m' (.lit 0)) (.chk (.uf 1120 okRdU [.agg l, .ptr (.rw 0) n, .int .i64 a]) (.one (.tup [.nils, .int .i64 (.lit 2)]) []))
          (.chk (.uf 1120 okRdU [.agg l, .ptr (.rw 0) n, .int .i64 a]) (.chk (.leN n (.lit 1099511627776)) (.chk (.cmp .leq (.lit 0) m') (.chk (.cmp .leq m' (.lit 9223372036854775807))
          (.one (.tup [.slice true (.rw H.length) (.lit 0) (.len (.uf 1136 rnLU [.agg l, .ptr (.rw 0) n, .int .i64 a, .int .i64 m'])), .int .i64 (.uf 1137 rnEU [.agg l, .ptr (.rw 0) n, .int .i64 a, .int .i64 m'])]) [.set i ⟨1, .of [.slice false (.rw m) (.lit 0) n, .int .i64 (.uf 1138 rnAU [.agg l, .ptr (.rw 0) n, .int .i64 a, .int .i64 m'])]⟩, .new ⟨1, .uf 1136 rnLU [.agg l, .ptr (.rw 0) n, .int .i64 a, .int .i64 m']⟩]))))))
      | _ => none
    | _ => none
  | _ => none
theorem takeN_ok (G : Nat → List AV) (B : Nat) : DSumOk (⟨Try.prog, G, B⟩ : Ctx) 44 takeN := by
  intro xs H o ho
  simp only [takeN] at ho
  split at ho
  · rename_i i m'
    split at ho
    · rename_i m n a hi
      split at ho
      · rename_i l hm
        split at ho
        · simp at ho
        · rename_i him
          have him : i ≠ m := fun h => by rw [h, Nat.beq_refl] at him; simp at him
          simp only [Option.some.injEq] at ho
          subst ho
          refine ⟨fun hn h1 => ?_, fun _ h1 h2 h3 h4 => ?_⟩
          · simp only [vB, vVs, vV, vR, vN, vI, cmpI, decide_eq_true_eq] at hn h1
            have hn := of_decide_eq_true hn
            have hf : ∀ j, bnds j (vL G l) = true := fun j => u8s_flat (b8s_u8 (okRd_iff.1 h1).b)
            refine DOut.still2 (C := (⟨Try.prog, G, B⟩ : Ctx)) (rest := [.int .i64 m', .func 20 []]) him hi hm hf rfl (by simp [vV, vVs, bnd, bnds]) ?_
            simp only [vVs, vV, vI]
            exact take44n G B (vL G l) (vN G n) (vI G a) (vI G m') hf hn
          · simp only [vB, vVs, vV, vR, vN, cmpI, decide_eq_true_eq, vI] at h1 h2 h3 h4
            have hu := b8s_u8 (okRd_iff.1 h1).b
            have hf : ∀ j, bnds j (vL G l) = true := fun j => u8s_flat hu
            have key := take44 G B (vL G l) (vN G n) (vI G a) (vI G m') h1 (leB_iff.1 h2) ⟨of_decide_eq_true h3, of_decide_eq_true h4⟩
            have hc := fun j => rnL_flat [.agg (vL G l), .ptr (.rw 0) (vN G n), .int .i64 (vI G a), .int .i64 (vI G m')] j
            refine DOut.fr (θ := [i, m]) (by simp [him]) rfl (fun k b hk => ?_) (by simp [bnds, bnd]) (by simp [vVs, vV, vR, vN, rens, ren]) key (by simp) (by simp [bnd, bnds]) (by simp [hpB, hf, hc, bnds, bnd]) (by simp [vV, vVs, vR, vN, vI, vL, ren, rens, wide]) ?_
            · match k with
              | 0 => simp at hk; subst hk; exact ⟨_, rfl, by simp [bnds, bnd], by simpa [renB, vBlk, vL, vVs, vV, vR, vN, rens, ren] using vHp_some (G := G) hi⟩
              | 1 => simp at hk; subst hk; exact ⟨_, rfl, hf _, by simpa [renB, vBlk, rens_flat _ _ (hf 0)] using vHp_some (G := G) hm⟩
              | k + 2 => simp at hk
            · have hs := vHp_set_same (G := G) hm
              simp only [vBlk] at hs
              simp only [List.map_cons, List.map_nil, acts, Hop.act, vHop, vBlk, merge, lay, renO, renB, Option.map_some, rens_flat _ _ (hf 0), rens_flat _ _ (hc 0), List.length_cons, List.length_nil, List.drop_succ_cons, List.drop_zero, vL, vVs, vV, vR, vN, vI, List.cons_append, List.nil_append]
              rw [List.set_comm _ _ him, hs]
              simp [rens, ren, wide]
      · simp at ho
    · simp at ho
  · simp at ho
def dnumsR : DSum := fun xs H => match xs with
  | [.ptr (.rw i) (.lit 0), .int .i64 m'] => match H[i]? with
    | some (some ⟨1, .of [.slice true (.ro k) (.lit 0) n, .int .i64 a]⟩) =>
      some (.chk (.uf 1120 okRdU [.agg (.ro k), .ptr (.rw 0) n, .int .i64 a]) (.chk (.leN n (.lit 1099511627776)) (.chk (.cmp .leq (.lit 0) m') (.chk (.cmp .leq m' (.lit 9223372036854775807))
          (.one (.tup [.slice true (.rw H.length) (.lit 0) (.len (.uf 1136 rnLU [.agg (.ro k), .ptr (.rw 0) n, .int .i64 a, .int .i64 m'])), .int .i64 (.uf 1137 rnEU [.agg (.ro k), .ptr (.rw 0) n, .int .i64 a, .int .i64 m'])]) [.set i ⟨1, .of [.slice true (.ro k) (.lit 0) n, .int .i64 (.uf 1138 rnAU [.agg (.ro k), .ptr (.rw 0) n, .int .i64 a, .int .i64 m'])]⟩, .new ⟨1, .uf 1136 rnLU [.agg (.ro k), .ptr (.rw 0) n, .int .i64 a, .int .i64 m']⟩])))))
    | _ => none
  | _ => none
theorem dnumsR_ok (G : Nat → List AV) (B : Nat) : DSumOk (⟨Try.prog, G, B⟩ : Ctx) 45 dnumsR := by
  intro xs H o ho
  simp only [dnumsR] at ho
  split at ho
  · rename_i i m'
    split at ho
    · rename_i k n a hi
      simp only [Option.some.injEq] at ho
      subst ho
      intro h1 h2 h3 h4
      simp only [vB, vVs, vV, vR, vN, vL, cmpI, decide_eq_true_eq, vI] at h1 h2 h3 h4
      have key := nums45 G B (vN G k) (vN G n) (vI G a) (vI G m') h1 (leB_iff.1 h2) ⟨of_decide_eq_true h3, of_decide_eq_true h4⟩
      have hc := fun j => rnL_flat [.agg (G (vN G k)), .ptr (.rw 0) (vN G n), .int .i64 (vI G a), .int .i64 (vI G m')] j
      refine DOut.fr (θ := [i]) (by simp) rfl (fun k' b hk => ?_) (by simp [bnds, bnd]) (by simp [vVs, vV, vR, vN, rens, ren]) key (by simp) (by simp [bnd, bnds]) (by simp [hpB, hc, bnds, bnd]) (by simp [vV, vVs, vR, vN, vI, vL, ren, rens, wide]) ?_
      · match k' with
        | 0 => simp at hk; subst hk; exact ⟨_, rfl, by simp [bnds, bnd], by simpa [renB, vBlk, vL, vVs, vV, vR, vN, rens, ren] using vHp_some (G := G) hi⟩
        | k' + 1 => simp at hk
      · simp only [List.map_cons, List.map_nil, acts, Hop.act, vHop, vBlk, merge, lay, renO, renB, Option.map_some, rens_flat _ _ (hc 0), List.length_cons, List.length_nil, List.drop_succ_cons, List.drop_zero, vL, vVs, vV, vR, vN, vI, List.cons_append, List.nil_append]
        simp [rens, ren, wide]
    · simp at ho
  · simp at ho
def progS : List (Nat × DSum) := [(20, readS), (40, dreadS), (22, bytesN), (43, dbytesR), (44, takeN), (45, dnumsR), (17, spoilS), (18, trueW)]
theorem progS_ok (G : Nat → List AV) (B : Nat) : DSumsOk (⟨Try.prog, G, B⟩ : Ctx) progS := .cons (readS_ok G B) (.cons (dreadS_ok G B) (.cons (bytesN_ok G B) (.cons (dbytesR_ok G B) (.cons (takeN_ok G B) (.cons (dnumsR_ok G B) (.cons (spoilS_ok G B) (.cons (trueW_ok fun G B => known_call G B) .nil)))))))
/-! two lists are gone through together -/
theorem dg33 (G : Nat → List AV) (B : Nat) : DGood (⟨Try.prog, G, B⟩ : Ctx) (Dc Try.prog [] progS [] 3) [] := dgood (mix G B) (by kernel_rfl) (progS_ok G B) .nil
theorem rb31 (G : Nat → List AV) (c0 c1 c2 c3 x y : List AV) (lx ly : Nat) (i : Int) (Q : Ex → List AV → Hp → Prop) (R : AV → Hp → Prop) : vT G Q R (dloop (Dc Try.prog [] progS [] 3) 200 30 3 (loopN Try.f31 0) 188 [6, 24, 26, 28] [.bool (.lit false), .slice true (.rw 4) (.lit 0) (.var 1 lx), .slice true (.rw 5) (.lit 0) (.var 2 ly), .int .i64 (.var 3 i)] [some ⟨1, .var 10 c0⟩, some ⟨1, .var 11 c1⟩, some ⟨1, .var 12 c2⟩, some ⟨1, .var 13 c3⟩, some ⟨1, .var 14 x⟩, some ⟨1, .var 15 y⟩]) = (
    (decide ((i : Int) < ((lx : Nat) : Int)) = true →
      decide ((0 : Int) ≤ i) = true ∧
      decide ((i : Int) < ((lx : Nat) : Int)) = true ∧
      isI .u64 x (Int.toNat (i)) = true ∧
      decide ((0 : Int) ≤ i) = true ∧
      decide ((i : Int) < ((ly : Nat) : Int)) = true ∧
      isI .u64 y (Int.toNat (i)) = true ∧
      (((getI x (Int.toNat (i)) : Int) == getI y (Int.toNat (i))) = true →
        Q .normal [.bool (false), .slice true (.rw 4) (0) (lx), .slice true (.rw 5) (0) (ly), .int .i64 (IntKind.wrap .i64 (i + 1))] [some ⟨1, c0⟩, some ⟨1, c1⟩, some ⟨1, c2⟩, some ⟨1, c3⟩, some ⟨1, x⟩, some ⟨1, y⟩]) ∧
      (((getI x (Int.toNat (i)) : Int) == getI y (Int.toNat (i))) = false →
        Q .ret [.bool (false), .slice true (.rw 4) (0) (lx), .slice true (.rw 5) (0) (ly), .int .i64 (i)] [some ⟨1, c0⟩, some ⟨1, c1⟩, some ⟨1, c2⟩, some ⟨1, c3⟩, some ⟨1, x⟩, some ⟨1, y⟩])) ∧
    (decide ((i : Int) < ((lx : Nat) : Int)) = false →
      Q (.exit 1) [.bool (false), .slice true (.rw 4) (0) (lx), .slice true (.rw 5) (0) (ly), .int .i64 (i)] [some ⟨1, c0⟩, some ⟨1, c1⟩, some ⟨1, c2⟩, some ⟨1, c3⟩, some ⟨1, x⟩, some ⟨1, y⟩])) := by kernel_rfl
def isU64 : AV → Bool
  | .int .u64 _ => true
  | _ => false
def eqLU (xs : List AV) : Bool := match xs with
  | [.agg x, .agg y] => samCs x y && x.all isU64
  | _ => false
theorem isU64_get {x : List AV} (h : x.all isU64 = true) {i : Nat} (hi : i < x.length) : isI .u64 x i = true := by
  have := List.all_eq_true.1 h x[i] (List.getElem_mem hi)
  have e := List.getElem?_eq_getElem hi
  generalize x[i] = v at this e
  cases v with
  | int k n => cases k <;> simp_all [isU64, isI]
  | _ => simp [isU64] at this
theorem u64L_all (xs : List Nat) : (u64L xs).all isU64 = true := by simp [u64L, isU64]
theorem eqL_of {x : List AV} (h : x.all isU64 = true) : eqLU [.agg x, .agg x] = true := by
  simp only [eqLU, h, Bool.and_true]
  refine samCs_refl (List.all_eq_true.2 fun v hv => ?_)
  have := List.all_eq_true.1 h v hv
  cases v with
  | int k n => simp [samC]
  | _ => simp [isU64] at this
theorem nrL_all (xs : List AV) : (nrLU xs).all isU64 = true := by
  unfold nrLU
  split
  · split
    · exact u64L_all _
    · rfl
  · rfl
theorem rnL_all (xs : List AV) : (rnLU xs).all isU64 = true := by
  unfold rnLU
  split
  · split
    · exact nrL_all _
    · rfl
  · rfl
theorem cl31 (G : Nat → List AV) (B : Nat) (c0 c1 c2 c3 x : List AV) (n : Nat) (hx : x.all isU64 = true) (hn : x.length = n) (h40 : n ≤ 9223372036854775807) :
    AWp (⟨Try.prog, G, B⟩ : Ctx) 3 (.loop (loopN Try.f31 0)) (fl 188 [6, 24, 26, 28] [.bool false, .slice true (.rw 4) 0 n, .slice true (.rw 5) 0 n, .int .i64 0]) [some ⟨1, c0⟩, some ⟨1, c1⟩, some ⟨1, c2⟩, some ⟨1, c3⟩, some ⟨1, x⟩, some ⟨1, x⟩]
      (lv 188 [6, 24, 26, 28] fun e vs H => e = .exit 1 ∧ wk [.bool false, .undef, .undef, .undef] vs ∧ H = [some ⟨1, c0⟩, some ⟨1, c1⟩, some ⟨1, c2⟩, some ⟨1, c3⟩, some ⟨1, x⟩, some ⟨1, x⟩]) := by
  refine aloop_lv (fun j vs H => ∃ i : Nat, i ≤ n ∧ j = n - i ∧ vs = [.bool false, .slice true (.rw 4) 0 n, .slice true (.rw 5) 0 n, .int .i64 (i : Int)] ∧ H = [some ⟨1, c0⟩, some ⟨1, c1⟩, some ⟨1, c2⟩, some ⟨1, c3⟩, some ⟨1, x⟩, some ⟨1, x⟩]) n ⟨0, by omega, rfl, rfl, rfl⟩ ?_
  rintro j vs H ⟨i, hi, rfl, rfl, rfl⟩
  refine dloop_ok (C := (⟨Try.prog, G, B⟩ : Ctx)) (dg33 G B) (fuel := 200) (n0 := 30) (m := 3) (c := loopN Try.f31 0) (vs := [.bool (.lit false), .slice true (.rw 4) (.lit 0) (.var 1 n), .slice true (.rw 5) (.lit 0) (.var 2 n), .int .i64 (.var 3 (i : Int))]) (H := [some ⟨1, .var 10 c0⟩, some ⟨1, .var 11 c1⟩, some ⟨1, .var 12 c2⟩, some ⟨1, .var 13 c3⟩, some ⟨1, .var 14 x⟩, some ⟨1, .var 15 x⟩]) (by simp) ?_
  rw [rb31, Int.toNat_natCast]
  refine ⟨fun h => ?_, fun h => ⟨rfl, by simp [wk], rfl⟩⟩
  have h' := of_decide_eq_true h
  have u := isU64_get hx (i := i) (by omega)
  have p := decide_eq_true (show (0 : Int) ≤ (i : Int) by omega)
  refine ⟨p, h, u, p, h, u, fun _ => ⟨n - (i + 1), by omega, .inl ⟨i + 1, by omega, rfl, ?_, rfl⟩⟩, fun h => ?_⟩
  · rw [i64_in (by omega)]; rfl
  · rw [beq_self_eq_true] at h; cases h
def cmpL : DL := ⟨1, 188, [6, 24, 26, 28], fun vs H => match vs, H with
  | [.bool (.lit false), .slice true (.rw 4) (.lit 0) lx, .slice true (.rw 5) (.lit 0) ly, .int .i64 (.lit 0)], [some ⟨1, c0⟩, some ⟨1, c1⟩, some ⟨1, c2⟩, some ⟨1, c3⟩, some ⟨1, x⟩, some ⟨1, y⟩] =>
    some (.chk (.uf 1139 eqLU [.agg x, .agg y]) <| .chk (.eqN (.len x) lx) <| .chk (.eqN (.len y) ly) <| .chk (.leN lx (.lit 9223372036854775807)) <| .one (.exit 1) [.bool (.lit false), .undef, .undef, .undef] [some ⟨1, c0⟩, some ⟨1, c1⟩, some ⟨1, c2⟩, some ⟨1, c3⟩, some ⟨1, x⟩, some ⟨1, y⟩])
  | _, _ => none⟩
theorem cmpL_ok (G : Nat → List AV) (B : Nat) : DLoopOk (⟨Try.prog, G, B⟩ : Ctx) 3 (loopN Try.f31 0) cmpL := by
  refine .of fun vs H o ho nn Q hQ => ?_
  simp only [cmpL] at ho
  split at ho
  · rename_i lx ly c0 c1 c2 c3 x y
    simp only [Option.some.injEq] at ho
    subst ho
    obtain ⟨h1, h2, h3, h4, hh⟩ := hQ
    simp only [vB, vVs, vV, vN, eqLU, Bool.and_eq_true] at h1 h2 h3 h4
    have e1 := samCs_eq h1.1
    have e2 := Nat.eq_of_beq_eq_true h2
    have e3 := Nat.eq_of_beq_eq_true h3
    refine lone ?_ hh
    simp only [cmpL, vVs, vV, vR, vN, vI, vB, vL, vHp, List.map_cons, List.map_nil, Option.map_some, vBlk]
    rw [← e3, ← e1, e2]
    exact cl31 G B (vL G c0) (vL G c1) (vL G c2) (vL G c3) (vL G x) (vN G lx) h1.2 e2 (leB_iff.1 h4)
  · simp at ho
theorem dgST (G : Nat → List AV) (B : Nat) : DGood (⟨Try.prog, G, B⟩ : Ctx) (Dc Try.prog [21, 23, 24, 26, 32, 38, 41, 42, 46] progS [cmpL] 3) (loopsOf (bodyOf Try.f31)) := dgood (mix G B) (by kernel_rfl) (progS_ok G B) (.cast (.cons (i := 1) (by kernel_rfl) rfl (cmpL_ok G B) .nil) (by kernel_rfl))
theorem st31 (G : Nat → List AV) (k n : Nat) (a c m : Int) (Q : Ex → List AV → Hp → Prop) (R : AV → Hp → Prop) : vT G Q R (dcall (Dc Try.prog [21, 23, 24, 26, 32, 38, 41, 42, 46] progS [cmpL] 3) 500 40 Try.f31 [.ptr (.rw 0) (.lit 0), .ptr (.rw 2) (.lit 0), .agg (.of [.int .i64 (.var 8 c), .int .i64 (.var 7 m)])] [some ⟨1, .of [.slice false (.rw 1) (.lit 0) (.var 4 n), .int .i64 (.var 5 a)]⟩, some ⟨1, .ro (.var 6 k)⟩, some ⟨1, .of [.slice true (.ro (.var 6 k)) (.lit 0) (.var 4 n), .int .i64 (.var 5 a)]⟩] 3) = (
    (((c : Int) == 1) = true →
      okRdU [.agg (G (k)), .ptr (.rw 0) (n), .int .i64 (a)] = true ∧
      okRdU [.agg (G (k)), .ptr (.rw 0) (n), .int .i64 (a)] = true ∧
      ((rdVU [.agg (G (k)), .int .i64 (a)] : Int) == rdVU [.agg (G (k)), .int .i64 (a)]) = true ∧
      R (.bool (((rdEU [.agg (G (k)), .int .i64 (a)] : Int) == rdEU [.agg (G (k)), .int .i64 (a)]))) [some ⟨1, ([.slice false (.rw 1) (0) (n), .int .i64 (rdAU [.agg (G (k)), .int .i64 (a)])] : List AV)⟩, some ⟨1, (G (k))⟩, some ⟨1, ([.slice true (.ro (k)) (0) (n), .int .i64 (rdAU [.agg (G (k)), .int .i64 (a)])] : List AV)⟩]) ∧
    (((c : Int) == 1) = false →
      (((c : Int) == 2) = true →
        okRdU [.agg (G (k)), .ptr (.rw 0) (n), .int .i64 (a)] = true ∧
        okRdU [.agg (G (k)), .ptr (.rw 0) (n), .int .i64 (a)] = true ∧
        (((Int.tmod (rdVU [.agg (G (k)), .int .i64 (a)]) (2) : Int) == 1) = true →
          (((kXor .i64 (IntKind.wrap .i64 (kShr .u64 (rdVU [.agg (G (k)), .int .i64 (a)]) (1))) (IntKind.wrap .i64 (0 - (IntKind.wrap .i64 (kAnd .u64 (rdVU [.agg (G (k)), .int .i64 (a)]) (1))))) : Int) == IntKind.wrap .i64 (IntKind.wrap .i64 (0 - (IntKind.wrap .i64 (IntKind.wrap .u64 (Int.tdiv (rdVU [.agg (G (k)), .int .i64 (a)]) (2))))) - 1)) = true →
            R (.bool (((rdEU [.agg (G (k)), .int .i64 (a)] : Int) == rdEU [.agg (G (k)), .int .i64 (a)]))) [some ⟨1, ([.slice false (.rw 1) (0) (n), .int .i64 (rdAU [.agg (G (k)), .int .i64 (a)])] : List AV)⟩, some ⟨1, (G (k))⟩, some ⟨1, ([.slice true (.ro (k)) (0) (n), .int .i64 (rdAU [.agg (G (k)), .int .i64 (a)])] : List AV)⟩]) ∧
          (((kXor .i64 (IntKind.wrap .i64 (kShr .u64 (rdVU [.agg (G (k)), .int .i64 (a)]) (1))) (IntKind.wrap .i64 (0 - (IntKind.wrap .i64 (kAnd .u64 (rdVU [.agg (G (k)), .int .i64 (a)]) (1))))) : Int) == IntKind.wrap .i64 (IntKind.wrap .i64 (0 - (IntKind.wrap .i64 (IntKind.wrap .u64 (Int.tdiv (rdVU [.agg (G (k)), .int .i64 (a)]) (2))))) - 1)) = false →
            R (.bool (false)) [some ⟨1, ([.slice false (.rw 1) (0) (n), .int .i64 (rdAU [.agg (G (k)), .int .i64 (a)])] : List AV)⟩, some ⟨1, (G (k))⟩, some ⟨1, ([.slice true (.ro (k)) (0) (n), .int .i64 (rdAU [.agg (G (k)), .int .i64 (a)])] : List AV)⟩])) ∧
        (((Int.tmod (rdVU [.agg (G (k)), .int .i64 (a)]) (2) : Int) == 1) = false →
          (((kXor .i64 (IntKind.wrap .i64 (kShr .u64 (rdVU [.agg (G (k)), .int .i64 (a)]) (1))) (IntKind.wrap .i64 (0 - (IntKind.wrap .i64 (kAnd .u64 (rdVU [.agg (G (k)), .int .i64 (a)]) (1))))) : Int) == IntKind.wrap .i64 (IntKind.wrap .u64 (Int.tdiv (rdVU [.agg (G (k)), .int .i64 (a)]) (2)))) = true →
            R (.bool (((rdEU [.agg (G (k)), .int .i64 (a)] : Int) == rdEU [.agg (G (k)), .int .i64 (a)]))) [some ⟨1, ([.slice false (.rw 1) (0) (n), .int .i64 (rdAU [.agg (G (k)), .int .i64 (a)])] : List AV)⟩, some ⟨1, (G (k))⟩, some ⟨1, ([.slice true (.ro (k)) (0) (n), .int .i64 (rdAU [.agg (G (k)), .int .i64 (a)])] : List AV)⟩]) ∧
          (((kXor .i64 (IntKind.wrap .i64 (kShr .u64 (rdVU [.agg (G (k)), .int .i64 (a)]) (1))) (IntKind.wrap .i64 (0 - (IntKind.wrap .i64 (kAnd .u64 (rdVU [.agg (G (k)), .int .i64 (a)]) (1))))) : Int) == IntKind.wrap .i64 (IntKind.wrap .u64 (Int.tdiv (rdVU [.agg (G (k)), .int .i64 (a)]) (2)))) = false →
            R (.bool (false)) [some ⟨1, ([.slice false (.rw 1) (0) (n), .int .i64 (rdAU [.agg (G (k)), .int .i64 (a)])] : List AV)⟩, some ⟨1, (G (k))⟩, some ⟨1, ([.slice true (.ro (k)) (0) (n), .int .i64 (rdAU [.agg (G (k)), .int .i64 (a)])] : List AV)⟩]))) ∧
      (((c : Int) == 2) = false →
        (((c : Int) == 3) = true →
          (((IntKind.wrap .i64 (((n : Nat) : Int) - a) : Int) == 0) = true →
            ((IntKind.wrap .i64 (((n : Nat) : Int) - a) : Int) == 0) = true ∧
            R (.bool (true)) [some ⟨1, ([.slice false (.rw 1) (0) (n), .int .i64 (a)] : List AV)⟩, some ⟨1, (G (k))⟩, some ⟨1, ([.slice true (.ro (k)) (0) (n), .int .i64 (a)] : List AV)⟩]) ∧
          (((IntKind.wrap .i64 (((n : Nat) : Int) - a) : Int) == 0) = false →
            decide ((0 : Int) ≤ a) = true ∧
            decide ((a : Int) < ((n : Nat) : Int)) = true ∧
            isI .u8 (G (k)) (Int.toNat (a)) = true ∧
            (decide ((getI (G (k)) (Int.toNat (a)) : Int) > 1) = true →
              (!(((IntKind.wrap .i64 (((n : Nat) : Int) - a) : Int) == 0))) = true ∧
              decide ((0 : Int) ≤ a) = true ∧
              decide ((a : Int) < ((n : Nat) : Int)) = true ∧
              isI .u8 (G (k)) (Int.toNat (a)) = true ∧
              decide ((getI (G (k)) (Int.toNat (a)) : Int) > 1) = true ∧
              R (.bool (true)) [some ⟨1, ([.slice false (.rw 1) (0) (n), .int .i64 (a)] : List AV)⟩, some ⟨1, (G (k))⟩, some ⟨1, ([.slice true (.ro (k)) (0) (n), .int .i64 (a)] : List AV)⟩]) ∧
            (decide ((getI (G (k)) (Int.toNat (a)) : Int) > 1) = false →
              decide ((0 : Int) ≤ IntKind.wrap .i64 (IntKind.wrap .i64 (a + 1) - 1)) = true ∧
              decide ((IntKind.wrap .i64 (IntKind.wrap .i64 (a + 1) - 1) : Int) < ((n : Nat) : Int)) = true ∧
              isI .u8 (G (k)) (Int.toNat (IntKind.wrap .i64 (IntKind.wrap .i64 (a + 1) - 1))) = true ∧
              (!(((IntKind.wrap .i64 (((n : Nat) : Int) - a) : Int) == 0))) = true ∧
              decide ((0 : Int) ≤ a) = true ∧
              decide ((a : Int) < ((n : Nat) : Int)) = true ∧
              isI .u8 (G (k)) (Int.toNat (a)) = true ∧
              (!(decide ((getI (G (k)) (Int.toNat (a)) : Int) > 1))) = true ∧
              decide ((0 : Int) ≤ IntKind.wrap .i64 (IntKind.wrap .i64 (a + 1) - 1)) = true ∧
              decide ((IntKind.wrap .i64 (IntKind.wrap .i64 (a + 1) - 1) : Int) < ((n : Nat) : Int)) = true ∧
              isI .u8 (G (k)) (Int.toNat (IntKind.wrap .i64 (IntKind.wrap .i64 (a + 1) - 1))) = true ∧
              (((getI (G (k)) (Int.toNat (IntKind.wrap .i64 (IntKind.wrap .i64 (a + 1) - 1))) : Int) == 1) = true →
                ((getI (G (k)) (Int.toNat (IntKind.wrap .i64 (IntKind.wrap .i64 (a + 1) - 1))) : Int) == 1) = true ∧
                R (.bool (true)) [some ⟨1, ([.slice false (.rw 1) (0) (n), .int .i64 (IntKind.wrap .i64 (a + 1))] : List AV)⟩, some ⟨1, (G (k))⟩, some ⟨1, ([.slice true (.ro (k)) (0) (n), .int .i64 (IntKind.wrap .i64 (a + 1))] : List AV)⟩]) ∧
              (((getI (G (k)) (Int.toNat (IntKind.wrap .i64 (IntKind.wrap .i64 (a + 1) - 1))) : Int) == 1) = false →
                (!(((getI (G (k)) (Int.toNat (IntKind.wrap .i64 (IntKind.wrap .i64 (a + 1) - 1))) : Int) == 1))) = true ∧
                R (.bool (true)) [some ⟨1, ([.slice false (.rw 1) (0) (n), .int .i64 (IntKind.wrap .i64 (a + 1))] : List AV)⟩, some ⟨1, (G (k))⟩, some ⟨1, ([.slice true (.ro (k)) (0) (n), .int .i64 (IntKind.wrap .i64 (a + 1))] : List AV)⟩])))) ∧
        (((c : Int) == 3) = false →
          (((c : Int) == 4) = true →
            (decide ((m : Int) < 0) = true →
              okRdU [.agg (G (k)), .ptr (.rw 0) (n), .int .i64 (a)] = true ∧
              decide ((m : Int) < 0) = true ∧
              R (.bool (true)) [some ⟨1, ([.slice false (.rw 1) (0) (n), .int .i64 (a)] : List AV)⟩, some ⟨1, (G (k))⟩, some ⟨1, ([.slice true (.ro (k)) (0) (n), .int .i64 (a)] : List AV)⟩]) ∧
            (decide ((m : Int) < 0) = false →
              okRdU [.agg (G (k)), .ptr (.rw 0) (n), .int .i64 (a)] = true ∧
              leB (n) (1099511627776) = true ∧
              decide ((0 : Int) ≤ m) = true ∧
              decide ((m : Int) ≤ 9223372036854775807) = true ∧
              (!(decide ((m : Int) < 0))) = true ∧
              okRdU [.agg (G (k)), .ptr (.rw 0) (n), .int .i64 (a)] = true ∧
              leB (n) (1099511627776) = true ∧
              decide ((0 : Int) ≤ m) = true ∧
              decide ((m : Int) ≤ 9223372036854775807) = true ∧
              leB (rbNU [.agg (G (k)), .ptr (.rw 0) (n), .int .i64 (a), .int .i64 (m)]) (List.length (rbCU [.agg (G (k)), .ptr (.rw 0) (n), .int .i64 (a), .int .i64 (m)])) = true ∧
              u8s (subL (rbCU [.agg (G (k)), .ptr (.rw 0) (n), .int .i64 (a), .int .i64 (m)]) (0) (rbNU [.agg (G (k)), .ptr (.rw 0) (n), .int .i64 (a), .int .i64 (m)])) = true ∧
              leB (rbNU [.agg (G (k)), .ptr (.rw 0) (n), .int .i64 (a), .int .i64 (m)]) (List.length (rbCU [.agg (G (k)), .ptr (.rw 0) (n), .int .i64 (a), .int .i64 (m)])) = true ∧
              u8s (subL (rbCU [.agg (G (k)), .ptr (.rw 0) (n), .int .i64 (a), .int .i64 (m)]) (0) (rbNU [.agg (G (k)), .ptr (.rw 0) (n), .int .i64 (a), .int .i64 (m)])) = true ∧
              (((strL (subL (rbCU [.agg (G (k)), .ptr (.rw 0) (n), .int .i64 (a), .int .i64 (m)]) (0) (rbNU [.agg (G (k)), .ptr (.rw 0) (n), .int .i64 (a), .int .i64 (m)]))) : List UInt8) == (strL (subL (rbCU [.agg (G (k)), .ptr (.rw 0) (n), .int .i64 (a), .int .i64 (m)]) (0) (rbNU [.agg (G (k)), .ptr (.rw 0) (n), .int .i64 (a), .int .i64 (m)])))) = true ∧
              u8s (rbCU [.agg (G (k)), .ptr (.rw 0) (n), .int .i64 (a), .int .i64 (m)]) = true ∧
              Nat.beq (List.length (rbCU [.agg (G (k)), .ptr (.rw 0) (n), .int .i64 (a), .int .i64 (m)])) (rbNU [.agg (G (k)), .ptr (.rw 0) (n), .int .i64 (a), .int .i64 (m)]) = true ∧
              leB (rbNU [.agg (G (k)), .ptr (.rw 0) (n), .int .i64 (a), .int .i64 (m)]) (1099511627776) = true ∧
              R (.bool (((rbEU [.agg (G (k)), .ptr (.rw 0) (n), .int .i64 (a), .int .i64 (m)] : Int) == rbEU [.agg (G (k)), .ptr (.rw 0) (n), .int .i64 (a), .int .i64 (m)]))) [some ⟨1, ([.slice false (.rw 1) (0) (n), .int .i64 (rbAU [.agg (G (k)), .ptr (.rw 0) (n), .int .i64 (a), .int .i64 (m)])] : List AV)⟩, some ⟨1, (G (k))⟩, some ⟨1, ([.slice true (.ro (k)) (0) (n), .int .i64 (rbAU [.agg (G (k)), .ptr (.rw 0) (n), .int .i64 (a), .int .i64 (m)])] : List AV)⟩])) ∧
          (((c : Int) == 4) = false →
            (((c : Int) == 5) = true →
              (decide ((m : Int) < 0) = true →
                okRdU [.agg (G (k)), .ptr (.rw 0) (n), .int .i64 (a)] = true ∧
                decide ((m : Int) < 0) = true ∧
                R (.bool (true)) [some ⟨1, ([.slice false (.rw 1) (0) (n), .int .i64 (a)] : List AV)⟩, some ⟨1, (G (k))⟩, some ⟨1, ([.slice true (.ro (k)) (0) (n), .int .i64 (a)] : List AV)⟩]) ∧
              (decide ((m : Int) < 0) = false →
                okRdU [.agg (G (k)), .ptr (.rw 0) (n), .int .i64 (a)] = true ∧
                leB (n) (1099511627776) = true ∧
                decide ((0 : Int) ≤ m) = true ∧
                decide ((m : Int) ≤ 9223372036854775807) = true ∧
                (!(decide ((m : Int) < 0))) = true ∧
                okRdU [.agg (G (k)), .ptr (.rw 0) (n), .int .i64 (a)] = true ∧
                leB (n) (1099511627776) = true ∧
                decide ((0 : Int) ≤ m) = true ∧
                decide ((m : Int) ≤ 9223372036854775807) = true ∧
                ((((List.length (rnLU [.agg (G (k)), .ptr (.rw 0) (n), .int .i64 (a), .int .i64 (m)]) : Nat) : Int) : Int) == ((List.length (rnLU [.agg (G (k)), .ptr (.rw 0) (n), .int .i64 (a), .int .i64 (m)]) : Nat) : Int)) = true ∧
                ((rnEU [.agg (G (k)), .ptr (.rw 0) (n), .int .i64 (a), .int .i64 (m)] : Int) == rnEU [.agg (G (k)), .ptr (.rw 0) (n), .int .i64 (a), .int .i64 (m)]) = true ∧
                eqLU [.agg (rnLU [.agg (G (k)), .ptr (.rw 0) (n), .int .i64 (a), .int .i64 (m)]), .agg (rnLU [.agg (G (k)), .ptr (.rw 0) (n), .int .i64 (a), .int .i64 (m)])] = true ∧
                Nat.beq (List.length (rnLU [.agg (G (k)), .ptr (.rw 0) (n), .int .i64 (a), .int .i64 (m)])) (List.length (rnLU [.agg (G (k)), .ptr (.rw 0) (n), .int .i64 (a), .int .i64 (m)])) = true ∧
                Nat.beq (List.length (rnLU [.agg (G (k)), .ptr (.rw 0) (n), .int .i64 (a), .int .i64 (m)])) (List.length (rnLU [.agg (G (k)), .ptr (.rw 0) (n), .int .i64 (a), .int .i64 (m)])) = true ∧
                leB (List.length (rnLU [.agg (G (k)), .ptr (.rw 0) (n), .int .i64 (a), .int .i64 (m)])) (9223372036854775807) = true ∧
                R (.bool (true)) [some ⟨1, ([.slice false (.rw 1) (0) (n), .int .i64 (rnAU [.agg (G (k)), .ptr (.rw 0) (n), .int .i64 (a), .int .i64 (m)])] : List AV)⟩, some ⟨1, (G (k))⟩, some ⟨1, ([.slice true (.ro (k)) (0) (n), .int .i64 (rnAU [.agg (G (k)), .ptr (.rw 0) (n), .int .i64 (a), .int .i64 (m)])] : List AV)⟩])) ∧
            (((c : Int) == 5) = false →
              R (.bool (true)) [some ⟨1, ([.slice false (.rw 1) (0) (n), .int .i64 (a)] : List AV)⟩, some ⟨1, (G (k))⟩, some ⟨1, ([.slice true (.ro (k)) (0) (n), .int .i64 (a)] : List AV)⟩])))))) := by kernel_rfl
/-- where the reader stands behind a step -/
def stAU (xs : List AV) : Int := match xs with
  | [.agg l, .ptr r n, .int k a, .int _ c, .int _ m] =>
    if c = 1 ∨ c = 2 then rdAU [.agg l, .int .i64 a] else if c = 3 then rfAU [.agg l, .int .i64 a]
    else if c = 4 then (if m < 0 then a else rbAU [.agg l, .ptr r n, .int .i64 a, .int .i64 m]) else if c = 5 then (if m < 0 then a else rnAU [.agg l, .ptr r n, .int .i64 a, .int .i64 m]) else a
  | _ => 0
theorem rd_range {l : List AV} {n : Nat} {a : Int} (ok : RdOk l n a) : 0 ≤ rdVU [.agg l, .int .i64 a] ∧ rdVU [.agg l, .int .i64 a] ≤ 18446744073709551615 := by
  simp only [rdVU]
  cases hw : wrd l a.toNat with
  | none => simp
  | some p =>
    obtain ⟨v, j⟩ := p
    obtain ⟨_, _, g⟩ := wrd_back ok.b hw
    simp only; omega
theorem rd_pos {l : List AV} {n : Nat} {a : Int} (ok : RdOk l n a) : 0 ≤ rdAU [.agg l, .int .i64 a] ∧ rdAU [.agg l, .int .i64 a] ≤ n := by
  have hp := ok.pos
  have hle := ok.le
  rcases rdE_cases l a .i64 with h | h
  · obtain ⟨_, g1, g2⟩ := rd_bound (k := .i64) ok h; omega
  · have : rdAU [.agg l, .int .i64 a] = a := by
      simp only [rdEU, rdAU] at h ⊢
      split at h
      · simp at h
      · rename_i hw; simp only [hw]
    omega
theorem rb_pos {l : List AV} {n : Nat} {a m : Int} {r : Ref} (ok : RdOk l n a) : 0 ≤ rbAU [.agg l, .ptr r n, .int .i64 a, .int .i64 m] ∧ rbAU [.agg l, .ptr r n, .int .i64 a, .int .i64 m] ≤ n := by
  have hp := ok.pos
  have hle := ok.le
  simp only [rbAU]
  split
  · rename_i h
    simp only [rbOk, Bool.and_eq_true, decide_eq_true_eq] at h
    obtain ⟨g0, g1, g2⟩ := rd_bound (k := .i64) ok h.1
    omega
  · omega
theorem rn_pos {l : List AV} {n : Nat} {a m : Int} {r : Ref} (ok : RdOk l n a) : 0 ≤ rnAU [.agg l, .ptr r n, .int .i64 a, .int .i64 m] ∧ rnAU [.agg l, .ptr r n, .int .i64 a, .int .i64 m] ≤ n := by
  have hp := ok.pos
  have hle := ok.le
  have hlen := ok.len
  obtain ⟨p1, p2⟩ := rd_pos ok
  simp only [rnAU]
  split
  · rename_i h
    simp only [rnOk, Bool.and_eq_true, decide_eq_true_eq] at h
    simp only [nrAU]
    split
    · rename_i xs b hr
      have := nread_len hr (by omega)
      omega
    · omega
  · omega
theorem rf_pos {l : List AV} {n : Nat} {a : Int} (ok : RdOk l n a) : 0 ≤ rfAU [.agg l, .int .i64 a] ∧ rfAU [.agg l, .int .i64 a] ≤ n := by
  have hp := ok.pos
  have hle := ok.le
  have hlen := ok.len
  simp only [rfAU]
  split
  · rename_i h
    simp only [rfOk, Bool.and_eq_true, decide_eq_true_eq] at h
    omega
  · omega
theorem st_pos {l : List AV} {n : Nat} {a c m : Int} {r : Ref} {k : IntKind} (ok : RdOk l n a) : 0 ≤ stAU [.agg l, .ptr r n, .int k a, .int .i64 c, .int .i64 m] ∧ stAU [.agg l, .ptr r n, .int k a, .int .i64 c, .int .i64 m] ≤ n := by
  have hp := ok.pos
  have hle := ok.le
  simp only [stAU]
  split
  · exact rd_pos ok
  · split
    · exact rf_pos ok
    · split
      · split
        · omega
        · exact rb_pos ok
      · split
        · split
          · omega
          · exact rn_pos ok
        · omega
theorem unfX {u : Int} (h : 0 ≤ u ∧ u ≤ 18446744073709551615) :
    kXor .i64 (IntKind.wrap .i64 (kShr .u64 u 1)) (IntKind.wrap .i64 (0 - (IntKind.wrap .i64 (kAnd .u64 u 1)))) = if u % 2 = 1 then -(u / 2) - 1 else u / 2 := by
  rw [kAnd1 h, kShr1 h, i64_in (n := u / 2) (by omega)]
  split
  · rename_i hm
    rw [hm, i64_in (n := 1) (by omega), i64_in (n := 0 - 1) (by omega), show (0 - 1 : Int) = -1 from rfl, kXorM (by omega)]
  · rename_i hm
    have : u % 2 = 0 := by omega
    rw [this, i64_in (n := 0) (by omega), show (0 - 0 : Int) = 0 from rfl, i64_in (n := 0) (by omega), kXor0 (by omega)]
theorem u8s_subl {l : List AV} (h : u8s l = true) (o n : Nat) : u8s (subL l o n) = true := by
  simp only [u8s, List.all_eq_true, subL] at h ⊢
  exact fun v hv => h v (List.mem_of_mem_drop (List.mem_of_mem_take hv))
theorem rb_len {l : List AV} {n : Nat} {a m : Int} {r : Ref} (ok : RdOk l n a) : (rbCU [.agg l, .ptr r n, .int .i64 a, .int .i64 m]).length = rbNU [.agg l, .ptr r n, .int .i64 a, .int .i64 m] ∧ rbNU [.agg l, .ptr r n, .int .i64 a, .int .i64 m] ≤ n ∧ u8s (rbCU [.agg l, .ptr r n, .int .i64 a, .int .i64 m]) = true := by
  have hlen := ok.len
  simp only [rbCU, rbNU]
  split
  · rename_i h
    simp only [rbOk, Bool.and_eq_true, decide_eq_true_eq] at h
    obtain ⟨g0, g1, g2⟩ := rd_bound (k := .i64) ok h.1
    have hp := ok.pos
    refine ⟨by simp [subL]; omega, by omega, b8s_u8 (b8s_sub ok.b _ _)⟩
  · exact ⟨rfl, Nat.zero_le _, rfl⟩
theorem rn_len {l : List AV} {n : Nat} {a m : Int} {r : Ref} (ok : RdOk l n a) : (rnLU [.agg l, .ptr r n, .int .i64 a, .int .i64 m]).length ≤ n := by
  have hlen := ok.len
  obtain ⟨p1, p2⟩ := rd_pos ok
  simp only [rnLU]
  split
  · simp only [nrLU]
    split
    · rename_i xs b hr
      have := nread_len hr (by omega)
      rw [u64L_len]; omega
    · simp
  · simp
theorem step31 (G : Nat → List AV) (B : Nat) (k n : Nat) (a c m : Int) (h : okRdU [.agg (G k), .ptr (.rw 0) n, .int .i64 a] = true) (h40 : n ≤ 1099511627776) (hm : m ≤ 9223372036854775807) :
    ACalls (⟨Try.prog, G, B⟩ : Ctx) 31 [.ptr (.rw 0) 0, .ptr (.rw 2) 0, .agg [.int .i64 c, .int .i64 m]] [some ⟨1, [.slice false (.rw 1) 0 n, .int .i64 a]⟩, some ⟨1, G k⟩, some ⟨1, [.slice true (.ro k) 0 n, .int .i64 a]⟩]
      fun v' H' => v' = .bool true ∧ H' = [some ⟨1, [.slice false (.rw 1) 0 n, .int .i64 (stAU [.agg (G k), .ptr (.rw 0) n, .int .i64 a, .int .i64 c, .int .i64 m])]⟩, some ⟨1, G k⟩, some ⟨1, [.slice true (.ro k) 0 n, .int .i64 (stAU [.agg (G k), .ptr (.rw 0) n, .int .i64 a, .int .i64 c, .int .i64 m])]⟩] := by
  have ok := okRd_iff.1 h
  have hp := ok.pos
  have hle := ok.le
  have hlen := ok.len
  have hf : ∀ j, bnds j (G k) = true := fun j => u8s_flat (b8s_u8 ok.b)
  have key := dcall_ok (C := (⟨Try.prog, G, B⟩ : Ctx)) (fn := Try.f31) (f := 31) (R := fun v' H' => v' = .bool true ∧ H' = [some ⟨1, [.slice false (.rw 1) 0 n, .int .i64 (stAU [.agg (G k), .ptr (.rw 0) n, .int .i64 a, .int .i64 c, .int .i64 m])]⟩, some ⟨1, G k⟩, some ⟨1, [.slice true (.ro k) 0 n, .int .i64 (stAU [.agg (G k), .ptr (.rw 0) n, .int .i64 a, .int .i64 c, .int .i64 m])]⟩])
    (dgST G B) (by kernel_rfl) (by kernel_rfl) (by kernel_rfl) (fuel := 500) (n0 := 40) (keep := 3) (args := [.ptr (.rw 0) (.lit 0), .ptr (.rw 2) (.lit 0), .agg (.of [.int .i64 (.var 8 c), .int .i64 (.var 7 m)])]) (H := [some ⟨1, .of [.slice false (.rw 1) (.lit 0) (.var 4 n), .int .i64 (.var 5 a)]⟩, some ⟨1, .ro (.var 6 k)⟩, some ⟨1, .of [.slice true (.ro (.var 6 k)) (.lit 0) (.var 4 n), .int .i64 (.var 5 a)]⟩]) (by
    rw [st31]
    dsimp only
    have hr := rd_range ok
    have hx := unfX hr
    have wn : IntKind.wrap .i64 ((n : Int) - a) = (n : Int) - a := i64_in (by omega)
    have wa : IntKind.wrap .i64 (a + 1) = a + 1 := i64_in (by omega)
    have wb : IntKind.wrap .i64 (a + 1 - 1) = a := by rw [i64_in (by omega)]; omega
    rw [hx, wn, wa, wb]
    refine ⟨fun h1 => ?_, fun h1 => ⟨fun h2 => ?_, fun h2 => ⟨fun h3 => ?_, fun h3 => ⟨fun h4 => ?_, fun h4 => ⟨fun h5 => ?_, fun h5 => ?_⟩⟩⟩⟩⟩
    all_goals simp only [beq_iff_eq, beq_eq_false_iff_ne, ne_eq] at h1
    · have e : stAU [.agg (G k), .ptr (.rw 0) n, .int .i64 a, .int .i64 c, .int .i64 m] = rdAU [.agg (G k), .int .i64 a] := by simp [stAU, h1]
      rw [e]
      exact ⟨h, h, beq_self_eq_true _, by simp, rfl⟩
    all_goals simp only [beq_iff_eq, beq_eq_false_iff_ne, ne_eq] at h2
    · have e : stAU [.agg (G k), .ptr (.rw 0) n, .int .i64 a, .int .i64 c, .int .i64 m] = rdAU [.agg (G k), .int .i64 a] := by simp [stAU, h2]
      rw [e]
      refine ⟨h, h, fun q => ?_, fun q => ?_⟩
      · have q := eq_of_beq q
        rw [Int.tmod_eq_emod_of_nonneg hr.1] at q
        rw [if_pos q]
        have w : IntKind.wrap .i64 (IntKind.wrap .i64 (0 - (IntKind.wrap .i64 (IntKind.wrap .u64 (Int.tdiv (rdVU [.agg (G k), .int .i64 a]) 2)))) - 1) = -(rdVU [.agg (G k), .int .i64 a] / 2) - 1 := by
          rw [Int.tdiv_eq_ediv_of_nonneg hr.1, u64_in (by omega), i64_in (n := rdVU [.agg (G k), .int .i64 a] / 2) (by omega), i64_in (n := 0 - rdVU [.agg (G k), .int .i64 a] / 2) (by omega), i64_in (by omega)]; omega
        rw [w]
        exact ⟨fun _ => ⟨by simp, rfl⟩, fun z => by simp at z⟩
      · have q := ne_of_beq_false q
        rw [Int.tmod_eq_emod_of_nonneg hr.1] at q
        rw [if_neg q]
        have w : IntKind.wrap .i64 (IntKind.wrap .u64 (Int.tdiv (rdVU [.agg (G k), .int .i64 a]) 2)) = rdVU [.agg (G k), .int .i64 a] / 2 := by
          rw [Int.tdiv_eq_ediv_of_nonneg hr.1, u64_in (by omega), i64_in (by omega)]
        rw [w]
        exact ⟨fun _ => ⟨by simp, rfl⟩, fun z => by simp at z⟩
    all_goals simp only [beq_iff_eq, beq_eq_false_iff_ne, ne_eq] at h3
    · have e : stAU [.agg (G k), .ptr (.rw 0) n, .int .i64 a, .int .i64 c, .int .i64 m] = rfAU [.agg (G k), .int .i64 a] := by simp [stAU, h3]
      rw [e]
      refine ⟨fun q => ?_, fun q => ?_⟩
      · have q := eq_of_beq q
        have hr : rfOk (G k) a.toNat = false := by simp [rfOk]; omega
        have e2 : rfAU [.agg (G k), .int .i64 a] = a := by simp [rfAU, hr]
        rw [e2]
        exact ⟨by simp [q], rfl, rfl⟩
      · have q' := ne_of_beq_false q
        have hl : a.toNat < (G k).length := by omega
        obtain ⟨g1, g2, g3⟩ := b8s_get ok.b hl
        have p0 : decide ((0 : Int) ≤ a) = true := decide_eq_true (by omega)
        have p1 : decide (a < ((n : Nat) : Int)) = true := decide_eq_true (by omega)
        refine ⟨p0, p1, g1, fun z => ?_, fun z => ?_⟩
        · have z' := of_decide_eq_true z
          have hr : rfOk (G k) a.toNat = false := by simp [rfOk]; omega
          have e2 : rfAU [.agg (G k), .int .i64 a] = a := by simp [rfAU, hr]
          rw [e2]
          exact ⟨by rw [q]; rfl, p0, p1, g1, z, rfl, rfl⟩
        · have z' := of_decide_eq_false z
          have hr : rfOk (G k) a.toNat = true := by simp [rfOk]; omega
          have e2 : rfAU [.agg (G k), .int .i64 a] = a + 1 := by simp [rfAU, hr]
          rw [e2]
          exact ⟨p0, p1, g1, by rw [q]; rfl, p0, p1, g1, by rw [z]; rfl, p0, p1, g1, fun y => ⟨y, rfl, rfl⟩, fun y => ⟨by rw [y]; rfl, rfl, rfl⟩⟩
    all_goals simp only [beq_iff_eq, beq_eq_false_iff_ne, ne_eq] at h4
    · refine ⟨fun q => ?_, fun q => ?_⟩
      · have q' := of_decide_eq_true q
        have e : stAU [.agg (G k), .ptr (.rw 0) n, .int .i64 a, .int .i64 c, .int .i64 m] = a := by simp [stAU, h4, q']
        rw [e]
        exact ⟨h, q, rfl, rfl⟩
      · have q' := of_decide_eq_false q
        have e : stAU [.agg (G k), .ptr (.rw 0) n, .int .i64 a, .int .i64 c, .int .i64 m] = rbAU [.agg (G k), .ptr (.rw 0) n, .int .i64 a, .int .i64 m] := by simp [stAU, h4, q']
        rw [e]
        obtain ⟨l1, l2, l3⟩ := rb_len (m := m) (r := .rw 0) ok
        have l4 : leB (rbNU [.agg (G k), .ptr (.rw 0) n, .int .i64 a, .int .i64 m]) (rbCU [.agg (G k), .ptr (.rw 0) n, .int .i64 a, .int .i64 m]).length = true := leB_iff.2 (by omega)
        have l5 := u8s_subl l3 0 (rbNU [.agg (G k), .ptr (.rw 0) n, .int .i64 a, .int .i64 m])
        exact ⟨h, leB_iff.2 h40, decide_eq_true (by omega), decide_eq_true hm, by rw [q]; rfl, h, leB_iff.2 h40, decide_eq_true (by omega), decide_eq_true hm, l4, l5, l4, l5, beq_self_eq_true _, l3, by rw [l1]; exact Nat.beq_refl _, leB_iff.2 (by omega), by simp, rfl⟩
    all_goals simp only [beq_iff_eq, beq_eq_false_iff_ne, ne_eq] at h5
    · refine ⟨fun q => ?_, fun q => ?_⟩
      · have q' := of_decide_eq_true q
        have e : stAU [.agg (G k), .ptr (.rw 0) n, .int .i64 a, .int .i64 c, .int .i64 m] = a := by simp [stAU, h5, q']
        rw [e]
        exact ⟨h, q, rfl, rfl⟩
      · have q' := of_decide_eq_false q
        have e : stAU [.agg (G k), .ptr (.rw 0) n, .int .i64 a, .int .i64 c, .int .i64 m] = rnAU [.agg (G k), .ptr (.rw 0) n, .int .i64 a, .int .i64 m] := by simp [stAU, h5, q']
        rw [e]
        have l1 := rn_len (m := m) (r := .rw 0) ok
        exact ⟨h, leB_iff.2 h40, decide_eq_true (by omega), decide_eq_true hm, by rw [q]; rfl, h, leB_iff.2 h40, decide_eq_true (by omega), decide_eq_true hm, beq_self_eq_true _, beq_self_eq_true _, eqL_of (rnL_all _), Nat.beq_refl _, Nat.beq_refl _, leB_iff.2 (by omega), rfl, rfl⟩
    · have e : stAU [.agg (G k), .ptr (.rw 0) n, .int .i64 a, .int .i64 c, .int .i64 m] = a := by simp [stAU, h1, h2, h3, h4, h5]
      rw [e]
      exact ⟨rfl, rfl⟩)
  exact ACalls.keep (H := [some ⟨1, [.slice false (.rw 1) 0 n, .int .i64 a]⟩, some ⟨1, G k⟩, some ⟨1, [.slice true (.ro k) 0 n, .int .i64 a]⟩]) key (by simp) (by simp [hpB, bnds, bnd, hf]) (by simp [bnd]) (by simp)
end Go.Am
