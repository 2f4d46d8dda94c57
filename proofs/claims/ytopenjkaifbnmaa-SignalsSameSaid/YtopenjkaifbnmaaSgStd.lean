/-
  Does the program's set tell what the document's does?
-/
import Derived.Test.YtopenjkaifbnmaaSgSame
namespace Go.Am
open Go.Proofs Crc
set_option maxRecDepth 100000
/-- the empty set's cells, written out -/
def zP : EL := .of (.bool (.lit true) :: List.replicate 18 (.int .u32 (.lit 0)))
def newRS : DSum := fun xs H => match xs with
  | [] => some (.one (.ptr (.rw H.length) (.lit 0)) [.new ⟨1, .uf 1002 encRU [.agg zP]⟩])
  | _ => none
theorem zP_enc (G : Nat → List AV) : vL G zP = encP zeroP := rfl
theorem t19 (G : Nat → List AV) (Q : Ex → List AV → Hp → Prop) (R : AV → Hp → Prop) : vT G Q R (dcall (Dc Try.prog [] [] [] 0) 200 10 Try.f19 [] [] 1) = (
    R (.ptr (.rw 0) (0)) [some ⟨1, ([.bool (false), .bool (false), .bool (false), .bool (false), .bool (false), .bool (false), .bool (false), .bool (false), .bool (false), .bool (false), .bool (false), .bool (false), .bool (false), .bool (false), .bool (false), .bool (false), .bool (false), .bool (false), .bool (false), .bool (false), .bool (false), .bool (false), .bool (false), .bool (false), .bool (false), .bool (false), .bool (false), .bool (false), .bool (false), .bool (false), .bool (false), .bool (false), .int .u32 (0), .int .u32 (0), .int .u32 (0), .int .u32 (0), .int .u32 (0), .int .u32 (0), .int .u32 (0), .int .u32 (0), .int .u32 (0), .int .u32 (0), .int .u32 (0), .int .u32 (0), .int .u32 (0), .int .u32 (0), .int .u32 (0), .int .u32 (0)] : List AV)⟩]) := by kernel_rfl
theorem newR_ok (G : Nat → List AV) (B : Nat) : DSumOk (⟨Try.prog, G, B⟩ : Ctx) 19 newRS := by
  intro xs H o ho
  unfold newRS at ho
  split at ho
  · simp at ho; subst ho
    have key := dcall_ok (C := (⟨Try.prog, G, B⟩ : Ctx)) (f := 19) (R := fun v' H' => v' = .ptr (.rw 0) 0 ∧ H' = [some ⟨1, encR zeroP⟩]) (dg0 G B) (by kernel_rfl) (by kernel_rfl) (by kernel_rfl) (fuel := 200) (n0 := 10) (keep := 1) (args := []) (H := []) (by
      rw [t19]
      exact ⟨rfl, rfl⟩)
    have key := key.keep (by simp [vHp]) (by simp [hpB, encR_flat]) (by simp [bnd]) (by simp)
    have e : vBlk G ⟨1, .uf 1002 encRU [.agg zP]⟩ = ⟨1, encR zeroP⟩ := by simp only [vBlk, vL, vVs, vV, zP_enc, encRU_enc]
    refine DOut.new0 (C := (⟨Try.prog, G, B⟩ : Ctx)) (args0 := []) (v0 := .ptr (.rw 0) 0) ?_ (by simp only [vL, vVs, vV, zP_enc, encRU_enc]; exact encR_flat _ _) rfl rfl (by simp [bnd]) (by simp [vV, vR, vN, ren])
    show ACalls (⟨Try.prog, G, B⟩ : Ctx) 19 [] [] fun v' H' => v' = .ptr (.rw 0) 0 ∧ H' = [some (vBlk G ⟨1, .uf 1002 encRU [.agg zP]⟩)]
    rw [e]
    exact key
  · simp at ho
/-- two different sets: are they the same? -/
def sameT (s : Side) : DSum := fun xs H => match xs with
  | [.ptr (.rw i) (.lit 0), .ptr (.rw j) (.lit 0)] => match H[i]?, H[j]? with
    | some (some ⟨1, cs⟩), some (some ⟨1, ds⟩) => match s.get cs, s.get ds with
      | some (b, l), some (c, m) => match Nat.beq i j with
        | true => none
        | false => some (.chk b (.chk c (.one (.bool (.uf 1060 sameU [.agg l, .agg m])) [])))
      | _, _ => none
    | _, _ => none
  | _ => none
theorem sameT_ok {C : Ctx} {s : Side} {enc : Sg → List AV} (hs : SideOk C.G s enc) {f : FuncId} (h2 : ∀ p q, ACalls C f [.ptr (.rw 0) 0, .ptr (.rw 1) 0] [some ⟨1, enc p⟩, some ⟨1, enc q⟩] fun v H' => v = .bool (sameB p q) ∧ H'.take 2 = [some ⟨1, enc p⟩, some ⟨1, enc q⟩]) : DSumOk C f (sameT s) := by
  intro xs H o ho
  simp only [sameT] at ho
  split at ho
  · rename_i i j
    split at ho
    · rename_i cs ds hi hj
      split at ho
      · rename_i b l c m hl hm
        split at ho
        · simp at ho
        · rename_i hij
          have hij : i ≠ j := fun h => by rw [h, Nat.beq_refl] at hij; simp at hij
          simp at ho; subst ho
          intro hb hc
          obtain ⟨p, e1, e2⟩ := hs.get _ _ _ hl hb
          obtain ⟨q, e3, e4⟩ := hs.get _ _ _ hm hc
          refine DOut.get2 (args0 := [.ptr (.rw 0) 0, .ptr (.rw 1) 0]) hij hi hj ?_ (by rw [e2]; exact hs.flat _ _) (by rw [e4]; exact hs.flat _ _) (by simp [bnds, bnd]) (by simp [vVs, vV, vR, vN, rens, ren]) (by simp [vV, bnd]) (by simp [vV])
          simp only [vBlk, e2, e4, vV, vB, vVs, e1, e3, sameU_enc]
          exact h2 p q
      · simp at ho
    · simp at ho
  · simp at ho
def bothS : List (Nat × DSum) := (29, handlerS sideR) :: (30, waitsS sideR) :: (31, pendS sideR) :: (33, heldS sideR) :: (34, sendS sideR) :: (35, maskS sideR) :: (36, handleS sideR) :: (37, takeS sideR) :: (39, childS sideR) :: (19, newRS) :: (25, sameIntsS) :: (22, sameS sideP) :: (23, sameT sideR) :: progS
theorem bothS_ok (G : Nat → List AV) (B : Nat) : DSumsOk (⟨Try.prog, G, B⟩ : Ctx) bothS :=
  .cons (handlerS_ok (sideR_ok _) (r_handler' G B)) (.cons (waitsS_ok (sideR_ok _) (r_waits' G B)) (.cons (pendS_ok (sideR_ok _) (r_pend' G B)) (.cons (heldS_ok (sideR_ok _) (r_held' G B)) (.cons (sendS_ok (sideR_ok _) (r_send' G B))
  (.cons (maskS_ok (sideR_ok _) (r_mask' G B)) (.cons (handleS_ok (sideR_ok _) (r_handle' G B)) (.cons (takeS_ok (sideR_ok _) (r_take' G B)) (.cons (childS_ok (sideR_ok _) (r_child' G B)) (.cons (newR_ok G B) (.cons (sameIntsS_ok G B)
  (.cons (sameS_ok (sideP_ok _) (p_same G B) (p_same1 G B)) (.cons (sameT_ok (sideR_ok _) (r_same G B)) (progS_ok G B)))))))))))))
theorem dgB (G : Nat → List AV) (B : Nat) : DGood (⟨Try.prog, G, B⟩ : Ctx) (Dc Try.prog [9, 18] bothS [] 2) [] := dgood (mix G B) (by kernel_rfl) (bothS_ok G B) .nil
theorem st_b (G : Nat → List AV) (cs : List AV) (i : Int) (Q : Ex → List AV → Hp → Prop) (R : AV → Hp → Prop) : vT G Q R (dloop (Dc Try.prog [9, 18] bothS [] 2) 300 10 2 (loopN Try.f20 0) 55 [0, 1, 4, 5] [.ptr (.rw 0) (.lit 0), .ptr (.rw 1) (.lit 0), .bool (.lit false), .int .i64 (.var 6 i)] [some ⟨1, .var 1 cs⟩, some ⟨1, .uf 1002 encRU [.agg (.var 1 cs)]⟩]) = (
    (decide ((i : Int) ≤ 17) = true →
      okU [.agg cs] = true ∧
      (decide ((i : Int) < 1) = true →
        okRU [.agg (encRU [.agg cs]), .agg cs] = true ∧
        decide ((i : Int) < 1) = true ∧
        okU [.agg cs] = true ∧
        decide ((i : Int) < 1) = true ∧
        okRU [.agg (encRU [.agg cs]), .agg cs] = true ∧
        decide ((i : Int) < 1) = true ∧
        Q .normal [.ptr (.rw 0) (0), .ptr (.rw 1) (0), .bool (false), .int .i64 (IntKind.wrap .i64 (i + 1))] [some ⟨1, cs⟩, some ⟨1, (encRU [.agg cs])⟩]) ∧
      (decide ((i : Int) < 1) = false →
        (decide ((i : Int) > 15) = true →
          okRU [.agg (encRU [.agg cs]), .agg cs] = true ∧
          (!(decide ((i : Int) < 1))) = true ∧
          decide ((i : Int) > 15) = true ∧
          okU [.agg cs] = true ∧
          (!(decide ((i : Int) < 1))) = true ∧
          decide ((i : Int) > 15) = true ∧
          okRU [.agg (encRU [.agg cs]), .agg cs] = true ∧
          (!(decide ((i : Int) < 1))) = true ∧
          decide ((i : Int) > 15) = true ∧
          Q .normal [.ptr (.rw 0) (0), .ptr (.rw 1) (0), .bool (false), .int .i64 (IntKind.wrap .i64 (i + 1))] [some ⟨1, cs⟩, some ⟨1, (encRU [.agg cs])⟩]) ∧
        (decide ((i : Int) > 15) = false →
          okRU [.agg (encRU [.agg cs]), .agg cs] = true ∧
          (!(decide ((i : Int) < 1))) = true ∧
          (!(decide ((i : Int) > 15))) = true ∧
          ((atU [.agg cs, .int .i64 (i)] : Int) == atU [.agg cs, .int .i64 (i)]) = true ∧
          okU [.agg cs] = true ∧
          (!(decide ((i : Int) < 1))) = true ∧
          (!(decide ((i : Int) > 15))) = true ∧
          okRU [.agg (encRU [.agg cs]), .agg cs] = true ∧
          (!(decide ((i : Int) < 1))) = true ∧
          (!(decide ((i : Int) > 15))) = true ∧
          (waitsU [.agg cs, .int .i64 (i)] = true →
            waitsU [.agg cs, .int .i64 (i)] = true ∧
            Q .normal [.ptr (.rw 0) (0), .ptr (.rw 1) (0), .bool (false), .int .i64 (IntKind.wrap .i64 (i + 1))] [some ⟨1, cs⟩, some ⟨1, (encRU [.agg cs])⟩]) ∧
          (waitsU [.agg cs, .int .i64 (i)] = false →
            (!(waitsU [.agg cs, .int .i64 (i)])) = true ∧
            Q .normal [.ptr (.rw 0) (0), .ptr (.rw 1) (0), .bool (false), .int .i64 (IntKind.wrap .i64 (i + 1))] [some ⟨1, cs⟩, some ⟨1, (encRU [.agg cs])⟩])))) ∧
    (decide ((i : Int) ≤ 17) = false →
      Q (.exit 0) [.ptr (.rw 0) (0), .ptr (.rw 1) (0), .bool (false), .int .i64 (i)] [some ⟨1, cs⟩, some ⟨1, (encRU [.agg cs])⟩])) := by kernel_rfl
def J20 (p : Sg) (j : Nat) (vs : List AV) (H : Hp) : Prop := ∃ i : Int, -1 ≤ i ∧ i ≤ 18 ∧ j = (18 - i).toNat ∧ vs = [.ptr (.rw 0) 0, .ptr (.rw 1) 0, .bool false, .int .i64 i] ∧ H = [some ⟨1, encP p⟩, some ⟨1, encR p⟩]
theorem st_loop (G : Nat → List AV) (B : Nat) (p : Sg) : AWp (⟨Try.prog, G, B⟩ : Ctx) 2 (.loop (loopN Try.f20 0)) (fl 55 [0, 1, 4, 5] [.ptr (.rw 0) 0, .ptr (.rw 1) 0, .bool false, .int .i64 (-1)]) [some ⟨1, encP p⟩, some ⟨1, encR p⟩]
    (lv 55 [0, 1, 4, 5] fun e vs H => e = .exit 0 ∧ wk [.ptr (.rw 0) 0, .ptr (.rw 1) 0, .bool false, .undef] vs ∧ H = [some ⟨1, encP p⟩, some ⟨1, encR p⟩]) := by
  refine aloop_lv (J20 p) 19 ⟨-1, by omega, by omega, rfl, rfl, rfl⟩ ?_
  rintro j vs H ⟨i, hi1, hi2, rfl, rfl, rfl⟩
  have key := dloop_ok (C := (⟨Try.prog, G, B⟩ : Ctx)) (dgB G B) (fuel := 300) (n0 := 10) (m := 2) (c := loopN Try.f20 0) (N := 55) (live := [0, 1, 4, 5]) (vs := [.ptr (.rw 0) (.lit 0), .ptr (.rw 1) (.lit 0), .bool (.lit false), .int .i64 (.var 6 i)]) (H := [some ⟨1, .var 1 (encP p)⟩, some ⟨1, .uf 1002 encRU [.agg (.var 1 (encP p))]⟩])
    (Q := fun e vs' H' => match e with
      | .normal => ∃ k', k' < (18 - i).toNat ∧ (J20 p k' vs' H' ∨ ∃ vs'' H'', J20 p k' vs'' H'' ∧ View 2 vs'' H'' vs' H')
      | e => e = .exit 0 ∧ wk [.ptr (.rw 0) 0, .ptr (.rw 1) 0, .bool false, .undef] vs' ∧ H' = [some ⟨1, encP p⟩, some ⟨1, encR p⟩]) (by simp) (by
    rw [st_b, encRU_enc]
    have nx : i ≤ 17 → ∃ k', k' < (18 - i).toNat ∧ (J20 p k' [.ptr (.rw 0) 0, .ptr (.rw 1) 0, .bool false, .int .i64 (IntKind.wrap .i64 (i + 1))] [some ⟨1, encP p⟩, some ⟨1, encR p⟩] ∨ ∃ vs'' H'', J20 p k' vs'' H'' ∧ View 2 vs'' H'' [.ptr (.rw 0) 0, .ptr (.rw 1) 0, .bool false, .int .i64 (IntKind.wrap .i64 (i + 1))] [some ⟨1, encP p⟩, some ⟨1, encR p⟩]) := fun h =>
      ⟨(18 - (i + 1)).toNat, by omega, .inl ⟨i + 1, by omega, by omega, rfl, by rw [i64_in (by omega)], rfl⟩⟩
    repeat' first | refine And.intro ?_ ?_ | intro _
    all_goals first
      | assumption
      | exact okU_enc p
      | exact okRU_enc p
      | rfl
      | (exact nx (of_decide_eq_true (by assumption)))
      | (simp [wk]; done)
      | (simp_all; done))
  simp only [vVs, vV, vR, vN, vI, vB, vHp, List.map_cons, List.map_nil, Option.map_some, vBlk, vL, encRU_enc] at key
  exact key
def stL : DL := ⟨0, 55, [0, 1, 4, 5], fun vs H => match vs, H with
  | [.ptr (.rw 0) (.lit 0), .ptr (.rw 1) (.lit 0), .bool (.lit false), .int .i64 (.lit (-1))], [some ⟨1, l⟩, some ⟨1, r⟩] =>
    some (.chk (.uf 1003 okRU [.agg r, .agg l]) (.one (.exit 0) [.ptr (.rw 0) (.lit 0), .ptr (.rw 1) (.lit 0), .bool (.lit false), .undef] [some ⟨1, l⟩, some ⟨1, r⟩]))
  | _, _ => none⟩
theorem stL_ok (G : Nat → List AV) (B : Nat) : DLoopOk (⟨Try.prog, G, B⟩ : Ctx) 2 (loopN Try.f20 0) stL := by
  refine .of fun vs H o ho n Q hQ => ?_
  simp only [stL] at ho
  split at ho
  · rename_i l r
    simp only [Option.some.injEq] at ho
    subst ho
    obtain ⟨h1, h2⟩ := hQ
    simp only [vB, vVs, vV, okRU, Bool.and_eq_true] at h1
    have e1 := okP_eq h1.1
    have e2 := eqCs_eq h1.2
    refine lone ?_ h2
    simp only [stL, vVs, vV, vR, vN, vI, vB, vHp, List.map_cons, List.map_nil, Option.map_some, vBlk]
    rw [e2, e1, decP_enc]
    exact st_loop G B _
  · simp at ho
theorem dgST (G : Nat → List AV) (B : Nat) : DGood (⟨Try.prog, G, B⟩ : Ctx) (Dc Try.prog [] bothS [stL] 2) (loopsOf (bodyOf Try.f20)) := dgood (mix G B) (by kernel_rfl) (bothS_ok G B) (.cast (.cons (i := 0) (by kernel_rfl) rfl (stL_ok G B) .nil) (by kernel_rfl))
theorem t20 (G : Nat → List AV) (cs : List AV) (Q : Ex → List AV → Hp → Prop) (R : AV → Hp → Prop) : vT G Q R (dcall (Dc Try.prog [] bothS [stL] 2) 300 10 Try.f20 [.ptr (.rw 0) (.lit 0), .ptr (.rw 1) (.lit 0)] [some ⟨1, .var 1 cs⟩, some ⟨1, .uf 1002 encRU [.agg (.var 1 cs)]⟩] 2) = (
    okRU [.agg (encRU [.agg cs]), .agg cs] = true ∧
    okU [.agg cs] = true ∧
    okRU [.agg (encRU [.agg cs]), .agg cs] = true ∧
    twinU [.agg (pendU [.agg cs]), .ptr (.rw 0) (pendNU [.agg cs]), .agg (pendU [.agg cs]), .ptr (.rw 0) (pendNU [.agg cs])] = true ∧
    okU [.agg cs] = true ∧
    okRU [.agg (encRU [.agg cs]), .agg cs] = true ∧
    R (.bool (((heldU [.agg cs] : Int) == heldU [.agg cs]))) [some ⟨1, cs⟩, some ⟨1, (encRU [.agg cs])⟩]) := by kernel_rfl
theorem nl_eqC (l : List Nat) : (nl l).all (fun v => eqC v v) = true := by simp [nl, eqC]
theorem nl_ok (l : List Nat) : okI .i64 (nl l) 0 l.length = true := okI_of fun j hj => by rw [Nat.zero_add]; exact (nl_getI hj).2
theorem twin_pend (p : Sg) {r r' : Ref} : twinU [.agg (nl (pend p.wt)), .ptr r (pend p.wt).length, .agg (nl (pend p.wt)), .ptr r' (pend p.wt).length] = true := by
  have := pend_le p.wt
  simp only [twinU, Nat.beq_refl, nl_ok, eqCs_ints (nl_eqC _), Bool.true_and, Bool.and_true]
  exact Nat.ble_eq_true_of_le (by omega)
theorem st_call (G : Nat → List AV) (B : Nat) (p : Sg) : ACalls (⟨Try.prog, G, B⟩ : Ctx) 20 [.ptr (.rw 0) 0, .ptr (.rw 1) 0] [some ⟨1, encP p⟩, some ⟨1, encR p⟩] fun v H' => v = .bool true ∧ H'.take 2 = [some ⟨1, encP p⟩, some ⟨1, encR p⟩] := by
  have key := dcall_ok (C := (⟨Try.prog, G, B⟩ : Ctx)) (f := 20) (R := fun v' H' => v' = .bool true ∧ H' = [some ⟨1, encP p⟩, some ⟨1, encR p⟩]) (dgST G B) (by kernel_rfl) (by kernel_rfl) (by kernel_rfl) (fuel := 300) (n0 := 10) (keep := 2) (args := [.ptr (.rw 0) (.lit 0), .ptr (.rw 1) (.lit 0)]) (H := [some ⟨1, .var 1 (encP p)⟩, some ⟨1, .uf 1002 encRU [.agg (.var 1 (encP p))]⟩]) (by
    rw [t20, encRU_enc, pendU_enc, pendNU_enc]
    repeat' first | refine And.intro ?_ ?_ | intro _
    all_goals first
      | assumption
      | exact okU_enc p
      | exact okRU_enc p
      | exact twin_pend p
      | rfl
      | (simp; done)
      | (simp_all; done))
  simp only [vVs, vV, vR, vN, vHp, List.map_cons, List.map_nil, Option.map_some, vBlk, vL, encRU_enc] at key
  exact key
def standS : DSum := fun xs H => match xs with
  | [.ptr (.rw i) (.lit 0), .ptr (.rw j) (.lit 0)] => match H[i]?, H[j]? with
    | some (some ⟨1, l⟩), some (some ⟨1, r⟩) => match Nat.beq i j with
      | true => none
      | false => some (.chk (.uf 1003 okRU [.agg r, .agg l]) (.one (.bool (.lit true)) []))
    | _, _ => none
  | _ => none
theorem standS_ok (G : Nat → List AV) (B : Nat) : DSumOk (⟨Try.prog, G, B⟩ : Ctx) 20 standS := by
  intro xs H o ho
  simp only [standS] at ho
  split at ho
  · rename_i i j
    split at ho
    · rename_i l r hi hj
      split at ho
      · simp at ho
      · rename_i hij
        have hij : i ≠ j := fun h => by rw [h, Nat.beq_refl] at hij; simp at hij
        simp at ho; subst ho
        intro h1
        simp only [vB, vVs, vV, okRU, Bool.and_eq_true] at h1
        have e1 := okP_eq h1.1
        have e2 := eqCs_eq h1.2
        refine DOut.get2 (args0 := [.ptr (.rw 0) 0, .ptr (.rw 1) 0]) hij hi hj ?_ (by show bnds 0 (vL G l) = true; rw [e1]; exact encP_flat _ _) (by show bnds 0 (vL G r) = true; rw [e2]; exact encR_flat _ _) (by simp [bnds, bnd]) (by simp [vVs, vV, vR, vN, rens, ren]) (by simp [vV, bnd]) (by simp [vV])
        simp only [vBlk, vV, vB]
        rw [e2, e1, decP_enc]
        exact st_call G B _
    · simp at ho
  · simp at ho
def allS : List (Nat × DSum) := (20, standS) :: bothS
theorem allS_ok (G : Nat → List AV) (B : Nat) : DSumsOk (⟨Try.prog, G, B⟩ : Ctx) allS := .cons (standS_ok G B) (bothS_ok G B)
end Go.Am
