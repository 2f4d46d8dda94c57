/-
  WireLists: the law's loops and the run.
-/
import Derived.Test.YtcodkoholbmkkaaWrN
namespace Go.Am
open Go.Proofs
set_option maxRecDepth 100000
theorem dgLP (G : Nat → List AV) (B : Nat) : DGood (⟨Try.prog, G, B⟩ : Ctx) (Dc Try.prog [] progP [] 0) [] := dgood (mix G B) (by kernel_rfl) (progP_ok G B) .nil
theorem rb5a (G : Nat → List AV) (c1 l x w : List AV) (k m n5 n6 n8 : Nat) (c i : Int) (Q : Ex → List AV → Hp → Prop) (R : AV → Hp → Prop) : vT G Q R (dloop (Dc Try.prog [] progP [] 0) 300 40 0 (loopN Try.f5 0) 193 [0, 1, 4, 5, 6, 8, 9] [.slice true (.ro (.var 6 k)) (.lit 0) (.var 4 m), .int .i64 (.var 7 c), .bool (.lit false), .slice true (.rw 2) (.lit 0) (.var 10 n5), .slice false (.rw 3) (.lit 0) (.var 11 n6), .slice true (.rw 4) (.lit 0) (.var 12 n8), .int .i64 (.var 8 i)] [none, some ⟨2, .var 20 c1⟩, some ⟨2, .var 21 l⟩, some ⟨1, .var 22 x⟩, some ⟨1, .var 23 w⟩]) = (
    (decide ((i : Int) < ((m : Nat) : Int)) = true →
      decide ((0 : Int) ≤ i) = true ∧
      decide ((i : Int) < ((n5 : Nat) : Int)) = true ∧
      leB ((Int.toNat (i)) * 2 + 2) (List.length l) = true ∧
      decide ((0 : Int) ≤ i) = true ∧
      decide ((i : Int) < ((m : Nat) : Int)) = true ∧
      leafsOk (G (k)) ((Int.toNat (i)) * 2) [.int .u64, .int .u64] = true ∧
      isI .u64 (subL l ((Int.toNat (i)) * 2) (2)) (0) = true ∧
      isI .u64 (subL l ((Int.toNat (i)) * 2) (2)) (1) = true ∧
      (((getI (subL l ((Int.toNat (i)) * 2) (2)) (0) : Int) == getI (G (k)) ((Int.toNat (i)) * 2)) = true →
        (((getI (subL l ((Int.toNat (i)) * 2) (2)) (1) : Int) == getI (G (k)) ((Int.toNat (i)) * 2 + 1)) = true →
          decide ((0 : Int) ≤ i) = true ∧
          decide ((i : Int) < ((m : Nat) : Int)) = true ∧
          isI .u64 (G (k)) ((Int.toNat (i)) * 2) = true ∧
          inU64 [.int .u64 (getI (G (k)) ((Int.toNat (i)) * 2))] = true ∧
          leB (List.length (nformU [.int .u64 (getI (G (k)) ((Int.toNat (i)) * 2))])) (List.length (nformU [.int .u64 (getI (G (k)) ((Int.toNat (i)) * 2))])) = true ∧
          cellsB (subL (bytesL (nformU [.int .u64 (getI (G (k)) ((Int.toNat (i)) * 2))])) (0) (List.length (nformU [.int .u64 (getI (G (k)) ((Int.toNat (i)) * 2))]))) = true ∧
          leB (n8 + List.length (nformU [.int .u64 (getI (G (k)) ((Int.toNat (i)) * 2))])) (140737488355328) = true ∧
          Nat.beq (List.length w) (n8) = true ∧
          decide ((0 : Int) ≤ i) = true ∧
          decide ((i : Int) < ((m : Nat) : Int)) = true ∧
          isI .u64 (G (k)) (1 + (Int.toNat (i)) * 2) = true ∧
          inU64 [.int .u64 (getI (G (k)) (1 + (Int.toNat (i)) * 2))] = true ∧
          leB (List.length (nformU [.int .u64 (getI (G (k)) (1 + (Int.toNat (i)) * 2))])) (List.length (nformU [.int .u64 (getI (G (k)) (1 + (Int.toNat (i)) * 2))])) = true ∧
          cellsB (subL (bytesL (nformU [.int .u64 (getI (G (k)) (1 + (Int.toNat (i)) * 2))])) (0) (List.length (nformU [.int .u64 (getI (G (k)) (1 + (Int.toNat (i)) * 2))]))) = true ∧
          leB (n8 + List.length (nformU [.int .u64 (getI (G (k)) ((Int.toNat (i)) * 2))]) + List.length (nformU [.int .u64 (getI (G (k)) (1 + (Int.toNat (i)) * 2))])) (140737488355328) = true ∧
          Nat.beq (List.length (w ++ (subL (bytesL (nformU [.int .u64 (getI (G (k)) ((Int.toNat (i)) * 2))])) (0) (List.length (nformU [.int .u64 (getI (G (k)) ((Int.toNat (i)) * 2))]))))) (n8 + List.length (nformU [.int .u64 (getI (G (k)) ((Int.toNat (i)) * 2))])) = true ∧
          Q .normal [.slice true (.ro (k)) (0) (m), .int .i64 (c), .bool (false), .slice true (.rw 2) (0) (n5), .slice false (.rw 3) (0) (n6), .slice true (.rw 8) (0) (n8 + List.length (nformU [.int .u64 (getI (G (k)) ((Int.toNat (i)) * 2))]) + List.length (nformU [.int .u64 (getI (G (k)) (1 + (Int.toNat (i)) * 2))])), .int .i64 (IntKind.wrap .i64 (i + 1))] [none, some ⟨2, c1⟩, some ⟨2, l⟩, some ⟨1, x⟩, none, some ⟨1, (bytesL (nformU [.int .u64 (getI (G (k)) ((Int.toNat (i)) * 2))]))⟩, none, some ⟨1, (bytesL (nformU [.int .u64 (getI (G (k)) (1 + (Int.toNat (i)) * 2))]))⟩, some ⟨1, ((w ++ (subL (bytesL (nformU [.int .u64 (getI (G (k)) ((Int.toNat (i)) * 2))])) (0) (List.length (nformU [.int .u64 (getI (G (k)) ((Int.toNat (i)) * 2))])))) ++ (subL (bytesL (nformU [.int .u64 (getI (G (k)) (1 + (Int.toNat (i)) * 2))])) (0) (List.length (nformU [.int .u64 (getI (G (k)) (1 + (Int.toNat (i)) * 2))]))))⟩]) ∧
        (((getI (subL l ((Int.toNat (i)) * 2) (2)) (1) : Int) == getI (G (k)) ((Int.toNat (i)) * 2 + 1)) = false →
          Q .ret [.slice true (.ro (k)) (0) (m), .int .i64 (c), .bool (false), .slice true (.rw 2) (0) (n5), .slice false (.rw 3) (0) (n6), .slice true (.rw 4) (0) (n8), .int .i64 (i)] [none, some ⟨2, c1⟩, some ⟨2, l⟩, some ⟨1, x⟩, some ⟨1, w⟩])) ∧
      (((getI (subL l ((Int.toNat (i)) * 2) (2)) (0) : Int) == getI (G (k)) ((Int.toNat (i)) * 2)) = false →
        Q .ret [.slice true (.ro (k)) (0) (m), .int .i64 (c), .bool (false), .slice true (.rw 2) (0) (n5), .slice false (.rw 3) (0) (n6), .slice true (.rw 4) (0) (n8), .int .i64 (i)] [none, some ⟨2, c1⟩, some ⟨2, l⟩, some ⟨1, x⟩, some ⟨1, w⟩])) ∧
    (decide ((i : Int) < ((m : Nat) : Int)) = false →
      Q (.exit 0) [.slice true (.ro (k)) (0) (m), .int .i64 (c), .bool (false), .slice true (.rw 2) (0) (n5), .slice false (.rw 3) (0) (n6), .slice true (.rw 4) (0) (n8), .int .i64 (i)] [none, some ⟨2, c1⟩, some ⟨2, l⟩, some ⟨1, x⟩, some ⟨1, w⟩])) := by kernel_rfl
theorem u64L_get {ps : List Nat} {j : Nat} (h : j < ps.length) : isI .u64 (u64L ps) j = true ∧ getI (u64L ps) j = ((ps.getD j 0 : Nat) : Int) := by
  have e : (u64L ps)[j]? = some (.int .u64 ((ps.getD j 0 : Nat) : Int)) := by simp [u64L, List.getD, h]
  simp [isI, getI, e]
theorem getD_app {ps qs : List Nat} {j : Nat} (h : j < ps.length) : (ps ++ qs).getD j 0 = ps.getD j 0 := by simp [List.getD, List.getElem?_append_left h]
abbrev tail7 : List AV := [.int .u64 7, .int .u64 71]
theorem nl5a (G : Nat → List AV) (B : Nat) (ps : List Nat) (k m n6 : Nat) (c : Int) (x : List AV) (w0 : List UInt8) (hG : G k = u64L ps) (hl : ps.length = m * 2) (hu : allU ps) (hm : m ≤ 1099511627776) (hx : u8s x = true) (h0 : w0.length ≤ 10) :
    AWp (⟨Try.prog, G, B⟩ : Ctx) 0 (.loop (loopN Try.f5 0)) (fl 193 [0, 1, 4, 5, 6, 8, 9] [.slice true (.ro k) 0 m, .int .i64 c, .bool false, .slice true (.rw 2) 0 (m + 1), .slice false (.rw 3) 0 n6, .slice true (.rw 4) 0 w0.length, .int .i64 0]) [none, some ⟨2, tail7⟩, some ⟨2, u64L (ps ++ [7, 71])⟩, some ⟨1, x⟩, some ⟨1, bytesL w0⟩]
      (lv 193 [0, 1, 4, 5, 6, 8, 9] fun e vs H => e = .exit 0 ∧ wk [.slice true (.ro k) 0 m, .int .i64 c, .bool false, .undef, .slice false (.rw 3) 0 n6, .slice true (.rw 4) 0 (w0 ++ fcat ps).length, .undef] vs ∧ H = [none, some ⟨2, tail7⟩, some ⟨2, u64L (ps ++ [7, 71])⟩, some ⟨1, x⟩, some ⟨1, bytesL (w0 ++ fcat ps)⟩]) := by
  refine aloop_lv (fun j vs H => ∃ i : Nat, i ≤ m ∧ j = m - i ∧ vs = [.slice true (.ro k) 0 m, .int .i64 c, .bool false, .slice true (.rw 2) 0 (m + 1), .slice false (.rw 3) 0 n6, .slice true (.rw 4) 0 (w0 ++ fcat (ps.take (i * 2))).length, .int .i64 (i : Int)] ∧ H = [none, some ⟨2, tail7⟩, some ⟨2, u64L (ps ++ [7, 71])⟩, some ⟨1, x⟩, some ⟨1, bytesL (w0 ++ fcat (ps.take (i * 2)))⟩]) m ⟨0, by omega, rfl, by simp [fcat], by simp [fcat]⟩ ?_
  rintro j vs H ⟨i, hi, rfl, rfl, rfl⟩
  refine dloop_ok (C := (⟨Try.prog, G, B⟩ : Ctx)) (dgLP G B) (fuel := 300) (n0 := 40) (m := 0) (c := loopN Try.f5 0) (vs := [.slice true (.ro (.var 6 k)) (.lit 0) (.var 4 m), .int .i64 (.var 7 c), .bool (.lit false), .slice true (.rw 2) (.lit 0) (.var 10 (m + 1)), .slice false (.rw 3) (.lit 0) (.var 11 n6), .slice true (.rw 4) (.lit 0) (.var 12 (w0 ++ fcat (ps.take (i * 2))).length), .int .i64 (.var 8 (i : Int))])
    (H := [none, some ⟨2, .var 20 tail7⟩, some ⟨2, .var 21 (u64L (ps ++ [7, 71]))⟩, some ⟨1, .var 22 x⟩, some ⟨1, .var 23 (bytesL (w0 ++ fcat (ps.take (i * 2))))⟩]) (by simp) ?_
  rw [rb5a, Int.toNat_natCast, Nat.add_comm 1 (i * 2)]
  dsimp only
  rw [hG]
  refine ⟨fun h => ?_, fun h => ?_⟩
  · have h' := of_decide_eq_true h
    have hi2 : i * 2 + 2 ≤ ps.length := by omega
    have hi3 : i * 2 + 2 ≤ (ps ++ [7, 71]).length := by simp; omega
    obtain ⟨i1, g1⟩ := u64L_get (ps := ps) (j := i * 2) (by omega)
    obtain ⟨i2, g2⟩ := u64L_get (ps := ps) (j := i * 2 + 1) (by omega)
    have ha := allU_get hu (i * 2)
    have hb := allU_get hu (i * 2 + 1)
    have e1 := take_two hi2
    have e2 := subL_two hi3
    rw [getD_app (by omega), getD_app (by omega)] at e2
    rw [e2, g1, g2]
    generalize ps.getD (i * 2) 0 = a at *
    generalize ps.getD (i * 2 + 1) 0 = b at *
    have ga : getI (u64L [a, b]) 0 = (a : Int) := rfl
    have gb : getI (u64L [a, b]) 1 = (b : Int) := rfl
    have la := nform_len a
    have lb := nform_len b
    have lf := fcat_len (ps.take (i * 2))
    have lt : (ps.take (i * 2)).length ≤ i * 2 := by simp; omega
    have sb : ∀ z, subL (bytesL (nform z)) 0 (nform z).length = bytesL (nform z) := fun z => by simp [subL, ← bytesL_length]
    have ub : ∀ x, cellsB (bytesL x) = true := fun x => u8s_cells (b8s_u8 (b8s_bytes x))
    have wi : IntKind.wrap .i64 ((i : Int) + 1) = ((i + 1 : Nat) : Int) := by rw [i64_in (by omega)]; omega
    rw [ga, gb, nformU_nat, nformU_nat, sb, sb, wi]
    have p0 : decide ((0 : Int) ≤ (i : Int)) = true := decide_eq_true (by omega)
    have hnew : fcat (ps.take ((i + 1) * 2)) = fcat (ps.take (i * 2)) ++ (nform a ++ nform b) := by
      rw [show (i + 1) * 2 = i * 2 + 2 by omega, e1, fcat_app]; simp [fcat]
    refine ⟨p0, decide_eq_true (by omega), leB_iff.2 (by rw [u64L_len]; omega), p0, h, by simp [leafsOk, leafOk, i1, i2], rfl, rfl, fun _ => ⟨fun _ => ⟨p0, h, i1, inU_nat ha, leB_iff.2 (Nat.le_refl _), ub _, leB_iff.2 (by simp; omega), by rw [bytesL_length]; exact Nat.beq_refl _, p0, h, i2, inU_nat hb, leB_iff.2 (Nat.le_refl _), ub _, leB_iff.2 (by simp; omega), by simp only [List.length_append, bytesL_length]; exact Nat.beq_refl _,
      ⟨m - (i + 1), by omega, .inr ⟨_, _, ⟨i + 1, by omega, rfl, rfl, rfl⟩, ?_⟩⟩⟩, fun z => by simp at z⟩, fun z => by simp at z⟩
    rw [hnew, ← bytesL_append, ← bytesL_append, List.append_assoc, List.append_assoc]
    have f1 : ∀ j, bnds j (u64L (ps ++ [7, 71])) = true := fun j => u64L_flat j _
    have f2 : ∀ j, bnds j (bytesL (w0 ++ (fcat (ps.take (i * 2)) ++ (nform a ++ nform b)))) = true := fun j => bytesL_flat j _
    have f3 : ∀ j, bnds j x = true := fun j => u8s_flat hx
    refine View.renM (θ := [0, 1, 2, 3, 8]) (by simp) (fun i hi => absurd hi (by omega)) (by decide) ⟨by simp, ⟨by simp [bnds, bnd], by simp [rens, ren]⟩, ⟨f1 _, by rw [rens_flat _ _ (f1 0)]; rfl⟩, ⟨f3 _, by rw [rens_flat _ _ (f3 0)]; rfl⟩, ⟨f2 _, by rw [rens_flat _ _ (f2 0)]; rfl⟩, trivial⟩ (by simp [bnds, bnd]) ?_
    simp [rens, ren, wk]
    omega
  · have h' := of_decide_eq_false h
    have : i = m := by omega
    subst this
    have e : ps.take (i * 2) = ps := by rw [← hl]; exact List.take_length
    rw [e]
    exact ⟨rfl, by simp [wk], rfl⟩
def okLU (G : Nat → List AV) (xs : List AV) : Bool := match xs with
  | [.agg l, .ptr _ n5, .ptr (.ro k) m] => samCs l (G k ++ tail7) && ((G k).all u64c && (Nat.beq (G k).length (m * 2) && (leB m 1099511627776 && Nat.beq n5 (m + 1))))
  | _ => false
theorem okL_eq {G : Nat → List AV} {l : List AV} {r : Ref} {n5 k m : Nat} (h : okLU G [.agg l, .ptr r n5, .ptr (.ro k) m] = true) : ∃ ps, G k = u64L ps ∧ ps = (G k).map cellN ∧ l = u64L (ps ++ [7, 71]) ∧ ps.length = m * 2 ∧ allU ps ∧ m ≤ 1099511627776 ∧ n5 = m + 1 := by
  simp only [okLU, Bool.and_eq_true, leB_iff] at h
  obtain ⟨h1, h2, h3, h4, h5⟩ := h
  obtain ⟨g1, g2⟩ := cells_u64 h2
  have h3 := Nat.eq_of_beq_eq_true h3
  refine ⟨(G k).map cellN, g1, rfl, ?_, by simpa using h3, g2, h4, Nat.eq_of_beq_eq_true h5⟩
  rw [samCs_eq h1]
  conv => lhs; rw [g1]
  simp [u64L]
def lL0 (G : Nat → List AV) : DL := ⟨0, 193, [0, 1, 4, 5, 6, 8, 9], fun vs H => match vs, H with
  | [.slice true (.ro k) (.lit 0) m, .int .i64 c, .bool (.lit false), .slice true (.rw 2) (.lit 0) n5, .slice false (.rw 3) (.lit 0) n6, .slice true (.rw 4) (.lit 0) n8, .int .i64 (.lit 0)], [none, some ⟨2, .of [.int .u64 (.lit 7), .int .u64 (.lit 71)]⟩, some ⟨2, l⟩, some ⟨1, x⟩, some ⟨1, .bytes w0⟩] =>
    some (.chk (.uf 1150 (okLU G) [.agg l, .ptr (.rw 0) n5, .ptr (.ro k) m]) <| .chk (.eqN n8 (.slen w0)) <| .chk (.leN (.slen w0) (.lit 10)) <| .chk (.u8s x) <|
      .one (.exit 0) [.slice true (.ro k) (.lit 0) m, .int .i64 c, .bool (.lit false), .undef, .slice false (.rw 3) (.lit 0) n6, .slice true (.rw 4) (.lit 0) (.slen (.app w0 (.uf 1144 fcatU [.agg (.ro k), .ptr (.rw 0) m]))), .undef] [none, some ⟨2, .of [.int .u64 (.lit 7), .int .u64 (.lit 71)]⟩, some ⟨2, l⟩, some ⟨1, x⟩, some ⟨1, .bytes (.app w0 (.uf 1144 fcatU [.agg (.ro k), .ptr (.rw 0) m]))⟩])
  | _, _ => none⟩
theorem lL0_ok (G : Nat → List AV) (B : Nat) : DLoopOk (⟨Try.prog, G, B⟩ : Ctx) 0 (loopN Try.f5 0) (lL0 G) := by
  refine .of fun vs H o ho nn Q hQ => ?_
  simp only [lL0] at ho
  split at ho
  · rename_i k m c n5 n6 n8 l x w0
    simp only [Option.some.injEq] at ho
    subst ho
    obtain ⟨h1, h2, h3, h4, hh⟩ := hQ
    simp only [vB, vVs, vV, vR, vN, vL, leB_iff] at h1 h2 h3 h4
    have e2 := Nat.eq_of_beq_eq_true h2
    obtain ⟨ps, g1, g2, g3, g4, g5, g6, g7⟩ := okL_eq h1
    refine lone ?_ hh
    simp only [lL0, vVs, vV, vR, vN, vI, vB, vL, vS, vHp, List.map_cons, List.map_nil, Option.map_some, Option.map_none, vBlk, fcatU]
    rw [e2, g3, g7, ← g2, ← g4, List.take_length]
    exact nl5a G B ps (vN G k) (vN G m) (vN G n6) (vI G c) (vL G x) (vS G w0) g1 g4 g5 g6 h4 h3
  · simp at ho
theorem rb5b (G : Nat → List AV) (c1 c2 c3 c4 c6 y8 y9 : List AV) (k m n6 n7 n13 : Nat) (c i a7 : Int) (Q : Ex → List AV → Hp → Prop) (R : AV → Hp → Prop) : vT G Q R (dloop (Dc Try.prog [] progP [] 0) 300 40 0 (loopN Try.f5 1) 193 [0, 1, 4, 6, 13, 15] [.slice true (.ro (.var 6 k)) (.lit 0) (.var 4 m), .int .i64 (.var 7 c), .bool (.lit false), .slice false (.rw 3) (.lit 0) (.var 11 n6), .slice true (.rw 9) (.lit 0) (.var 12 n13), .int .i64 (.var 8 i)] [none, some ⟨2, .var 20 c1⟩, some ⟨2, .var 21 c2⟩, some ⟨1, .var 22 c3⟩, some ⟨1, .var 23 c4⟩, none, some ⟨1, .var 24 c6⟩, some ⟨1, .of [.slice false (.rw 6) (.lit 0) (.var 14 n7), .int .i64 (.var 15 a7)]⟩, some ⟨2, .var 25 y8⟩, some ⟨2, .var 26 y9⟩]) = (
    (decide ((i : Int) < ((m : Nat) : Int)) = true →
      decide ((0 : Int) ≤ i) = true ∧
      decide ((i : Int) < ((n13 : Nat) : Int)) = true ∧
      leB ((Int.toNat (i)) * 2 + 2) (List.length y9) = true ∧
      decide ((0 : Int) ≤ i) = true ∧
      decide ((i : Int) < ((m : Nat) : Int)) = true ∧
      leafsOk (G (k)) ((Int.toNat (i)) * 2) [.int .u64, .int .u64] = true ∧
      isI .u64 (subL y9 ((Int.toNat (i)) * 2) (2)) (0) = true ∧
      isI .u64 (subL y9 ((Int.toNat (i)) * 2) (2)) (1) = true ∧
      (((getI (subL y9 ((Int.toNat (i)) * 2) (2)) (0) : Int) == getI (G (k)) ((Int.toNat (i)) * 2)) = true →
        (((getI (subL y9 ((Int.toNat (i)) * 2) (2)) (1) : Int) == getI (G (k)) ((Int.toNat (i)) * 2 + 1)) = true →
          Q .normal [.slice true (.ro (k)) (0) (m), .int .i64 (c), .bool (false), .slice false (.rw 3) (0) (n6), .slice true (.rw 9) (0) (n13), .int .i64 (IntKind.wrap .i64 (i + 1))] [none, some ⟨2, c1⟩, some ⟨2, c2⟩, some ⟨1, c3⟩, some ⟨1, c4⟩, none, some ⟨1, c6⟩, some ⟨1, ([.slice false (.rw 6) (0) (n7), .int .i64 (a7)] : List AV)⟩, some ⟨2, y8⟩, some ⟨2, y9⟩]) ∧
        (((getI (subL y9 ((Int.toNat (i)) * 2) (2)) (1) : Int) == getI (G (k)) ((Int.toNat (i)) * 2 + 1)) = false →
          Q .ret [.slice true (.ro (k)) (0) (m), .int .i64 (c), .bool (false), .slice false (.rw 3) (0) (n6), .slice true (.rw 9) (0) (n13), .int .i64 (i)] [none, some ⟨2, c1⟩, some ⟨2, c2⟩, some ⟨1, c3⟩, some ⟨1, c4⟩, none, some ⟨1, c6⟩, some ⟨1, ([.slice false (.rw 6) (0) (n7), .int .i64 (a7)] : List AV)⟩, some ⟨2, y8⟩, some ⟨2, y9⟩])) ∧
      (((getI (subL y9 ((Int.toNat (i)) * 2) (2)) (0) : Int) == getI (G (k)) ((Int.toNat (i)) * 2)) = false →
        Q .ret [.slice true (.ro (k)) (0) (m), .int .i64 (c), .bool (false), .slice false (.rw 3) (0) (n6), .slice true (.rw 9) (0) (n13), .int .i64 (i)] [none, some ⟨2, c1⟩, some ⟨2, c2⟩, some ⟨1, c3⟩, some ⟨1, c4⟩, none, some ⟨1, c6⟩, some ⟨1, ([.slice false (.rw 6) (0) (n7), .int .i64 (a7)] : List AV)⟩, some ⟨2, y8⟩, some ⟨2, y9⟩])) ∧
    (decide ((i : Int) < ((m : Nat) : Int)) = false →
      Q (.exit 2) [.slice true (.ro (k)) (0) (m), .int .i64 (c), .bool (false), .slice false (.rw 3) (0) (n6), .slice true (.rw 9) (0) (n13), .int .i64 (i)] [none, some ⟨2, c1⟩, some ⟨2, c2⟩, some ⟨1, c3⟩, some ⟨1, c4⟩, none, some ⟨1, c6⟩, some ⟨1, ([.slice false (.rw 6) (0) (n7), .int .i64 (a7)] : List AV)⟩, some ⟨2, y8⟩, some ⟨2, y9⟩])) := by kernel_rfl
theorem rb5c (G : Nat → List AV) (c1 c2 c3 c4 c6 y8 : List AV) (k m n6 n7 n13 : Nat) (c i a7 : Int) (Q : Ex → List AV → Hp → Prop) (R : AV → Hp → Prop) : vT G Q R (dloop (Dc Try.prog [] progP [] 0) 300 40 0 (loopN Try.f5 1) 193 [0, 1, 4, 6, 13, 15] [.slice true (.ro (.var 6 k)) (.lit 0) (.var 4 m), .int .i64 (.var 7 c), .bool (.lit false), .slice false (.rw 3) (.lit 0) (.var 11 n6), .slice true (.rw 8) (.lit 0) (.var 12 n13), .int .i64 (.var 8 i)] [none, some ⟨2, .var 20 c1⟩, some ⟨2, .var 21 c2⟩, some ⟨1, .var 22 c3⟩, some ⟨1, .var 23 c4⟩, none, some ⟨1, .var 24 c6⟩, some ⟨1, .of [.slice false (.rw 6) (.lit 0) (.var 14 n7), .int .i64 (.var 15 a7)]⟩, some ⟨2, .var 25 y8⟩]) = (
    (decide ((i : Int) < ((m : Nat) : Int)) = true →
      decide ((0 : Int) ≤ i) = true ∧
      decide ((i : Int) < ((n13 : Nat) : Int)) = true ∧
      leB ((Int.toNat (i)) * 2 + 2) (List.length y8) = true ∧
      decide ((0 : Int) ≤ i) = true ∧
      decide ((i : Int) < ((m : Nat) : Int)) = true ∧
      leafsOk (G (k)) ((Int.toNat (i)) * 2) [.int .u64, .int .u64] = true ∧
      isI .u64 (subL y8 ((Int.toNat (i)) * 2) (2)) (0) = true ∧
      isI .u64 (subL y8 ((Int.toNat (i)) * 2) (2)) (1) = true ∧
      (((getI (subL y8 ((Int.toNat (i)) * 2) (2)) (0) : Int) == getI (G (k)) ((Int.toNat (i)) * 2)) = true →
        (((getI (subL y8 ((Int.toNat (i)) * 2) (2)) (1) : Int) == getI (G (k)) ((Int.toNat (i)) * 2 + 1)) = true →
          Q .normal [.slice true (.ro (k)) (0) (m), .int .i64 (c), .bool (false), .slice false (.rw 3) (0) (n6), .slice true (.rw 8) (0) (n13), .int .i64 (IntKind.wrap .i64 (i + 1))] [none, some ⟨2, c1⟩, some ⟨2, c2⟩, some ⟨1, c3⟩, some ⟨1, c4⟩, none, some ⟨1, c6⟩, some ⟨1, ([.slice false (.rw 6) (0) (n7), .int .i64 (a7)] : List AV)⟩, some ⟨2, y8⟩]) ∧
        (((getI (subL y8 ((Int.toNat (i)) * 2) (2)) (1) : Int) == getI (G (k)) ((Int.toNat (i)) * 2 + 1)) = false →
          Q .ret [.slice true (.ro (k)) (0) (m), .int .i64 (c), .bool (false), .slice false (.rw 3) (0) (n6), .slice true (.rw 8) (0) (n13), .int .i64 (i)] [none, some ⟨2, c1⟩, some ⟨2, c2⟩, some ⟨1, c3⟩, some ⟨1, c4⟩, none, some ⟨1, c6⟩, some ⟨1, ([.slice false (.rw 6) (0) (n7), .int .i64 (a7)] : List AV)⟩, some ⟨2, y8⟩])) ∧
      (((getI (subL y8 ((Int.toNat (i)) * 2) (2)) (0) : Int) == getI (G (k)) ((Int.toNat (i)) * 2)) = false →
        Q .ret [.slice true (.ro (k)) (0) (m), .int .i64 (c), .bool (false), .slice false (.rw 3) (0) (n6), .slice true (.rw 8) (0) (n13), .int .i64 (i)] [none, some ⟨2, c1⟩, some ⟨2, c2⟩, some ⟨1, c3⟩, some ⟨1, c4⟩, none, some ⟨1, c6⟩, some ⟨1, ([.slice false (.rw 6) (0) (n7), .int .i64 (a7)] : List AV)⟩, some ⟨2, y8⟩])) ∧
    (decide ((i : Int) < ((m : Nat) : Int)) = false →
      Q (.exit 2) [.slice true (.ro (k)) (0) (m), .int .i64 (c), .bool (false), .slice false (.rw 3) (0) (n6), .slice true (.rw 8) (0) (n13), .int .i64 (i)] [none, some ⟨2, c1⟩, some ⟨2, c2⟩, some ⟨1, c3⟩, some ⟨1, c4⟩, none, some ⟨1, c6⟩, some ⟨1, ([.slice false (.rw 6) (0) (n7), .int .i64 (a7)] : List AV)⟩, some ⟨2, y8⟩])) := by kernel_rfl
theorem nl5b (G : Nat → List AV) (B : Nat) (c1 c2 c3 c4 c6 y8 : List AV) (ps : List Nat) (k m n6 n7 : Nat) (c a7 : Int) (hG : G k = u64L ps) (hl : ps.length = m * 2) (hm : m ≤ 1099511627776) :
    AWp (⟨Try.prog, G, B⟩ : Ctx) 0 (.loop (loopN Try.f5 1)) (fl 193 [0, 1, 4, 6, 13, 15] [.slice true (.ro k) 0 m, .int .i64 c, .bool false, .slice false (.rw 3) 0 n6, .slice true (.rw 9) 0 m, .int .i64 0]) [none, some ⟨2, c1⟩, some ⟨2, c2⟩, some ⟨1, c3⟩, some ⟨1, c4⟩, none, some ⟨1, c6⟩, some ⟨1, [.slice false (.rw 6) 0 n7, .int .i64 a7]⟩, some ⟨2, y8⟩, some ⟨2, u64L ps⟩]
      (lv 193 [0, 1, 4, 6, 13, 15] fun e vs H => e = .exit 2 ∧ wk [.slice true (.ro k) 0 m, .int .i64 c, .bool false, .slice false (.rw 3) 0 n6, .undef, .undef] vs ∧ H = [none, some ⟨2, c1⟩, some ⟨2, c2⟩, some ⟨1, c3⟩, some ⟨1, c4⟩, none, some ⟨1, c6⟩, some ⟨1, [.slice false (.rw 6) 0 n7, .int .i64 a7]⟩, some ⟨2, y8⟩, some ⟨2, u64L ps⟩]) := by
  refine aloop_lv (fun j vs H => ∃ i : Nat, i ≤ m ∧ j = m - i ∧ vs = [.slice true (.ro k) 0 m, .int .i64 c, .bool false, .slice false (.rw 3) 0 n6, .slice true (.rw 9) 0 m, .int .i64 (i : Int)] ∧ H = [none, some ⟨2, c1⟩, some ⟨2, c2⟩, some ⟨1, c3⟩, some ⟨1, c4⟩, none, some ⟨1, c6⟩, some ⟨1, [.slice false (.rw 6) 0 n7, .int .i64 a7]⟩, some ⟨2, y8⟩, some ⟨2, u64L ps⟩]) m ⟨0, by omega, rfl, rfl, rfl⟩ ?_
  rintro j vs H ⟨i, hi, rfl, rfl, rfl⟩
  refine dloop_ok (C := (⟨Try.prog, G, B⟩ : Ctx)) (dgLP G B) (fuel := 300) (n0 := 40) (m := 0) (c := loopN Try.f5 1) (vs := [.slice true (.ro (.var 6 k)) (.lit 0) (.var 4 m), .int .i64 (.var 7 c), .bool (.lit false), .slice false (.rw 3) (.lit 0) (.var 11 n6), .slice true (.rw 9) (.lit 0) (.var 12 m), .int .i64 (.var 8 (i : Int))]) (H := [none, some ⟨2, .var 20 c1⟩, some ⟨2, .var 21 c2⟩, some ⟨1, .var 22 c3⟩, some ⟨1, .var 23 c4⟩, none, some ⟨1, .var 24 c6⟩, some ⟨1, .of [.slice false (.rw 6) (.lit 0) (.var 14 n7), .int .i64 (.var 15 a7)]⟩, some ⟨2, .var 25 y8⟩, some ⟨2, .var 26 (u64L ps)⟩]) (by simp) ?_
  rw [rb5b, Int.toNat_natCast]
  dsimp only
  rw [hG]
  refine ⟨fun h => ?_, fun h => ⟨rfl, by simp [wk], rfl⟩⟩
  have h' := of_decide_eq_true h
  have hi2 : i * 2 + 2 ≤ ps.length := by omega
  obtain ⟨i1, g1⟩ := u64L_get (ps := ps) (j := i * 2) (by omega)
  obtain ⟨i2, g2⟩ := u64L_get (ps := ps) (j := i * 2 + 1) (by omega)
  rw [subL_two hi2, g1, g2]
  generalize ps.getD (i * 2) 0 = a at *
  generalize ps.getD (i * 2 + 1) 0 = b at *
  have ga : getI (u64L [a, b]) 0 = (a : Int) := rfl
  have gb : getI (u64L [a, b]) 1 = (b : Int) := rfl
  have wi : IntKind.wrap .i64 ((i : Int) + 1) = ((i + 1 : Nat) : Int) := by rw [i64_in (by omega)]; omega
  rw [ga, gb, wi]
  have p0 : decide ((0 : Int) ≤ (i : Int)) = true := decide_eq_true (by omega)
  exact ⟨p0, h, leB_iff.2 (by rw [u64L_len]; omega), p0, h, by simp [leafsOk, leafOk, i1, i2], rfl, rfl, fun _ => ⟨fun _ => ⟨m - (i + 1), by omega, .inl ⟨i + 1, by omega, rfl, rfl, rfl⟩⟩, fun z => by simp at z⟩, fun z => by simp at z⟩
theorem nl5c (G : Nat → List AV) (B : Nat) (c1 c2 c3 c4 c6 : List AV) (ps : List Nat) (k m n6 n7 : Nat) (c a7 : Int) (hG : G k = u64L ps) (hl : ps.length = m * 2) (hm : m ≤ 1099511627776) :
    AWp (⟨Try.prog, G, B⟩ : Ctx) 0 (.loop (loopN Try.f5 1)) (fl 193 [0, 1, 4, 6, 13, 15] [.slice true (.ro k) 0 m, .int .i64 c, .bool false, .slice false (.rw 3) 0 n6, .slice true (.rw 8) 0 m, .int .i64 0]) [none, some ⟨2, c1⟩, some ⟨2, c2⟩, some ⟨1, c3⟩, some ⟨1, c4⟩, none, some ⟨1, c6⟩, some ⟨1, [.slice false (.rw 6) 0 n7, .int .i64 a7]⟩, some ⟨2, u64L ps⟩]
      (lv 193 [0, 1, 4, 6, 13, 15] fun e vs H => e = .exit 2 ∧ wk [.slice true (.ro k) 0 m, .int .i64 c, .bool false, .slice false (.rw 3) 0 n6, .undef, .undef] vs ∧ H = [none, some ⟨2, c1⟩, some ⟨2, c2⟩, some ⟨1, c3⟩, some ⟨1, c4⟩, none, some ⟨1, c6⟩, some ⟨1, [.slice false (.rw 6) 0 n7, .int .i64 a7]⟩, some ⟨2, u64L ps⟩]) := by
  refine aloop_lv (fun j vs H => ∃ i : Nat, i ≤ m ∧ j = m - i ∧ vs = [.slice true (.ro k) 0 m, .int .i64 c, .bool false, .slice false (.rw 3) 0 n6, .slice true (.rw 8) 0 m, .int .i64 (i : Int)] ∧ H = [none, some ⟨2, c1⟩, some ⟨2, c2⟩, some ⟨1, c3⟩, some ⟨1, c4⟩, none, some ⟨1, c6⟩, some ⟨1, [.slice false (.rw 6) 0 n7, .int .i64 a7]⟩, some ⟨2, u64L ps⟩]) m ⟨0, by omega, rfl, rfl, rfl⟩ ?_
  rintro j vs H ⟨i, hi, rfl, rfl, rfl⟩
  refine dloop_ok (C := (⟨Try.prog, G, B⟩ : Ctx)) (dgLP G B) (fuel := 300) (n0 := 40) (m := 0) (c := loopN Try.f5 1) (vs := [.slice true (.ro (.var 6 k)) (.lit 0) (.var 4 m), .int .i64 (.var 7 c), .bool (.lit false), .slice false (.rw 3) (.lit 0) (.var 11 n6), .slice true (.rw 8) (.lit 0) (.var 12 m), .int .i64 (.var 8 (i : Int))]) (H := [none, some ⟨2, .var 20 c1⟩, some ⟨2, .var 21 c2⟩, some ⟨1, .var 22 c3⟩, some ⟨1, .var 23 c4⟩, none, some ⟨1, .var 24 c6⟩, some ⟨1, .of [.slice false (.rw 6) (.lit 0) (.var 14 n7), .int .i64 (.var 15 a7)]⟩, some ⟨2, .var 25 (u64L ps)⟩]) (by simp) ?_
  rw [rb5c, Int.toNat_natCast]
  dsimp only
  rw [hG]
  refine ⟨fun h => ?_, fun h => ⟨rfl, by simp [wk], rfl⟩⟩
  have h' := of_decide_eq_true h
  have hi2 : i * 2 + 2 ≤ ps.length := by omega
  obtain ⟨i1, g1⟩ := u64L_get (ps := ps) (j := i * 2) (by omega)
  obtain ⟨i2, g2⟩ := u64L_get (ps := ps) (j := i * 2 + 1) (by omega)
  rw [subL_two hi2, g1, g2]
  generalize ps.getD (i * 2) 0 = a at *
  generalize ps.getD (i * 2 + 1) 0 = b at *
  have ga : getI (u64L [a, b]) 0 = (a : Int) := rfl
  have gb : getI (u64L [a, b]) 1 = (b : Int) := rfl
  have wi : IntKind.wrap .i64 ((i : Int) + 1) = ((i + 1 : Nat) : Int) := by rw [i64_in (by omega)]; omega
  rw [ga, gb, wi]
  have p0 : decide ((0 : Int) ≤ (i : Int)) = true := decide_eq_true (by omega)
  exact ⟨p0, h, leB_iff.2 (by rw [u64L_len]; omega), p0, h, by simp [leafsOk, leafOk, i1, i2], rfl, rfl, fun _ => ⟨fun _ => ⟨m - (i + 1), by omega, .inl ⟨i + 1, by omega, rfl, rfl, rfl⟩⟩, fun z => by simp at z⟩, fun z => by simp at z⟩
def okBU (G : Nat → List AV) (xs : List AV) : Bool := match xs with
  | [.agg l, .ptr _ n, .ptr (.ro k) m] => samCs l (G k) && ((G k).all u64c && (Nat.beq (G k).length (m * 2) && (leB m 1099511627776 && Nat.beq n m)))
  | _ => false
theorem okB_eq {G : Nat → List AV} {l : List AV} {r : Ref} {n k m : Nat} (h : okBU G [.agg l, .ptr r n, .ptr (.ro k) m] = true) : ∃ ps, G k = u64L ps ∧ l = u64L ps ∧ ps.length = m * 2 ∧ m ≤ 1099511627776 ∧ n = m := by
  simp only [okBU, Bool.and_eq_true, leB_iff] at h
  obtain ⟨h1, h2, h3, h4, h5⟩ := h
  obtain ⟨g1, g2⟩ := cells_u64 h2
  have h3 := Nat.eq_of_beq_eq_true h3
  exact ⟨(G k).map cellN, g1, by rw [samCs_eq h1]; exact g1, by simpa using h3, h4, Nat.eq_of_beq_eq_true h5⟩
def lL2 (G : Nat → List AV) : DL := ⟨2, 193, [0, 1, 4, 6, 13, 15], fun vs H => match vs, H with
  | [.slice true (.ro k) (.lit 0) m, .int .i64 c, .bool (.lit false), .slice false (.rw 3) (.lit 0) n6, .slice true (.rw 9) (.lit 0) n13, .int .i64 (.lit 0)], [none, some ⟨2, c1⟩, some ⟨2, c2⟩, some ⟨1, c3⟩, some ⟨1, c4⟩, none, some ⟨1, c6⟩, some ⟨1, .of [.slice false (.rw 6) (.lit 0) n7, .int .i64 a7]⟩, some ⟨2, y8⟩, some ⟨2, y9⟩] =>
    some (.chk (.uf 1152 (okBU G) [.agg y9, .ptr (.rw 0) n13, .ptr (.ro k) m]) <| .one (.exit 2) [.slice true (.ro k) (.lit 0) m, .int .i64 c, .bool (.lit false), .slice false (.rw 3) (.lit 0) n6, .undef, .undef] [none, some ⟨2, c1⟩, some ⟨2, c2⟩, some ⟨1, c3⟩, some ⟨1, c4⟩, none, some ⟨1, c6⟩, some ⟨1, .of [.slice false (.rw 6) (.lit 0) n7, .int .i64 a7]⟩, some ⟨2, y8⟩, some ⟨2, y9⟩])
  | [.slice true (.ro k) (.lit 0) m, .int .i64 c, .bool (.lit false), .slice false (.rw 3) (.lit 0) n6, .slice true (.rw 8) (.lit 0) n13, .int .i64 (.lit 0)], [none, some ⟨2, c1⟩, some ⟨2, c2⟩, some ⟨1, c3⟩, some ⟨1, c4⟩, none, some ⟨1, c6⟩, some ⟨1, .of [.slice false (.rw 6) (.lit 0) n7, .int .i64 a7]⟩, some ⟨2, y8⟩] =>
    some (.chk (.uf 1152 (okBU G) [.agg y8, .ptr (.rw 0) n13, .ptr (.ro k) m]) <| .one (.exit 2) [.slice true (.ro k) (.lit 0) m, .int .i64 c, .bool (.lit false), .slice false (.rw 3) (.lit 0) n6, .undef, .undef] [none, some ⟨2, c1⟩, some ⟨2, c2⟩, some ⟨1, c3⟩, some ⟨1, c4⟩, none, some ⟨1, c6⟩, some ⟨1, .of [.slice false (.rw 6) (.lit 0) n7, .int .i64 a7]⟩, some ⟨2, y8⟩])
  | _, _ => none⟩
theorem lL2_ok (G : Nat → List AV) (B : Nat) : DLoopOk (⟨Try.prog, G, B⟩ : Ctx) 0 (loopN Try.f5 1) (lL2 G) := by
  refine .of fun vs H o ho nn Q hQ => ?_
  simp only [lL2] at ho
  split at ho
  · rename_i k m c n6 n13 c1 c2 c3 c4 c6 n7 a7 y8 y9
    simp only [Option.some.injEq] at ho
    subst ho
    obtain ⟨h1, hh⟩ := hQ
    simp only [vB, vVs, vV, vR, vN] at h1
    obtain ⟨ps, g1, g3, g4, g6, g7⟩ := okB_eq h1
    refine lone ?_ hh
    simp only [lL2, vVs, vV, vR, vN, vI, vB, vL, vHp, List.map_cons, List.map_nil, Option.map_some, Option.map_none, vBlk]
    rw [g3, g7]
    exact nl5b G B _ _ _ _ _ _ ps (vN G k) (vN G m) (vN G n6) (vN G n7) (vI G c) (vI G a7) g1 g4 g6
  · rename_i k m c n6 n13 c1 c2 c3 c4 c6 n7 a7 y8
    simp only [Option.some.injEq] at ho
    subst ho
    obtain ⟨h1, hh⟩ := hQ
    simp only [vB, vVs, vV, vR, vN] at h1
    obtain ⟨ps, g1, g3, g4, g6, g7⟩ := okB_eq h1
    refine lone ?_ hh
    simp only [lL2, vVs, vV, vR, vN, vI, vB, vL, vHp, List.map_cons, List.map_nil, Option.map_some, Option.map_none, vBlk]
    rw [g3, g7]
    exact nl5c G B _ _ _ _ _ ps (vN G k) (vN G m) (vN G n6) (vN G n7) (vI G c) (vI G a7) g1 g4 g6
  · simp at ho
theorem dgLL (G : Nat → List AV) (B : Nat) : DGood (⟨Try.prog, G, B⟩ : Ctx) (Dc Try.prog [19, 24, 26, 38] progP [lL0 G, lL2 G] 0) (loopsOf (bodyOf Try.f5)) := dgood (mix G B) (by kernel_rfl) (progP_ok G B) (.cast (.cons (i := 0) (by kernel_rfl) rfl (lL0_ok G B) (.cons (i := 2) (by kernel_rfl) rfl (lL2_ok G B) .nil)) (by kernel_rfl))
theorem ll_run (G : Nat → List AV) (k m : Nat) (c : Int) (Q : Ex → List AV → Hp → Prop) (R : AV → Hp → Prop) : vT G Q R (dlaw (Dc Try.prog [19, 24, 26, 38] progP [lL0 G, lL2 G] 0) 600 40 Try.f5 [.slice true (.ro (.var 6 k)) (.lit 0) (.var 4 m), .int .i64 (.var 7 c)] []) = (
    leB ((m) * 2) (List.length (G (k))) = true ∧
    cellsB (subL (G (k)) (0) ((m) * 2)) = true ∧
    leB ((m) * 16) (140737488355328) = true ∧
    leB ((m + 1) * 16) (140737488355328) = true ∧
    Nat.beq (List.length (subL (G (k)) (0) ((m) * 2))) ((m) * 2) = true ∧
    decide ((0 : Int) ≤ ((m : Nat) : Int)) = true ∧
    decide ((((m : Nat) : Int) : Int) ≤ ((m + 1 : Nat) : Int)) = true ∧
    okPU [.agg ((subL (G (k)) (0) ((m) * 2)) ++ ([.int .u64 (7), .int .u64 (71)] : List AV)), .ptr (.rw 0) (m)] = true ∧
    leB (m) (1099511627776) = true ∧
    (∀ l40 : List AV, l40 = (bytesL ((nformU [.int .u64 (((m : Nat) : Int))]) ++ (fcatU [.agg ((subL (G (k)) (0) ((m) * 2)) ++ ([.int .u64 (7), .int .u64 (71)] : List AV)), .ptr (.rw 0) (m)]))) →
    decide ((0 : Int) ≤ IntKind.wrap .i64 (((m : Nat) : Int) + 1)) = true ∧
    decide ((IntKind.wrap .i64 (((m : Nat) : Int) + 1) : Int) ≤ ((m + 1 : Nat) : Int)) = true ∧
    decide ((0 : Int) ≤ ((m : Nat) : Int)) = true ∧
    decide ((((m : Nat) : Int) : Int) < ((Int.toNat (IntKind.wrap .i64 (((m : Nat) : Int) + 1)) : Nat) : Int)) = true ∧
    leB ((m) * 2 + 2) (List.length ((subL (G (k)) (0) ((m) * 2)) ++ ([.int .u64 (7), .int .u64 (71)] : List AV))) = true ∧
    isI .u64 (subL ((subL (G (k)) (0) ((m) * 2)) ++ ([.int .u64 (7), .int .u64 (71)] : List AV)) ((m) * 2) (2)) (0) = true ∧
    isI .u64 (subL ((subL (G (k)) (0) ((m) * 2)) ++ ([.int .u64 (7), .int .u64 (71)] : List AV)) ((m) * 2) (2)) (1) = true ∧
    (((getI (subL ((subL (G (k)) (0) ((m) * 2)) ++ ([.int .u64 (7), .int .u64 (71)] : List AV)) ((m) * 2) (2)) (0) : Int) == 7) = true →
      (((getI (subL ((subL (G (k)) (0) ((m) * 2)) ++ ([.int .u64 (7), .int .u64 (71)] : List AV)) ((m) * 2) (2)) (1) : Int) == 71) = true →
        inU64 [.int .u64 (IntKind.wrap .u64 (((m : Nat) : Int)))] = true ∧
        (okLU G) [.agg ((subL (G (k)) (0) ((m) * 2)) ++ ([.int .u64 (7), .int .u64 (71)] : List AV)), .ptr (.rw 0) (m + 1), .ptr (.ro (k)) (m)] = true ∧
        Nat.beq (List.length (nformU [.int .u64 (IntKind.wrap .u64 (((m : Nat) : Int)))])) (List.length (nformU [.int .u64 (IntKind.wrap .u64 (((m : Nat) : Int)))])) = true ∧
        leB (List.length (nformU [.int .u64 (IntKind.wrap .u64 (((m : Nat) : Int)))])) (10) = true ∧
        u8s l40 = true ∧
        decide ((0 : Int) ≤ IntKind.wrap .i64 (((List.length l40 : Nat) : Int) + 1)) = true ∧
        decide ((bigF 1 [.int .i64 (IntKind.wrap .i64 (((List.length l40 : Nat) : Int) + 1))] : Int) ≤ 140737488355328) = true ∧
        decide ((IntKind.wrap .i64 (((List.length l40 : Nat) : Int) + 1) : Int) ≤ 140737488355328) = true ∧
        leB (List.length l40) (List.length l40) = true ∧
        cellsB (subL l40 (0) (List.length l40)) = true ∧
        leB (List.length l40) (140737488355328) = true ∧
        leB (List.length l40) (List.length l40) = true ∧
        u8s (subL l40 (0) (List.length l40)) = true ∧
        leB (List.length ((nformU [.int .u64 (IntKind.wrap .u64 (((m : Nat) : Int)))]) ++ (fcatU [.agg (G (k)), .ptr (.rw 0) (m)]))) (List.length ((nformU [.int .u64 (IntKind.wrap .u64 (((m : Nat) : Int)))]) ++ (fcatU [.agg (G (k)), .ptr (.rw 0) (m)]))) = true ∧
        u8s (subL (bytesL ((nformU [.int .u64 (IntKind.wrap .u64 (((m : Nat) : Int)))]) ++ (fcatU [.agg (G (k)), .ptr (.rw 0) (m)]))) (0) (List.length ((nformU [.int .u64 (IntKind.wrap .u64 (((m : Nat) : Int)))]) ++ (fcatU [.agg (G (k)), .ptr (.rw 0) (m)])))) = true ∧
        ((((strL (subL l40 (0) (List.length l40))) : List UInt8) == (strL (subL (bytesL ((nformU [.int .u64 (IntKind.wrap .u64 (((m : Nat) : Int)))]) ++ (fcatU [.agg (G (k)), .ptr (.rw 0) (m)]))) (0) (List.length ((nformU [.int .u64 (IntKind.wrap .u64 (((m : Nat) : Int)))]) ++ (fcatU [.agg (G (k)), .ptr (.rw 0) (m)])))))) = true →
          (decide ((((m : Nat) : Int) : Int) > 0) = true →
            okRdU [.agg (subL l40 (0) (List.length l40)), .ptr (.rw 0) (List.length l40), .int .i64 (0)] = true ∧
            leB (List.length l40) (1099511627776) = true ∧
            decide ((0 : Int) ≤ IntKind.wrap .i64 (((m : Nat) : Int) - 1)) = true ∧
            decide ((IntKind.wrap .i64 (((m : Nat) : Int) - 1) : Int) ≤ 4611686018427387903) = true ∧
            (((((rpNU [.agg (subL l40 (0) (List.length l40)), .ptr (.rw 0) (List.length l40), .int .i64 (0), .int .i64 (IntKind.wrap .i64 (((m : Nat) : Int) - 1))] : Nat) : Int) : Int) == 0) = true →
              (((rpEU [.agg (subL l40 (0) (List.length l40)), .ptr (.rw 0) (List.length l40), .int .i64 (0), .int .i64 (IntKind.wrap .i64 (((m : Nat) : Int) - 1))] : Int) == 3) = true →
                (((IntKind.wrap .i64 (((List.length l40 : Nat) : Int) - rpAU [.agg (subL l40 (0) (List.length l40)), .ptr (.rw 0) (List.length l40), .int .i64 (0), .int .i64 (IntKind.wrap .i64 (((m : Nat) : Int) - 1))]) : Int) == ((List.length l40 : Nat) : Int)) = true →
                  okRdU [.agg (subL l40 (0) (List.length l40)), .ptr (.rw 0) (List.length l40), .int .i64 (rpAU [.agg (subL l40 (0) (List.length l40)), .ptr (.rw 0) (List.length l40), .int .i64 (0), .int .i64 (IntKind.wrap .i64 (((m : Nat) : Int) - 1))])] = true ∧
                  leB (List.length l40) (1099511627776) = true ∧
                  decide ((0 : Int) ≤ ((m : Nat) : Int)) = true ∧
                  decide ((((m : Nat) : Int) : Int) ≤ 4611686018427387903) = true ∧
                  (((rpEU [.agg (subL l40 (0) (List.length l40)), .ptr (.rw 0) (List.length l40), .int .i64 (rpAU [.agg (subL l40 (0) (List.length l40)), .ptr (.rw 0) (List.length l40), .int .i64 (0), .int .i64 (IntKind.wrap .i64 (((m : Nat) : Int) - 1))]), .int .i64 (((m : Nat) : Int))] : Int) == 0) = true →
                    (((((rpNU [.agg (subL l40 (0) (List.length l40)), .ptr (.rw 0) (List.length l40), .int .i64 (rpAU [.agg (subL l40 (0) (List.length l40)), .ptr (.rw 0) (List.length l40), .int .i64 (0), .int .i64 (IntKind.wrap .i64 (((m : Nat) : Int) - 1))]), .int .i64 (((m : Nat) : Int))] : Nat) : Int) : Int) == ((m : Nat) : Int)) = true →
                      (((IntKind.wrap .i64 (((List.length l40 : Nat) : Int) - rpAU [.agg (subL l40 (0) (List.length l40)), .ptr (.rw 0) (List.length l40), .int .i64 (rpAU [.agg (subL l40 (0) (List.length l40)), .ptr (.rw 0) (List.length l40), .int .i64 (0), .int .i64 (IntKind.wrap .i64 (((m : Nat) : Int) - 1))]), .int .i64 (((m : Nat) : Int))]) : Int) == 0) = true →
                        (okBU G) [.agg (rpLU [.agg (subL l40 (0) (List.length l40)), .ptr (.rw 0) (List.length l40), .int .i64 (rpAU [.agg (subL l40 (0) (List.length l40)), .ptr (.rw 0) (List.length l40), .int .i64 (0), .int .i64 (IntKind.wrap .i64 (((m : Nat) : Int) - 1))]), .int .i64 (((m : Nat) : Int))]), .ptr (.rw 0) (rpNU [.agg (subL l40 (0) (List.length l40)), .ptr (.rw 0) (List.length l40), .int .i64 (rpAU [.agg (subL l40 (0) (List.length l40)), .ptr (.rw 0) (List.length l40), .int .i64 (0), .int .i64 (IntKind.wrap .i64 (((m : Nat) : Int) - 1))]), .int .i64 (((m : Nat) : Int))]), .ptr (.ro (k)) (m)] = true ∧
                        (decide ((c : Int) < 0) = true →
                          R (.bool (true)) []) ∧
                        (decide ((c : Int) < 0) = false →
                          (decide ((c : Int) ≥ ((List.length l40 : Nat) : Int)) = true →
                            R (.bool (true)) []) ∧
                          (decide ((c : Int) ≥ ((List.length l40 : Nat) : Int)) = false →
                            decide ((0 : Int) ≤ c) = true ∧
                            decide ((c : Int) ≤ ((List.length l40 : Nat) : Int)) = true ∧
                            decide ((0 : Int) ≤ IntKind.wrap .i64 (((Int.toNat (c) : Nat) : Int) + 1)) = true ∧
                            decide ((bigF 1 [.int .i64 (IntKind.wrap .i64 (((Int.toNat (c) : Nat) : Int) + 1))] : Int) ≤ 140737488355328) = true ∧
                            decide ((IntKind.wrap .i64 (((Int.toNat (c) : Nat) : Int) + 1) : Int) ≤ 140737488355328) = true ∧
                            leB (Int.toNat (c)) (List.length l40) = true ∧
                            cellsB (subL l40 (0) (Int.toNat (c))) = true ∧
                            leB (Int.toNat (c)) (140737488355328) = true ∧
                            okRdU [.agg (subL l40 (0) (Int.toNat (c))), .ptr (.rw 0) (Int.toNat (c)), .int .i64 (0)] = true ∧
                            leB (Int.toNat (c)) (1099511627776) = true ∧
                            decide ((0 : Int) ≤ ((m : Nat) : Int)) = true ∧
                            decide ((((m : Nat) : Int) : Int) ≤ 4611686018427387903) = true ∧
                            (((((rpNU [.agg (subL l40 (0) (Int.toNat (c))), .ptr (.rw 0) (Int.toNat (c)), .int .i64 (0), .int .i64 (((m : Nat) : Int))] : Nat) : Int) : Int) == 0) = true →
                              (((rpEU [.agg (subL l40 (0) (Int.toNat (c))), .ptr (.rw 0) (Int.toNat (c)), .int .i64 (0), .int .i64 (((m : Nat) : Int))] : Int) == 4) = true →
                                (((IntKind.wrap .i64 (((Int.toNat (c) : Nat) : Int) - rpAU [.agg (subL l40 (0) (Int.toNat (c))), .ptr (.rw 0) (Int.toNat (c)), .int .i64 (0), .int .i64 (((m : Nat) : Int))]) : Int) == c) = true →
                                  R (.bool (true)) []) ∧
                                (((IntKind.wrap .i64 (((Int.toNat (c) : Nat) : Int) - rpAU [.agg (subL l40 (0) (Int.toNat (c))), .ptr (.rw 0) (Int.toNat (c)), .int .i64 (0), .int .i64 (((m : Nat) : Int))]) : Int) == c) = false →
                                  R (.bool (false)) [])) ∧
                              (((rpEU [.agg (subL l40 (0) (Int.toNat (c))), .ptr (.rw 0) (Int.toNat (c)), .int .i64 (0), .int .i64 (((m : Nat) : Int))] : Int) == 4) = false →
                                R (.bool (false)) [])) ∧
                            (((((rpNU [.agg (subL l40 (0) (Int.toNat (c))), .ptr (.rw 0) (Int.toNat (c)), .int .i64 (0), .int .i64 (((m : Nat) : Int))] : Nat) : Int) : Int) == 0) = false →
                              R (.bool (false)) [])))) ∧
                      (((IntKind.wrap .i64 (((List.length l40 : Nat) : Int) - rpAU [.agg (subL l40 (0) (List.length l40)), .ptr (.rw 0) (List.length l40), .int .i64 (rpAU [.agg (subL l40 (0) (List.length l40)), .ptr (.rw 0) (List.length l40), .int .i64 (0), .int .i64 (IntKind.wrap .i64 (((m : Nat) : Int) - 1))]), .int .i64 (((m : Nat) : Int))]) : Int) == 0) = false →
                        R (.bool (false)) [])) ∧
                    (((((rpNU [.agg (subL l40 (0) (List.length l40)), .ptr (.rw 0) (List.length l40), .int .i64 (rpAU [.agg (subL l40 (0) (List.length l40)), .ptr (.rw 0) (List.length l40), .int .i64 (0), .int .i64 (IntKind.wrap .i64 (((m : Nat) : Int) - 1))]), .int .i64 (((m : Nat) : Int))] : Nat) : Int) : Int) == ((m : Nat) : Int)) = false →
                      R (.bool (false)) [])) ∧
                  (((rpEU [.agg (subL l40 (0) (List.length l40)), .ptr (.rw 0) (List.length l40), .int .i64 (rpAU [.agg (subL l40 (0) (List.length l40)), .ptr (.rw 0) (List.length l40), .int .i64 (0), .int .i64 (IntKind.wrap .i64 (((m : Nat) : Int) - 1))]), .int .i64 (((m : Nat) : Int))] : Int) == 0) = false →
                    R (.bool (false)) [])) ∧
                (((IntKind.wrap .i64 (((List.length l40 : Nat) : Int) - rpAU [.agg (subL l40 (0) (List.length l40)), .ptr (.rw 0) (List.length l40), .int .i64 (0), .int .i64 (IntKind.wrap .i64 (((m : Nat) : Int) - 1))]) : Int) == ((List.length l40 : Nat) : Int)) = false →
                  R (.bool (false)) [])) ∧
              (((rpEU [.agg (subL l40 (0) (List.length l40)), .ptr (.rw 0) (List.length l40), .int .i64 (0), .int .i64 (IntKind.wrap .i64 (((m : Nat) : Int) - 1))] : Int) == 3) = false →
                R (.bool (false)) [])) ∧
            (((((rpNU [.agg (subL l40 (0) (List.length l40)), .ptr (.rw 0) (List.length l40), .int .i64 (0), .int .i64 (IntKind.wrap .i64 (((m : Nat) : Int) - 1))] : Nat) : Int) : Int) == 0) = false →
              R (.bool (false)) [])) ∧
          (decide ((((m : Nat) : Int) : Int) > 0) = false →
            okRdU [.agg (subL l40 (0) (List.length l40)), .ptr (.rw 0) (List.length l40), .int .i64 (0)] = true ∧
            leB (List.length l40) (1099511627776) = true ∧
            decide ((0 : Int) ≤ ((m : Nat) : Int)) = true ∧
            decide ((((m : Nat) : Int) : Int) ≤ 4611686018427387903) = true ∧
            (((rpEU [.agg (subL l40 (0) (List.length l40)), .ptr (.rw 0) (List.length l40), .int .i64 (0), .int .i64 (((m : Nat) : Int))] : Int) == 0) = true →
              (((((rpNU [.agg (subL l40 (0) (List.length l40)), .ptr (.rw 0) (List.length l40), .int .i64 (0), .int .i64 (((m : Nat) : Int))] : Nat) : Int) : Int) == ((m : Nat) : Int)) = true →
                (((IntKind.wrap .i64 (((List.length l40 : Nat) : Int) - rpAU [.agg (subL l40 (0) (List.length l40)), .ptr (.rw 0) (List.length l40), .int .i64 (0), .int .i64 (((m : Nat) : Int))]) : Int) == 0) = true →
                  (okBU G) [.agg (rpLU [.agg (subL l40 (0) (List.length l40)), .ptr (.rw 0) (List.length l40), .int .i64 (0), .int .i64 (((m : Nat) : Int))]), .ptr (.rw 0) (rpNU [.agg (subL l40 (0) (List.length l40)), .ptr (.rw 0) (List.length l40), .int .i64 (0), .int .i64 (((m : Nat) : Int))]), .ptr (.ro (k)) (m)] = true ∧
                  (decide ((c : Int) < 0) = true →
                    R (.bool (true)) []) ∧
                  (decide ((c : Int) < 0) = false →
                    (decide ((c : Int) ≥ ((List.length l40 : Nat) : Int)) = true →
                      R (.bool (true)) []) ∧
                    (decide ((c : Int) ≥ ((List.length l40 : Nat) : Int)) = false →
                      decide ((0 : Int) ≤ c) = true ∧
                      decide ((c : Int) ≤ ((List.length l40 : Nat) : Int)) = true ∧
                      decide ((0 : Int) ≤ IntKind.wrap .i64 (((Int.toNat (c) : Nat) : Int) + 1)) = true ∧
                      decide ((bigF 1 [.int .i64 (IntKind.wrap .i64 (((Int.toNat (c) : Nat) : Int) + 1))] : Int) ≤ 140737488355328) = true ∧
                      decide ((IntKind.wrap .i64 (((Int.toNat (c) : Nat) : Int) + 1) : Int) ≤ 140737488355328) = true ∧
                      leB (Int.toNat (c)) (List.length l40) = true ∧
                      cellsB (subL l40 (0) (Int.toNat (c))) = true ∧
                      leB (Int.toNat (c)) (140737488355328) = true ∧
                      okRdU [.agg (subL l40 (0) (Int.toNat (c))), .ptr (.rw 0) (Int.toNat (c)), .int .i64 (0)] = true ∧
                      leB (Int.toNat (c)) (1099511627776) = true ∧
                      decide ((0 : Int) ≤ ((m : Nat) : Int)) = true ∧
                      decide ((((m : Nat) : Int) : Int) ≤ 4611686018427387903) = true ∧
                      (((((rpNU [.agg (subL l40 (0) (Int.toNat (c))), .ptr (.rw 0) (Int.toNat (c)), .int .i64 (0), .int .i64 (((m : Nat) : Int))] : Nat) : Int) : Int) == 0) = true →
                        (((rpEU [.agg (subL l40 (0) (Int.toNat (c))), .ptr (.rw 0) (Int.toNat (c)), .int .i64 (0), .int .i64 (((m : Nat) : Int))] : Int) == 4) = true →
                          (((IntKind.wrap .i64 (((Int.toNat (c) : Nat) : Int) - rpAU [.agg (subL l40 (0) (Int.toNat (c))), .ptr (.rw 0) (Int.toNat (c)), .int .i64 (0), .int .i64 (((m : Nat) : Int))]) : Int) == c) = true →
                            R (.bool (true)) []) ∧
                          (((IntKind.wrap .i64 (((Int.toNat (c) : Nat) : Int) - rpAU [.agg (subL l40 (0) (Int.toNat (c))), .ptr (.rw 0) (Int.toNat (c)), .int .i64 (0), .int .i64 (((m : Nat) : Int))]) : Int) == c) = false →
                            R (.bool (false)) [])) ∧
                        (((rpEU [.agg (subL l40 (0) (Int.toNat (c))), .ptr (.rw 0) (Int.toNat (c)), .int .i64 (0), .int .i64 (((m : Nat) : Int))] : Int) == 4) = false →
                          R (.bool (false)) [])) ∧
                      (((((rpNU [.agg (subL l40 (0) (Int.toNat (c))), .ptr (.rw 0) (Int.toNat (c)), .int .i64 (0), .int .i64 (((m : Nat) : Int))] : Nat) : Int) : Int) == 0) = false →
                        R (.bool (false)) [])))) ∧
                (((IntKind.wrap .i64 (((List.length l40 : Nat) : Int) - rpAU [.agg (subL l40 (0) (List.length l40)), .ptr (.rw 0) (List.length l40), .int .i64 (0), .int .i64 (((m : Nat) : Int))]) : Int) == 0) = false →
                  R (.bool (false)) [])) ∧
              (((((rpNU [.agg (subL l40 (0) (List.length l40)), .ptr (.rw 0) (List.length l40), .int .i64 (0), .int .i64 (((m : Nat) : Int))] : Nat) : Int) : Int) == ((m : Nat) : Int)) = false →
                R (.bool (false)) [])) ∧
            (((rpEU [.agg (subL l40 (0) (List.length l40)), .ptr (.rw 0) (List.length l40), .int .i64 (0), .int .i64 (((m : Nat) : Int))] : Int) == 0) = false →
              R (.bool (false)) []))) ∧
        ((((strL (subL l40 (0) (List.length l40))) : List UInt8) == (strL (subL (bytesL ((nformU [.int .u64 (IntKind.wrap .u64 (((m : Nat) : Int)))]) ++ (fcatU [.agg (G (k)), .ptr (.rw 0) (m)]))) (0) (List.length ((nformU [.int .u64 (IntKind.wrap .u64 (((m : Nat) : Int)))]) ++ (fcatU [.agg (G (k)), .ptr (.rw 0) (m)])))))) = false →
          R (.bool (false)) [])) ∧
      (((getI (subL ((subL (G (k)) (0) ((m) * 2)) ++ ([.int .u64 (7), .int .u64 (71)] : List AV)) ((m) * 2) (2)) (1) : Int) == 71) = false →
        R (.bool (false)) [])) ∧
    (((getI (subL ((subL (G (k)) (0) ((m) * 2)) ++ ([.int .u64 (7), .int .u64 (71)] : List AV)) ((m) * 2) (2)) (0) : Int) == 7) = false →
      R (.bool (false)) []))) := by kernel_rfl
end Go.Am
