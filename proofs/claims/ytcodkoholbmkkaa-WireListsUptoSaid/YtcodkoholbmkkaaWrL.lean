/-
  WireLists: pairs are written and read.
-/
import Derived.Test.YtcodkoholbmkkaaWrE
import Derived.Test.YtcodkoholbmkkaaWrP
namespace Go.Am
open Go.Proofs
set_option maxRecDepth 100000
def progL : List (Nat × DSum) := [(9, numS false), (12, numS true), (20, readS), (18, trueW)]
theorem progL_ok (G : Nat → List AV) (B : Nat) : DSumsOk (⟨Try.prog, G, B⟩ : Ctx) progL := .cons (numS_ok (num9 G B)) (.cons (numS_ok (num12 G B)) (.cons (readS_ok G B) (.cons (trueW_ok fun G B => known_call G B) .nil)))
theorem dgL1 (G : Nat → List AV) (B : Nat) : DGood (⟨Try.prog, G, B⟩ : Ctx) (Dc Try.prog [28] progL [] 1) [] := dgood (mix G B) (by kernel_rfl) (progL_ok G B) .nil
theorem dgL2 (G : Nat → List AV) (B : Nat) : DGood (⟨Try.prog, G, B⟩ : Ctx) (Dc Try.prog [30] progL [] 2) [] := dgood (mix G B) (by kernel_rfl) (progL_ok G B) .nil
theorem rb27 (G : Nat → List AV) (l s : List AV) (n len : Nat) (mm i : Int) (Q : Ex → List AV → Hp → Prop) (R : AV → Hp → Prop) : vT G Q R (dloop (Dc Try.prog [28] progL [] 1) 300 30 1 (loopN Try.f27 0) 28 [1, 6, 15, 16, 17] [.func 28 [], .slice false (.rw 1) (.lit 0) (.var 1 len), .slice true (.rw 0) (.lit 0) (.var 2 n), .int .i64 (.var 3 mm), .int .i64 (.var 4 i)] [some ⟨2, .var 5 l⟩, some ⟨1, .var 6 s⟩]) = (
    (decide ((i : Int) < mm) = true →
      decide ((0 : Int) ≤ i) = true ∧
      decide ((i : Int) < ((n : Nat) : Int)) = true ∧
      leB ((Int.toNat (i)) * 2 + 2) (List.length l) = true ∧
      cellsB (subL l ((Int.toNat (i)) * 2) (2)) = true ∧
      Nat.beq (List.length (subL l ((Int.toNat (i)) * 2) (2))) (2) = true ∧
      leB (2) (List.length (subL l ((Int.toNat (i)) * 2) (2))) = true ∧
      isI .u64 (subL (subL l ((Int.toNat (i)) * 2) (2)) (0) (2)) (0) = true ∧
      inU64 [.int .u64 (getI (subL (subL l ((Int.toNat (i)) * 2) (2)) (0) (2)) (0))] = true ∧
      isI .u64 (subL (subL l ((Int.toNat (i)) * 2) (2)) (0) (2)) (1) = true ∧
      inU64 [.int .u64 (getI (subL (subL l ((Int.toNat (i)) * 2) (2)) (0) (2)) (1))] = true ∧
      leB (List.length (nformU [.int .u64 (getI (subL (subL l ((Int.toNat (i)) * 2) (2)) (0) (2)) (1))])) (List.length (nformU [.int .u64 (getI (subL (subL l ((Int.toNat (i)) * 2) (2)) (0) (2)) (1))])) = true ∧
      cellsB (subL (bytesL (nformU [.int .u64 (getI (subL (subL l ((Int.toNat (i)) * 2) (2)) (0) (2)) (1))])) (0) (List.length (nformU [.int .u64 (getI (subL (subL l ((Int.toNat (i)) * 2) (2)) (0) (2)) (1))]))) = true ∧
      leB (List.length (nformU [.int .u64 (getI (subL (subL l ((Int.toNat (i)) * 2) (2)) (0) (2)) (0))]) + List.length (nformU [.int .u64 (getI (subL (subL l ((Int.toNat (i)) * 2) (2)) (0) (2)) (1))])) (140737488355328) = true ∧
      Nat.beq (List.length (nformU [.int .u64 (getI (subL (subL l ((Int.toNat (i)) * 2) (2)) (0) (2)) (0))])) (List.length (nformU [.int .u64 (getI (subL (subL l ((Int.toNat (i)) * 2) (2)) (0) (2)) (0))])) = true ∧
      leB (List.length (nformU [.int .u64 (getI (subL (subL l ((Int.toNat (i)) * 2) (2)) (0) (2)) (0))]) + List.length (nformU [.int .u64 (getI (subL (subL l ((Int.toNat (i)) * 2) (2)) (0) (2)) (1))])) (List.length ((bytesL (nformU [.int .u64 (getI (subL (subL l ((Int.toNat (i)) * 2) (2)) (0) (2)) (0))])) ++ (subL (bytesL (nformU [.int .u64 (getI (subL (subL l ((Int.toNat (i)) * 2) (2)) (0) (2)) (1))])) (0) (List.length (nformU [.int .u64 (getI (subL (subL l ((Int.toNat (i)) * 2) (2)) (0) (2)) (1))]))))) = true ∧
      cellsB (subL ((bytesL (nformU [.int .u64 (getI (subL (subL l ((Int.toNat (i)) * 2) (2)) (0) (2)) (0))])) ++ (subL (bytesL (nformU [.int .u64 (getI (subL (subL l ((Int.toNat (i)) * 2) (2)) (0) (2)) (1))])) (0) (List.length (nformU [.int .u64 (getI (subL (subL l ((Int.toNat (i)) * 2) (2)) (0) (2)) (1))])))) (0) (List.length (nformU [.int .u64 (getI (subL (subL l ((Int.toNat (i)) * 2) (2)) (0) (2)) (0))]) + List.length (nformU [.int .u64 (getI (subL (subL l ((Int.toNat (i)) * 2) (2)) (0) (2)) (1))]))) = true ∧
      leB (len + (List.length (nformU [.int .u64 (getI (subL (subL l ((Int.toNat (i)) * 2) (2)) (0) (2)) (0))]) + List.length (nformU [.int .u64 (getI (subL (subL l ((Int.toNat (i)) * 2) (2)) (0) (2)) (1))]))) (140737488355328) = true ∧
      Nat.beq (List.length s) (len) = true ∧
      Q .normal [.func 28 [], .slice false (.rw 7) (0) (len + (List.length (nformU [.int .u64 (getI (subL (subL l ((Int.toNat (i)) * 2) (2)) (0) (2)) (0))]) + List.length (nformU [.int .u64 (getI (subL (subL l ((Int.toNat (i)) * 2) (2)) (0) (2)) (1))]))), .slice true (.rw 0) (0) (n), .int .i64 (mm), .int .i64 (IntKind.wrap .i64 (i + 1))] [some ⟨2, l⟩, none, some ⟨1, (subL l ((Int.toNat (i)) * 2) (2))⟩, some ⟨1, (subL (subL l ((Int.toNat (i)) * 2) (2)) (0) (2))⟩, none, some ⟨1, (bytesL (nformU [.int .u64 (getI (subL (subL l ((Int.toNat (i)) * 2) (2)) (0) (2)) (1))]))⟩, some ⟨1, ((bytesL (nformU [.int .u64 (getI (subL (subL l ((Int.toNat (i)) * 2) (2)) (0) (2)) (0))])) ++ (subL (bytesL (nformU [.int .u64 (getI (subL (subL l ((Int.toNat (i)) * 2) (2)) (0) (2)) (1))])) (0) (List.length (nformU [.int .u64 (getI (subL (subL l ((Int.toNat (i)) * 2) (2)) (0) (2)) (1))]))))⟩, some ⟨1, (s ++ (subL ((bytesL (nformU [.int .u64 (getI (subL (subL l ((Int.toNat (i)) * 2) (2)) (0) (2)) (0))])) ++ (subL (bytesL (nformU [.int .u64 (getI (subL (subL l ((Int.toNat (i)) * 2) (2)) (0) (2)) (1))])) (0) (List.length (nformU [.int .u64 (getI (subL (subL l ((Int.toNat (i)) * 2) (2)) (0) (2)) (1))])))) (0) (List.length (nformU [.int .u64 (getI (subL (subL l ((Int.toNat (i)) * 2) (2)) (0) (2)) (0))]) + List.length (nformU [.int .u64 (getI (subL (subL l ((Int.toNat (i)) * 2) (2)) (0) (2)) (1))]))))⟩]) ∧
    (decide ((i : Int) < mm) = false →
      Q (.exit 0) [.func 28 [], .slice false (.rw 1) (0) (len), .slice true (.rw 0) (0) (n), .int .i64 (mm), .int .i64 (i)] [some ⟨2, l⟩, some ⟨1, s⟩])) := by kernel_rfl
theorem rb29 (G : Nat → List AV) (s xs : List AV) (n len : Nat) (a b v e i : Int) (Q : Ex → List AV → Hp → Prop) (R : AV → Hp → Prop) : vT G Q R (dloop (Dc Try.prog [30] progL [] 2) 300 20 2 (loopN Try.f29 0) 59 [0, 2, 6, 7, 8, 9, 10, 11, 12] [.ptr (.rw 0) (.lit 0), .func 30 [], .nils, .int .i64 (.lit 0), .int .i64 (.var 1 b), .int .i64 (.var 2 v), .int .i64 (.var 3 e), .slice false (.rw 2) (.lit 0) (.var 7 len), .int .i64 (.var 8 i)] [some ⟨1, .of [.slice false (.rw 1) (.lit 0) (.var 4 n), .int .i64 (.var 5 a)]⟩, some ⟨1, .var 6 s⟩, some ⟨2, .var 9 xs⟩]) = (
    (((e : Int) == 0) = true →
      (decide ((i : Int) < v) = true →
        okRdU [.agg s, .ptr (.rw 0) (n), .int .i64 (a)] = true ∧
        (((rdEU [.agg s, .int .i64 (a)] : Int) == 0) = true →
          okRdU [.agg s, .ptr (.rw 0) (n), .int .i64 (rdAU [.agg s, .int .i64 (a)])] = true ∧
          leB ((len + 1) * 16) (140737488355328) = true ∧
          Nat.beq (List.length xs) ((len) * 2) = true ∧
          Q .normal [.ptr (.rw 0) (0), .func 30 [], .nils, .int .i64 (0), .int .i64 (b), .int .i64 (v), .int .i64 (rdEU [.agg s, .int .i64 (rdAU [.agg s, .int .i64 (a)])]), .slice false (.rw 6) (0) (len + 1), .int .i64 (IntKind.wrap .i64 (i + 1))] [some ⟨1, ([.slice false (.rw 1) (0) (n), .int .i64 (rdAU [.agg s, .int .i64 (rdAU [.agg s, .int .i64 (a)])])] : List AV)⟩, some ⟨1, s⟩, none, some ⟨1, ([.int .u64 (rdVU [.agg s, .int .i64 (a)]), .int .u64 (rdVU [.agg s, .int .i64 (rdAU [.agg s, .int .i64 (a)])])] : List AV)⟩, some ⟨1, ([.int .u64 (rdVU [.agg s, .int .i64 (a)]), .int .u64 (rdVU [.agg s, .int .i64 (rdAU [.agg s, .int .i64 (a)])])] : List AV)⟩, some ⟨2, ([.int .u64 (rdVU [.agg s, .int .i64 (a)]), .int .u64 (rdVU [.agg s, .int .i64 (rdAU [.agg s, .int .i64 (a)])])] : List AV)⟩, some ⟨2, (xs ++ ([.int .u64 (rdVU [.agg s, .int .i64 (a)]), .int .u64 (rdVU [.agg s, .int .i64 (rdAU [.agg s, .int .i64 (a)])])] : List AV))⟩]) ∧
        (((rdEU [.agg s, .int .i64 (a)] : Int) == 0) = false →
          leB ((len + 1) * 16) (140737488355328) = true ∧
          Nat.beq (List.length xs) ((len) * 2) = true ∧
          Q .normal [.ptr (.rw 0) (0), .func 30 [], .nils, .int .i64 (0), .int .i64 (b), .int .i64 (v), .int .i64 (rdEU [.agg s, .int .i64 (a)]), .slice false (.rw 6) (0) (len + 1), .int .i64 (IntKind.wrap .i64 (i + 1))] [some ⟨1, ([.slice false (.rw 1) (0) (n), .int .i64 (rdAU [.agg s, .int .i64 (a)])] : List AV)⟩, some ⟨1, s⟩, none, some ⟨1, ([.int .u64 (0), .int .u64 (0)] : List AV)⟩, some ⟨1, ([.int .u64 (0), .int .u64 (0)] : List AV)⟩, some ⟨2, ([.int .u64 (0), .int .u64 (0)] : List AV)⟩, some ⟨2, (xs ++ ([.int .u64 (0), .int .u64 (0)] : List AV))⟩])) ∧
      (decide ((i : Int) < v) = false →
        Q (.exit 0) [.ptr (.rw 0) (0), .func 30 [], .nils, .int .i64 (0), .int .i64 (b), .int .i64 (v), .int .i64 (e), .slice false (.rw 2) (0) (len), .int .i64 (i)] [some ⟨1, ([.slice false (.rw 1) (0) (n), .int .i64 (a)] : List AV)⟩, some ⟨1, s⟩, some ⟨2, xs⟩])) ∧
    (((e : Int) == 0) = false →
      Q (.exit 0) [.ptr (.rw 0) (0), .func 30 [], .nils, .int .i64 (0), .int .i64 (b), .int .i64 (v), .int .i64 (e), .slice false (.rw 2) (0) (len), .int .i64 (i)] [some ⟨1, ([.slice false (.rw 1) (0) (n), .int .i64 (a)] : List AV)⟩, some ⟨1, s⟩, some ⟨2, xs⟩])) := by kernel_rfl
/-- the forms of some numbers, one behind the other -/
def fcat (ps : List Nat) : List UInt8 := ps.flatMap nform
theorem fcat_app (a b : List Nat) : fcat (a ++ b) = fcat a ++ fcat b := by simp [fcat]
theorem fcat_one (a : Nat) : fcat [a] = nform a := by simp [fcat]
theorem fcat_len : ∀ (ps : List Nat), (fcat ps).length ≤ 10 * ps.length
  | [] => Nat.le_refl _
  | p :: ps => by
    have h1 := fcat_len ps
    have h2 := nform_len p
    have e : fcat (p :: ps) = nform p ++ fcat ps := rfl
    rw [e, List.length_append, List.length_cons]
    omega
theorem drop_two {qs : List Nat} {i : Nat} (h : i * 2 + 2 ≤ qs.length) : (qs.drop (i * 2)).take 2 = [qs.getD (i * 2) 0, qs.getD (i * 2 + 1) 0] := by
  have h1 : i * 2 < qs.length := by omega
  have h2 : i * 2 + 1 < qs.length := by omega
  rw [List.drop_eq_getElem_cons h1, List.take_succ_cons, List.drop_eq_getElem_cons h2, List.take_succ_cons, List.take_zero]
  simp [List.getD, h1, h2]
theorem take_two {qs : List Nat} {i : Nat} (h : i * 2 + 2 ≤ qs.length) : qs.take (i * 2 + 2) = qs.take (i * 2) ++ [qs.getD (i * 2) 0, qs.getD (i * 2 + 1) 0] := by
  rw [List.take_add, drop_two h]
theorem subL_two {qs : List Nat} {i : Nat} (h : i * 2 + 2 ≤ qs.length) : subL (u64L qs) (i * 2) 2 = u64L [qs.getD (i * 2) 0, qs.getD (i * 2 + 1) 0] := by
  simp only [subL, u64L, ← List.map_drop, ← List.map_take, drop_two h]
theorem u64L_two (a b : Nat) : subL (u64L [a, b]) 0 2 = u64L [a, b] := rfl
theorem u64L_cells (ps : List Nat) : cellsB (u64L ps) = true := by
  simp only [cellsB, u64L, List.all_map, List.all_eq_true]
  exact fun _ _ => rfl
def allU (ps : List Nat) : Prop := ∀ p ∈ ps, p ≤ 18446744073709551615
theorem allU_get {ps : List Nat} (h : allU ps) (i : Nat) : ps.getD i 0 ≤ 18446744073709551615 := by
  simp only [List.getD]
  cases hi : ps[i]? with
  | none => simp
  | some x => exact h x (List.mem_of_getElem? hi)
theorem inU_nat {n : Nat} (h : n ≤ 18446744073709551615) : inU64 [.int .u64 (n : Int)] = true := by simp [inU64]; omega
theorem nformU_nat (n : Nat) : nformU [.int .u64 (n : Int)] = nform n := by simp [nformU]
theorem nl27 (G : Nat → List AV) (B : Nat) (qs : List Nat) (m : Nat) (s0 : List UInt8) (hq : m * 2 ≤ qs.length) (hu : allU qs) (hm : m ≤ 1099511627776) (h0 : s0.length ≤ 10) :
    AWp (⟨Try.prog, G, B⟩ : Ctx) 1 (.loop (loopN Try.f27 0)) (fl 28 [1, 6, 15, 16, 17] [.func 28 [], .slice false (.rw 1) 0 s0.length, .slice true (.rw 0) 0 m, .int .i64 (m : Int), .int .i64 0]) [some ⟨2, u64L qs⟩, some ⟨1, bytesL s0⟩]
      (lv 28 [1, 6, 15, 16, 17] fun e vs H => e = .exit 0 ∧ wk [.undef, .slice false (.rw 1) 0 (s0 ++ fcat (qs.take (m * 2))).length, .undef, .undef, .undef] vs ∧ H = [some ⟨2, u64L qs⟩, some ⟨1, bytesL (s0 ++ fcat (qs.take (m * 2)))⟩]) := by
  refine aloop_lv (fun j vs H => ∃ i : Nat, i ≤ m ∧ j = m - i ∧ vs = [.func 28 [], .slice false (.rw 1) 0 (s0 ++ fcat (qs.take (i * 2))).length, .slice true (.rw 0) 0 m, .int .i64 (m : Int), .int .i64 (i : Int)] ∧ H = [some ⟨2, u64L qs⟩, some ⟨1, bytesL (s0 ++ fcat (qs.take (i * 2)))⟩]) m ⟨0, by omega, rfl, by simp [fcat], by simp [fcat]⟩ ?_
  rintro j vs H ⟨i, hi, rfl, rfl, rfl⟩
  refine dloop_ok (C := (⟨Try.prog, G, B⟩ : Ctx)) (dgL1 G B) (fuel := 300) (n0 := 30) (m := 1) (c := loopN Try.f27 0) (vs := [.func 28 [], .slice false (.rw 1) (.lit 0) (.var 1 (s0 ++ fcat (qs.take (i * 2))).length), .slice true (.rw 0) (.lit 0) (.var 2 m), .int .i64 (.var 3 (m : Int)), .int .i64 (.var 4 (i : Int))]) (H := [some ⟨2, .var 5 (u64L qs)⟩, some ⟨1, .var 6 (bytesL (s0 ++ fcat (qs.take (i * 2))))⟩]) (by simp) ?_
  rw [rb27, Int.toNat_natCast]
  refine ⟨fun h => ?_, fun h => ?_⟩
  · have h' := of_decide_eq_true h
    have hi2 : i * 2 + 2 ≤ qs.length := by omega
    have ha := allU_get hu (i * 2)
    have hb := allU_get hu (i * 2 + 1)
    have e1 := take_two hi2
    rw [subL_two hi2, u64L_two]
    generalize qs.getD (i * 2) 0 = a at *
    generalize qs.getD (i * 2 + 1) 0 = b at *
    have ga : getI (u64L [a, b]) 0 = (a : Int) := rfl
    have gb : getI (u64L [a, b]) 1 = (b : Int) := rfl
    have la := nform_len a
    have lb := nform_len b
    have lf := fcat_len (qs.take (i * 2))
    have lt : (qs.take (i * 2)).length ≤ i * 2 := by simp; omega
    have sb : subL (bytesL (nform b)) 0 (nform b).length = bytesL (nform b) := by simp [subL, ← bytesL_length]
    have sab : subL (bytesL (nform a) ++ bytesL (nform b)) 0 ((nform a).length + (nform b).length) = bytesL (nform a) ++ bytesL (nform b) := by
      have : (nform a).length + (nform b).length = (bytesL (nform a) ++ bytesL (nform b)).length := by simp [bytesL_length]
      rw [this]; simp only [subL, List.drop_zero, List.take_length]
    have wi : IntKind.wrap .i64 ((i : Int) + 1) = ((i + 1 : Nat) : Int) := by rw [i64_in (by omega)]; omega
    rw [ga, gb, nformU_nat, nformU_nat, sb, sab, wi]
    have ub : ∀ x, cellsB (bytesL x) = true := fun x => u8s_cells (b8s_u8 (b8s_bytes x))
    have uab : cellsB (bytesL (nform a) ++ bytesL (nform b)) = true := by rw [← bytesL_append]; exact ub _
    have hnew : fcat (qs.take ((i + 1) * 2)) = fcat (qs.take (i * 2)) ++ (nform a ++ nform b) := by
      rw [show (i + 1) * 2 = i * 2 + 2 by omega, e1, fcat_app]; simp [fcat]
    refine ⟨decide_eq_true (by omega), decide_eq_true (by omega), leB_iff.2 (by rw [u64L_len]; omega), u64L_cells _, rfl, rfl, rfl, inU_nat ha, rfl, inU_nat hb, leB_iff.2 (Nat.le_refl _), ub _, leB_iff.2 (by omega), Nat.beq_refl _, leB_iff.2 (by simp [bytesL_length]), uab, leB_iff.2 (by simp [bytesL_length]; omega), by rw [bytesL_length]; exact Nat.beq_refl _, ⟨m - (i + 1), by omega, .inr ⟨_, _, ⟨i + 1, by omega, rfl, rfl, rfl⟩, ?_⟩⟩⟩
    rw [hnew, ← bytesL_append, ← bytesL_append, List.append_assoc]
    have f1 : ∀ j, bnds j (u64L qs) = true := fun j => u64L_flat j _
    have f2 : ∀ j, bnds j (bytesL (s0 ++ (fcat (qs.take (i * 2)) ++ (nform a ++ nform b)))) = true := fun j => bytesL_flat j _
    refine View.renM (θ := [0, 7]) (by simp) fixes1 (by decide) ⟨⟨f1 _, by rw [rens_flat _ _ (f1 0)]; rfl⟩, ⟨f2 _, by rw [rens_flat _ _ (f2 0)]; rfl⟩, trivial⟩ (by simp [bnds, bnd]) ?_
    simp [rens, ren, wk]
    omega
  · have h' := of_decide_eq_false h
    have : i = m := by omega
    subst this
    exact ⟨rfl, by simp [wk], rfl⟩
/-! pairs are read -/
theorem nl29 (G : Nat → List AV) (B : Nat) (s : List AV) (n a V : Nat) (b : Int) (hb : b8s s = true) (hn : s.length = n) (h40 : n ≤ 1099511627776) (ha : a ≤ n) (hV : V ≤ 4611686018427387904) :
    AWp (⟨Try.prog, G, B⟩ : Ctx) 2 (.loop (loopN Try.f29 0)) (fl 59 [0, 2, 6, 7, 8, 9, 10, 11, 12] [.ptr (.rw 0) 0, .func 30 [], .nils, .int .i64 0, .int .i64 b, .int .i64 (V : Int), .int .i64 0, .slice false (.rw 2) 0 0, .int .i64 0]) [rdBlk n a, some ⟨1, s⟩, some ⟨2, []⟩]
      (lv 59 [0, 2, 6, 7, 8, 9, 10, 11, 12] fun e vs H => e = .exit 0 ∧ ((∃ xs a', nread s (V * 2) a = some (xs, a') ∧ wk [.ptr (.rw 0) 0, .undef, .nils, .int .i64 0, .int .i64 b, .undef, .int .i64 0, .slice false (.rw 2) 0 V, .undef] vs ∧ H = [rdBlk n a', some ⟨1, s⟩, some ⟨2, u64L xs⟩])
        ∨ (nread s (V * 2) a = none ∧ ∃ (xs : List Nat) (a' : Nat), wk [.ptr (.rw 0) 0, .undef, .nils, .int .i64 0, .int .i64 b, .undef, .int .i64 4, .undef, .undef] vs ∧ H = [rdBlk n a', some ⟨1, s⟩, some ⟨2, u64L xs⟩]))) := by
  have hf : ∀ j, bnds j s = true := fun j => u8s_flat (b8s_u8 hb)
  refine aloop_lv (fun j vs H => ∃ (xs : List Nat) (i a' : Nat) (e : Int), xs.length = i * 2 ∧ (e = 0 ∧ NS s (V * 2) a xs a' ∧ j = n - a' + 1 ∨ e = 4 ∧ nread s (V * 2) a = none ∧ j = 0) ∧
    vs = [.ptr (.rw 0) 0, .func 30 [], .nils, .int .i64 0, .int .i64 b, .int .i64 (V : Int), .int .i64 e, .slice false (.rw 2) 0 i, .int .i64 (i : Int)] ∧ H = [rdBlk n a', some ⟨1, s⟩, some ⟨2, u64L xs⟩]) (n - a + 1)
    ⟨[], 0, a, 0, rfl, .inl ⟨rfl, .start (by omega), rfl⟩, rfl, rfl⟩ ?_
  rintro j vs H ⟨xs, i, a', e, hlen, hs, rfl, rfl⟩
  refine dloop_ok (C := (⟨Try.prog, G, B⟩ : Ctx)) (dgL2 G B) (fuel := 300) (n0 := 20) (m := 2) (c := loopN Try.f29 0) (vs := [.ptr (.rw 0) (.lit 0), .func 30 [], .nils, .int .i64 (.lit 0), .int .i64 (.var 1 b), .int .i64 (.var 2 (V : Int)), .int .i64 (.var 3 e), .slice false (.rw 2) (.lit 0) (.var 7 i), .int .i64 (.var 8 (i : Int))])
    (H := [some ⟨1, .of [.slice false (.rw 1) (.lit 0) (.var 4 n), .int .i64 (.var 5 (a' : Int))]⟩, some ⟨1, .var 6 s⟩, some ⟨2, .var 9 (u64L xs)⟩]) (by simp) ?_
  rw [rb29]
  have ok : ∀ x : Nat, x ≤ n → okRdU [.agg s, .ptr (.rw 0) n, .int .i64 (x : Int)] = true := fun x hx => by rw [← hn]; exact okRd_iff.2 ⟨hb, rfl, by omega, by omega, by omega⟩
  rcases hs with ⟨rfl, hs, rfl⟩ | ⟨rfl, hs, rfl⟩
  · have hs' := hs
    obtain ⟨q1, q2, q3, q4⟩ := hs'
    refine ⟨fun _ => ⟨fun hi => ?_, fun hi => ?_⟩, fun h => by simp at h⟩
    · have hi := of_decide_eq_true hi
      have hi : i < V := by omega
      have wi : IntKind.wrap .i64 ((i : Int) + 1) = ((i + 1 : Nat) : Int) := by rw [i64_in (by omega)]; omega
      rw [wi]
      have b1 : leB ((i + 1) * 16) 140737488355328 = true := leB_iff.2 (by omega)
      have b2 : Nat.beq (u64L xs).length (i * 2) = true := by rw [u64L_len, hlen]; exact Nat.beq_refl _
      have hxy : ∀ (x y : Nat), (xs ++ [x, y]).length = (i + 1) * 2 := fun x y => by simp; omega
      have view : ∀ (x y : Nat) (e : Int) (a2 : Nat) (o3 o4 o5 : Option Blk), View 2 [.ptr (.rw 0) 0, .func 30 [], .nils, .int .i64 0, .int .i64 b, .int .i64 (V : Int), .int .i64 e, .slice false (.rw 2) 0 (i + 1), .int .i64 ((i + 1 : Nat) : Int)] [rdBlk n a2, some ⟨1, s⟩, some ⟨2, u64L (xs ++ [x, y])⟩]
          [.ptr (.rw 0) 0, .func 30 [], .nils, .int .i64 0, .int .i64 b, .int .i64 (V : Int), .int .i64 e, .slice false (.rw 6) 0 (i + 1), .int .i64 ((i + 1 : Nat) : Int)] [some ⟨1, [.slice false (.rw 1) 0 n, .int .i64 (a2 : Int)]⟩, some ⟨1, s⟩, none, o3, o4, o5, some ⟨2, u64L xs ++ [.int .u64 (x : Int), .int .u64 (y : Int)]⟩] := fun x y e a2 o3 o4 o5 => by
        have hu : ∀ j, bnds j (u64L (xs ++ [x, y])) = true := fun j => u64L_flat j _
        have e2 : u64L xs ++ [.int .u64 (x : Int), .int .u64 (y : Int)] = u64L (xs ++ [x, y]) := by simp [u64L]
        rw [e2]
        refine View.renM (θ := [0, 1, 6]) (by simp) fixes2 (by decide) ⟨⟨by simp [bnds, bnd], by simp [rens, ren]⟩, ⟨hf _, by rw [rens_flat _ _ (hf 0)]; rfl⟩, ⟨hu _, by rw [rens_flat _ _ (hu 0)]; rfl⟩, trivial⟩ (by simp [bnds, bnd]) (by simp [rens, ren, wk])
      refine ⟨ok _ (by omega), fun he => ?_, fun he => ?_⟩
      · have he := eq_of_beq he
        cases hw : wrd s a' with
        | none => rw [(rd_none (k := .i64) hw).2.1] at he; cases he
        | some p =>
          obtain ⟨x, j⟩ := p
          obtain ⟨r1, r2, r3⟩ := rd_some (k := .i64) hw
          obtain ⟨w1, w2⟩ := wrd_len hw
          rw [r1, r3]
          have n1 := NS.next hs (by omega) hw
          cases hw2 : wrd s (a' + j) with
          | none =>
            obtain ⟨r4, r5, r6⟩ := rd_none (k := .i64) hw2
            rw [r4, r5, r6]
            refine ⟨ok _ (by omega), b1, b2, 0, by omega, .inr ⟨_, _, ⟨xs ++ [x, 0], i + 1, a' + j, 4, hxy _ _, .inr ⟨rfl, NS.bad n1 (by simp; omega) hw2, rfl⟩, rfl, rfl⟩, ?_⟩⟩
            exact view x 0 4 (a' + j) _ _ _
          | some p2 =>
            obtain ⟨y, j2⟩ := p2
            obtain ⟨r4, r5, r6⟩ := rd_some (k := .i64) hw2
            obtain ⟨w3, w4⟩ := wrd_len hw2
            rw [r4, r5, r6]
            have n2 := NS.next n1 (by simp; omega) hw2
            rw [List.append_assoc] at n2
            refine ⟨ok _ (by omega), b1, b2, n - (a' + j + j2) + 1, by omega, .inr ⟨_, _, ⟨xs ++ [x, y], i + 1, a' + j + j2, 0, hxy _ _, .inl ⟨rfl, n2, rfl⟩, rfl, rfl⟩, ?_⟩⟩
            exact view x y 0 (a' + j + j2) _ _ _
      · have he := ne_of_beq_false he
        cases hw : wrd s a' with
        | some p => exact absurd (rd_some (k := .i64) hw).2.1 he
        | none =>
          obtain ⟨r4, r5, r6⟩ := rd_none (k := .i64) hw
          rw [r5, r6]
          refine ⟨b1, b2, 0, by omega, .inr ⟨_, _, ⟨xs ++ [0, 0], i + 1, a', 4, hxy _ _, .inr ⟨rfl, NS.bad hs (by omega) hw, rfl⟩, rfl, rfl⟩, ?_⟩⟩
          exact view 0 0 4 a' _ _ _
    · have hi := of_decide_eq_false hi
      have : i = V := by omega
      subst this
      exact ⟨rfl, .inl ⟨xs, a', NS.stop hs (by omega), by simp [wk], rfl⟩⟩
  · exact ⟨fun h => by simp at h, fun _ => ⟨rfl, .inr ⟨hs, xs, a', by simp [wk], rfl⟩⟩⟩
end Go.Am
