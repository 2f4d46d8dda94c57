/-
  Slices: the program's Close, by the loop over the open slots.
-/
import Derived.Test.YtfalglcagngbnaaSlM
namespace Go.Am
open Go.Proofs
set_option maxRecDepth 100000
/-- a gift to the slot that is closed is taken back -/
def clStep (cs xs : List AV) (a : Int) : List AV := if getI xs 2 == a then cs.set ((getI xs 0).toNat * 7 + 35) (.int .i64 (-1)) else cs
def clSU : List AV → List AV := fun ys => match ys with
  | [.agg cs, .agg xs, .int _ a] => clStep cs xs a
  | _ => []
def numU : List AV → Bool := fun ys => match ys with
  | [.agg xs] => decide (0 ≤ getI xs 0) && decide (getI xs 0 < 32)
  | _ => false
def HCd (l : EL) (a b : EI) (rc : EL) : DHp := [some ⟨1, l⟩, some ⟨1, .of [.ptr (.rw 0) (.lit 0)]⟩, some ⟨1, .of [.int .i64 a]⟩, some ⟨1, .of [.int .i64 b]⟩, some ⟨1, .of [.ptr (.rw 0) (.lit 0)]⟩, some ⟨4294967291, rc⟩]
def yC (rq : List AV → Bool) : DYsum := fun i args H => match Nat.beq i 5 with
  | true => match args, H with
    | [.agg x], [some ⟨1, l⟩, some ⟨1, .of [.ptr (.rw 0) (.lit 0)]⟩, some ⟨1, .of [.int .i64 a]⟩, some ⟨1, .of [.int .i64 _]⟩, some ⟨1, .of [.ptr (.rw 0) (.lit 0)]⟩, some ⟨4294967291, rc⟩] =>
      some (.chk (.uf 1400 rq [.agg rc]) (.chk (.uf 1401 ok7U [.agg x]) (.chk (.uf 1300 okSU [.agg l]) (.chk (.uf 1431 numU [.agg x]) (.one (.bool (.lit true)) [.set 0 ⟨1, .uf 1432 clSU [.agg l, .agg x, .int .i64 a]⟩])))))
    | _, _ => none
  | false => none
theorem c_as (G : Nat → List AV) (cs rc : List AV) (a b : Int) (x0 x1 x2 x3 x4 x5 x6 : Int) (Q : Ex → List AV → Hp → Prop) (R : AV → Hp → Prop) : vT G Q R (dloop (Dc Try.prog [] [] [] 0) 200 60 6 (rgA (loopN Try.f24 0)) 39 [2, 3, 26, 27, 6] [.ptr (.rw 1) (.lit 0), .ptr (.rw 2) (.lit 0), .func 46 [.ptr (.rw 4) (.lit 0)], .agg (.of (E7 (.var 11 x0) (.var 12 x1) (.var 13 x2) (.var 14 x3) (.var 15 x4) (.var 16 x5) (.var 17 x6))), .undef] (HCd (.var 8 cs) (.var 20 a) (.var 21 b) (.var 24 rc))) = (
    Q .normal [.ptr (.rw 1) (0), .ptr (.rw 2) (0), .func 46 [.ptr (.rw 4) (0)], .agg ([.int .i64 (x0), .int .i64 (x1), .int .i64 (x2), .int .i64 (x3), .int .i64 (x4), .int .i64 (x5), .int .i64 (x6)] : List AV), .ptr (.rw 6) (0)] [some ⟨1, cs⟩, some ⟨1, ([.ptr (.rw 0) (0)] : List AV)⟩, some ⟨1, ([.int .i64 (a)] : List AV)⟩, some ⟨1, ([.int .i64 (b)] : List AV)⟩, some ⟨1, ([.ptr (.rw 0) (0)] : List AV)⟩, some ⟨4294967291, rc⟩, some ⟨1, ([.int .i64 (x0), .int .i64 (x1), .int .i64 (x2), .int .i64 (x3), .int .i64 (x4), .int .i64 (x5), .int .i64 (x6)] : List AV)⟩]) := by kernel_rfl
theorem c_bd (G : Nat → List AV) (cs rc : List AV) (a b : Int) (x0 x1 x2 x3 x4 x5 x6 : Int) (Q : Ex → List AV → Hp → Prop) (R : AV → Hp → Prop) : vT G Q R (dloop (Dc Try.prog [] [] [] 0) 300 60 6 (rgB (loopN Try.f24 0)) 39 [2, 3, 26, 27, 6] [.ptr (.rw 1) (.lit 0), .ptr (.rw 2) (.lit 0), .func 46 [.ptr (.rw 4) (.lit 0)], .agg (.of (E7 (.var 11 x0) (.var 12 x1) (.var 13 x2) (.var 14 x3) (.var 15 x4) (.var 16 x5) (.var 17 x6))), .ptr (.rw 6) (.lit 0)] ((HCd (.var 8 cs) (.var 20 a) (.var 21 b) (.var 24 rc)) ++ [some ⟨1, (.of (E7 (.var 11 x0) (.var 12 x1) (.var 13 x2) (.var 14 x3) (.var 15 x4) (.var 16 x5) (.var 17 x6)))⟩])) = (
    (((x2 : Int) == a) = true →
      decide ((0 : Int) ≤ x0) = true ∧
      decide ((x0 : Int) < 32) = true ∧
      leB ((Int.toNat (x0)) * 7 + 36) (List.length cs) = true ∧
      Q .normal [.ptr (.rw 1) (0), .ptr (.rw 2) (0), .func 46 [.ptr (.rw 4) (0)], .agg ([.int .i64 (x0), .int .i64 (x1), .int .i64 (x2), .int .i64 (x3), .int .i64 (x4), .int .i64 (x5), .int .i64 (x6)] : List AV), .ptr (.rw 6) (0)] [some ⟨1, (setPart cs ((Int.toNat (x0)) * 7 + 35) (.int .i64 ((-1))))⟩, some ⟨1, ([.ptr (.rw 0) (0)] : List AV)⟩, some ⟨1, ([.int .i64 (a)] : List AV)⟩, some ⟨1, ([.int .i64 (b)] : List AV)⟩, some ⟨1, ([.ptr (.rw 0) (0)] : List AV)⟩, some ⟨4294967291, rc⟩, some ⟨1, ([.int .i64 (x0), .int .i64 (x1), .int .i64 (x2), .int .i64 (x3), .int .i64 (x4), .int .i64 (x5), .int .i64 (x6)] : List AV)⟩]) ∧
    (((x2 : Int) == a) = false →
      Q .normal [.ptr (.rw 1) (0), .ptr (.rw 2) (0), .func 46 [.ptr (.rw 4) (0)], .agg ([.int .i64 (x0), .int .i64 (x1), .int .i64 (x2), .int .i64 (x3), .int .i64 (x4), .int .i64 (x5), .int .i64 (x6)] : List AV), .ptr (.rw 6) (0)] [some ⟨1, cs⟩, some ⟨1, ([.ptr (.rw 0) (0)] : List AV)⟩, some ⟨1, ([.int .i64 (a)] : List AV)⟩, some ⟨1, ([.int .i64 (b)] : List AV)⟩, some ⟨1, ([.ptr (.rw 0) (0)] : List AV)⟩, some ⟨4294967291, rc⟩, some ⟨1, ([.int .i64 (x0), .int .i64 (x1), .int .i64 (x2), .int .i64 (x3), .int .i64 (x4), .int .i64 (x5), .int .i64 (x6)] : List AV)⟩])) := by kernel_rfl
theorem c_it (G : Nat → List AV) (rq : List AV → Bool) (cs rc : List AV) (a b n : Int) (Q : Ex → List AV → Hp → Prop) (R : AV → Hp → Prop) : vT G Q R (dloop (Dr Try.prog [26, 28] [] [] [] (yC rq) 0) 300 60 6 (loopN Try.f46 0) 22 [0, 1, 4] [.yld 5, .ptr (.rw 4) (.lit 0), .int .i64 (.var 6 n)] (HCd (.var 8 cs) (.var 20 a) (.var 21 b) (.var 24 rc))) = (
    (decide ((n : Int) < 32) = true →
      isB cs (0) = true ∧
      (getB cs (0) = true →
        (decide ((n : Int) ≥ 0) = true →
          decide ((n : Int) < 32) = true ∧
          decide ((0 : Int) ≤ n) = true ∧
          decide ((n : Int) < 32) = true ∧
          isB cs (Int.toNat (n) + 1) = true ∧
          (getB cs (Int.toNat (n) + 1) = true →
            decide ((0 : Int) ≤ n) = true ∧
            decide ((n : Int) < 32) = true ∧
            leB ((Int.toNat (n)) * 7 + 40) (List.length cs) = true ∧
            rq [.agg rc] = true ∧
            ok7U [.agg (subL cs ((Int.toNat (n)) * 7 + 33) (7))] = true ∧
            okSU [.agg cs] = true ∧
            numU [.agg (subL cs ((Int.toNat (n)) * 7 + 33) (7))] = true ∧
            Q .normal [.yld 5, .ptr (.rw 4) (0), .int .i64 (IntKind.wrap .i64 (n + 1))] [some ⟨1, (clSU [.agg cs, .agg (subL cs ((Int.toNat (n)) * 7 + 33) (7)), .int .i64 (a)])⟩, some ⟨1, ([.ptr (.rw 0) (0)] : List AV)⟩, some ⟨1, ([.int .i64 (a)] : List AV)⟩, some ⟨1, ([.int .i64 (b)] : List AV)⟩, some ⟨1, ([.ptr (.rw 0) (0)] : List AV)⟩, some ⟨4294967291, rc⟩]) ∧
          (getB cs (Int.toNat (n) + 1) = false →
            Q .normal [.yld 5, .ptr (.rw 4) (0), .int .i64 (IntKind.wrap .i64 (n + 1))] [some ⟨1, cs⟩, some ⟨1, ([.ptr (.rw 0) (0)] : List AV)⟩, some ⟨1, ([.int .i64 (a)] : List AV)⟩, some ⟨1, ([.int .i64 (b)] : List AV)⟩, some ⟨1, ([.ptr (.rw 0) (0)] : List AV)⟩, some ⟨4294967291, rc⟩])) ∧
        (decide ((n : Int) ≥ 0) = false →
          Q .normal [.yld 5, .ptr (.rw 4) (0), .int .i64 (IntKind.wrap .i64 (n + 1))] [some ⟨1, cs⟩, some ⟨1, ([.ptr (.rw 0) (0)] : List AV)⟩, some ⟨1, ([.int .i64 (a)] : List AV)⟩, some ⟨1, ([.int .i64 (b)] : List AV)⟩, some ⟨1, ([.ptr (.rw 0) (0)] : List AV)⟩, some ⟨4294967291, rc⟩])) ∧
      (getB cs (0) = false →
        Q .normal [.yld 5, .ptr (.rw 4) (0), .int .i64 (IntKind.wrap .i64 (n + 1))] [some ⟨1, cs⟩, some ⟨1, ([.ptr (.rw 0) (0)] : List AV)⟩, some ⟨1, ([.int .i64 (a)] : List AV)⟩, some ⟨1, ([.int .i64 (b)] : List AV)⟩, some ⟨1, ([.ptr (.rw 0) (0)] : List AV)⟩, some ⟨4294967291, rc⟩])) ∧
    (decide ((n : Int) < 32) = false →
      Q (.exit 0) [.yld 5, .ptr (.rw 4) (0), .int .i64 (n)] [some ⟨1, cs⟩, some ⟨1, ([.ptr (.rw 0) (0)] : List AV)⟩, some ⟨1, ([.int .i64 (a)] : List AV)⟩, some ⟨1, ([.int .i64 (b)] : List AV)⟩, some ⟨1, ([.ptr (.rw 0) (0)] : List AV)⟩, some ⟨4294967291, rc⟩])) := by kernel_rfl
def F0c : Fr := fl 39 [2, 3, 26] [.ptr (.rw 1) 0, .ptr (.rw 2) 0, .func 46 [.ptr (.rw 4) 0]]
noncomputable def rcC (p : Nat) : List AV := rcA (loopN Try.f24 0) p F0c
theorem N24_eq : loopN Try.f24 0 = .rangeFunc (rgG (loopN Try.f24 0)) (rgP (loopN Try.f24 0)) (rgA (loopN Try.f24 0)) (rgB (loopN Try.f24 0)) := by kernel_rfl
theorem rcC_ok : bnds 6 (rcC 0) = true := by kernel_rfl
theorem HC_b (G : Nat → List AV) {cs : List AV} (hs : okS cs = true) (a b : Int) : hpB 6 (vHp G (HCd (.var 8 cs) (.var 20 a) (.var 21 b) (.var 24 (rcC 0)))) = true := by
  simp only [HCd, vHp, List.map_cons, List.map_nil, Option.map_some, vBlk, vL, vVs, vV, vR, vN, vI, vB, hpB, okS_flat hs, rcC_ok, bnds, bnd, Bool.and_self, Bool.and_true]
  rfl
theorem clStep_ok {cs xs : List AV} (hs : okS cs = true) (h0 : 0 ≤ getI xs 0) (h1 : getI xs 0 < 32) (a : Int) : okS (clStep cs xs a) = true := by
  unfold clStep
  split
  · exact okS_setF hs (by omega) (by omega) _
  · exact hs
theorem y_c (G : Nat → List AV) (B : Nat) (cs : List AV) (hs : okS cs = true) (x0 x1 x2 x3 x4 x5 x6 : Int) (h0 : 0 ≤ x0) (h1 : x0 < 32) (a b : Int) : AYld (⟨Try.prog, G, B⟩ : Ctx) 5 [.agg (l7 x0 x1 x2 x3 x4 x5 x6)] (vHp G (HCd (.var 8 cs) (.var 20 a) (.var 21 b) (.var 24 (rcC 0)))) fun v H' => v = .bool true ∧ H' = vHp G (HCd (.var 8 (clStep cs (l7 x0 x1 x2 x3 x4 x5 x6) a)) (.var 20 a) (.var 21 b) (.var 24 (rcC 0))) := by
  refine AYld.dx (C := (⟨Try.prog, G, B⟩ : Ctx)) (K := (Dc Try.prog [] [] [] 0)) (f1 := 200) (f2 := 300) (n1 := 60) (n2 := 60) (N := 39) (live := [2, 3, 26, 27, 6]) (i := 5) (e := 4294967291) (ps := rgP (loopN Try.f24 0)) (ac := rgA (loopN Try.f24 0)) (bd := rgB (loopN Try.f24 0)) (F0 := F0c)
    (vs := [.ptr (.rw 1) (.lit 0), .ptr (.rw 2) (.lit 0), .func 46 [.ptr (.rw 4) (.lit 0)], .agg (.of (E7 (.var 11 x0) (.var 12 x1) (.var 13 x2) (.var 14 x3) (.var 15 x4) (.var 16 x5) (.var 17 x6))), .undef]) (vs1 := [.ptr (.rw 1) (.lit 0), .ptr (.rw 2) (.lit 0), .func 46 [.ptr (.rw 4) (.lit 0)], .agg (.of (E7 (.var 11 x0) (.var 12 x1) (.var 13 x2) (.var 14 x3) (.var 15 x4) (.var 16 x5) (.var 17 x6))), .ptr (.rw 6) (.lit 0)])
    (H := (HCd (.var 8 cs) (.var 20 a) (.var 21 b) (.var 24 (rcC 0)))) (H1 := (HCd (.var 8 cs) (.var 20 a) (.var 21 b) (.var 24 (rcC 0))) ++ [some ⟨1, (.of (E7 (.var 11 x0) (.var 12 x1) (.var 13 x2) (.var 14 x3) (.var 15 x4) (.var 16 x5) (.var 17 x6)))⟩]) (H2 := (HCd (.var 8 cs) (.var 20 a) (.var 21 b) (.var 24 (rcC 1))) ++ [some ⟨1, (.of (E7 (.var 11 x0) (.var 12 x1) (.var 13 x2) (.var 14 x3) (.var 15 x4) (.var 16 x5) (.var 17 x6)))⟩])
    (dgNo G B (by kernel_rfl) (by kernel_rfl)) (dgNo G B (by kernel_rfl) (by kernel_rfl)) rfl rfl rfl (by kernel_rfl) (by kernel_rfl) rfl ?_ rfl (by simp [HCd]) rfl ?_
  · have := c_as G cs (rcC 0) a b x0 x1 x2 x3 x4 x5 x6 (fun ex ws H' => ex = .normal ∧ ws = vVs G [.ptr (.rw 1) (.lit 0), .ptr (.rw 2) (.lit 0), .func 46 [.ptr (.rw 4) (.lit 0)], .agg (.of (E7 (.var 11 x0) (.var 12 x1) (.var 13 x2) (.var 14 x3) (.var 15 x4) (.var 16 x5) (.var 17 x6))), .ptr (.rw 6) (.lit 0)] ∧ H' = vHp G ((HCd (.var 8 cs) (.var 20 a) (.var 21 b) (.var 24 (rcC 0))) ++ [some ⟨1, (.of (E7 (.var 11 x0) (.var 12 x1) (.var 13 x2) (.var 14 x3) (.var 15 x4) (.var 16 x5) (.var 17 x6)))⟩])) (fun _ _ => False)
    refine Eq.mpr this ⟨rfl, rfl, rfl⟩
  · have := c_bd G cs (rcC 1) a b x0 x1 x2 x3 x4 x5 x6 (fun ex _ H' => H'[5]? = some (some ⟨4294967291, .rcd 1 (rgP (loopN Try.f24 0)) (rgA (loopN Try.f24 0)) (rgB (loopN Try.f24 0)) :: F0c⟩) ∧ ∃ H'' Gx, H'.set 5 (some ⟨4294967291, .rcd (stEx ex) (rgP (loopN Try.f24 0)) (rgA (loopN Try.f24 0)) (rgB (loopN Try.f24 0)) :: F0c⟩) = H'' ++ Gx ∧ (HCd (.var 8 cs) (.var 20 a) (.var 21 b) (.var 24 (rcC 0))).length ≤ H''.length ∧ hpB H''.length H'' = true ∧ (AV.bool (isNormal ex) = .bool true ∧ H'' = vHp G (HCd (.var 8 (clStep cs (l7 x0 x1 x2 x3 x4 x5 x6) a)) (.var 20 a) (.var 21 b) (.var 24 (rcC 0))))) (fun _ _ => False)
    have hok : okS (clStep cs (l7 x0 x1 x2 x3 x4 x5 x6) a) = true := clStep_ok (xs := (l7 x0 x1 x2 x3 x4 x5 x6)) hs h0 h1 a
    refine Eq.mpr this ⟨fun h => ⟨decide_eq_true h0, decide_eq_true h1, leB_iff.2 (by have := okS_len hs; omega), ?_⟩, fun h => ?_⟩
    · have e : clStep cs (l7 x0 x1 x2 x3 x4 x5 x6) a = setPart cs (x0.toNat * 7 + 35) (.int .i64 (-1)) := by
        simp only [clStep, show getI (l7 x0 x1 x2 x3 x4 x5 x6) 2 = x2 from rfl, show getI (l7 x0 x1 x2 x3 x4 x5 x6) 0 = x0 from rfl, h, if_true]; rfl
      refine ⟨rfl, vHp G (HCd (.var 8 (clStep cs (l7 x0 x1 x2 x3 x4 x5 x6) a)) (.var 20 a) (.var 21 b) (.var 24 (rcC 0))), [some ⟨1, (l7 x0 x1 x2 x3 x4 x5 x6)⟩], ?_, by simp [HCd, vHp], HC_b G hok a b, rfl, rfl⟩
      rw [e]; rfl
    · have e : clStep cs (l7 x0 x1 x2 x3 x4 x5 x6) a = cs := by
        simp only [clStep, show getI (l7 x0 x1 x2 x3 x4 x5 x6) 2 = x2 from rfl, h, Bool.false_eq_true, if_false]
      refine ⟨rfl, vHp G (HCd (.var 8 (clStep cs (l7 x0 x1 x2 x3 x4 x5 x6) a)) (.var 20 a) (.var 21 b) (.var 24 (rcC 0))), [some ⟨1, (l7 x0 x1 x2 x3 x4 x5 x6)⟩], ?_, by simp [HCd, vHp], HC_b G hok a b, rfl, rfl⟩
      rw [e]; rfl
theorem yC_ok (G : Nat → List AV) (B : Nat) : DYsumOk (⟨Try.prog, G, B⟩ : Ctx) (yC (isRc (rcC 0))) := by
  intro i args H oo ho
  unfold yC at ho
  split at ho
  · rename_i hi8
    have := Nat.eq_of_beq_eq_true hi8
    subst this
    split at ho
    · rename_i x l a b rc
      simp only [Option.some.injEq] at ho
      subst ho
      intro h1 h2 h3 h4
      simp only [vB, vVs, vV] at h1 h2 h3 h4
      simp only [numU, Bool.and_eq_true, decide_eq_true_eq] at h4
      have e1 := isRc_iff.1 h1
      have ex := ok7_cells h2
      have key := y_c G B (vL G l) h3 (getI (vL G x) 0) (getI (vL G x) 1) (getI (vL G x) 2) (getI (vL G x) 3) (getI (vL G x) 4) (getI (vL G x) 5) (getI (vL G x) 6) h4.1 h4.2 (vI G a) (vI G b)
      rw [← ex] at key
      unfold DYld
      simp only [vVs, vV, HCd, vHp, List.map_cons, List.map_nil, Option.map_some, vBlk, vL, vR, vN, vI, vB, ← e1] at key ⊢
      refine key.mono ?_
      rintro v H' ⟨rfl, rfl⟩
      exact ⟨rfl, rfl⟩
    · simp at ho
  · simp at ho
/-- the gifts of the first n slots are looked through -/
def clF (cs : List AV) (a : Int) : Nat → List AV
  | 0 => cs
  | n + 1 => if sO (clF cs a n) n && (sG (clF cs a n) n == a) then (clF cs a n).set (n * 7 + 35) (.int .i64 (-1)) else clF cs a n
/-- open slots stand at their numbers -/
def okN (cs : List AV) : Prop := ∀ i, i < 32 → sO cs i = true → sN cs i = (i : Int)
theorem clF_ok {cs : List AV} (hs : okS cs = true) (hN : okN cs) (a : Int) : ∀ n, n ≤ 32 → okS (clF cs a n) = true ∧ okN (clF cs a n)
  | 0, _ => ⟨hs, hN⟩
  | n + 1, hn => by
    obtain ⟨h1, h2⟩ := clF_ok hs hN a n (by omega)
    have hl := okS_len h1
    simp only [clF]
    split
    · refine ⟨okS_setF h1 (by omega) (by omega) _, fun i hi ho => ?_⟩
      have e1 : sO ((clF cs a n).set (n * 7 + 35) (.int .i64 (-1))) i = sO (clF cs a n) i := getB_s (by omega) (by omega)
      have e2 : sN ((clF cs a n).set (n * 7 + 35) (.int .i64 (-1))) i = sN (clF cs a n) i := by unfold sN; rw [getI_s (by omega), if_neg (by omega)]
      rw [e1] at ho
      rw [e2]; exact h2 i hi ho
    · exact ⟨h1, h2⟩
theorem sub_get' {cs : List AV} {i j : Nat} (hj : j < 7) : getI (subL cs (i * 7 + 33) 7) j = getI cs (i * 7 + (33 + j)) := by
  unfold subL getI
  rw [List.getElem?_take, if_pos hj, List.getElem?_drop, Nat.add_assoc]
theorem clF_step {cs : List AV} (hs : okS cs = true) (hN : okN cs) (a : Int) {n : Nat} (hn : n < 32) (ho : sO (clF cs a n) n = true) : clF cs a (n + 1) = clStep (clF cs a n) (subL (clF cs a n) (n * 7 + 33) 7) a := by
  have e0 : getI (subL (clF cs a n) (n * 7 + 33) 7) 0 = (n : Int) := by
    rw [sub_get' (by omega)]
    exact (clF_ok hs hN a n (by omega)).2 n hn ho
  have e2 : getI (subL (clF cs a n) (n * 7 + 33) 7) 2 = sG (clF cs a n) n := by rw [sub_get' (by omega)]; rfl
  simp only [clF, clStep, ho, Bool.true_and, e0, e2, Int.toNat_natCast]
theorem dgYC (G : Nat → List AV) (B : Nat) : DGood (⟨Try.prog, G, B⟩ : Ctx) (Dr Try.prog [26, 28] [] [] [] (yC (isRc (rcC 0))) 0) [] := dgoodr (mix G B) (by kernel_rfl) .nil .nil .none (yC_ok G B)
def IC (G : Nat → List AV) (cs : List AV) (a b : Int) (j : Nat) (vs : List AV) (H : Hp) : Prop := ∃ n : Nat, n ≤ 32 ∧ j = 32 - n ∧ vs = [.yld 5, .ptr (.rw 4) 0, .int .i64 (n : Int)] ∧ H = vHp G (HCd (.var 8 (clF cs a n)) (.var 20 a) (.var 21 b) (.var 24 (rcC 0)))
theorem c_loop (G : Nat → List AV) (B : Nat) (cs : List AV) (hs : okS cs = true) (hN : okN cs) (a b : Int) :
    AWp (⟨Try.prog, G, B⟩ : Ctx) 6 (.loop (loopN Try.f46 0)) (fl 22 [0, 1, 4] [.yld 5, .ptr (.rw 4) 0, .int .i64 0]) (vHp G (HCd (.var 8 cs) (.var 20 a) (.var 21 b) (.var 24 (rcC 0))))
      (lv 22 [0, 1, 4] fun e vs H => e = .exit 0 ∧ wk [.undef, .undef, .undef] vs ∧ H = vHp G (HCd (.var 8 (clF cs a 32)) (.var 20 a) (.var 21 b) (.var 24 (rcC 0)))) := by
  refine aloop_lv (IC G cs a b) 32 ⟨0, by omega, rfl, rfl, rfl⟩ ?_
  rintro j vs H ⟨n, hn, rfl, rfl, rfl⟩
  refine dloop_ok (C := (⟨Try.prog, G, B⟩ : Ctx)) (dgYC G B) (fuel := 300) (n0 := 60) (m := 6) (c := loopN Try.f46 0) (vs := [.yld 5, .ptr (.rw 4) (.lit 0), .int .i64 (.var 6 (n : Int))]) (H := (HCd (.var 8 (clF cs a n)) (.var 20 a) (.var 21 b) (.var 24 (rcC 0)))) (by simp [HCd]) ?_
  rw [c_it]
  obtain ⟨ho1, ho2⟩ := clF_ok hs hN a n hn
  have hl := okS_len ho1
  have nx : n < 32 → ∀ H', H' = vHp G (HCd (.var 8 (clF cs a (n + 1))) (.var 20 a) (.var 21 b) (.var 24 (rcC 0))) → ∃ k', k' < 32 - n ∧ (IC G cs a b k' [.yld 5, .ptr (.rw 4) 0, .int .i64 (IntKind.wrap .i64 ((n : Int) + 1))] H' ∨ ∃ vs'' H'', IC G cs a b k' vs'' H'' ∧ View 6 vs'' H'' [.yld 5, .ptr (.rw 4) 0, .int .i64 (IntKind.wrap .i64 ((n : Int) + 1))] H') := fun h H' e =>
    ⟨32 - (n + 1), by omega, .inl ⟨n + 1, by omega, rfl, by rw [i64_in (by omega)]; rfl, e⟩⟩
  refine ⟨fun h => ⟨okS_0 ho1, fun _ => ⟨fun h0 => ⟨h, decide_eq_true (by omega), h, ?_, fun ho => ⟨decide_eq_true (by omega), h, leB_iff.2 ?_, isRc_iff.2 rfl, ?_, ho1, ?_, ?_⟩, fun ho => ?_⟩, fun h0 => ?_⟩, fun h0 => ?_⟩, fun h => ⟨rfl, by simp [wk], ?_⟩⟩
  · have := of_decide_eq_true h
    rw [Int.toNat_natCast]; exact okS_open ho1 (by omega)
  · have := of_decide_eq_true h
    rw [Int.toNat_natCast]; omega
  · have := of_decide_eq_true h
    rw [Int.toNat_natCast]; exact sub_ok7 ho1 (by omega)
  · have h32 := of_decide_eq_true h
    rw [Int.toNat_natCast] at ho ⊢
    have e0 : getI (subL (clF cs a n) (n * 7 + 33) 7) 0 = (n : Int) := by
      rw [sub_get' (by omega)]
      exact ho2 n (by omega) ho
    show (decide (0 ≤ getI (subL (clF cs a n) (n * 7 + 33) 7) 0) && decide (getI (subL (clF cs a n) (n * 7 + 33) 7) 0 < 32)) = true
    rw [e0, decide_eq_true (by omega), decide_eq_true (by omega)]; rfl
  · have h32 := of_decide_eq_true h
    rw [Int.toNat_natCast] at ho ⊢
    refine nx (by omega) _ ?_
    rw [clF_step hs hN a (by omega) ho]; rfl
  · have h32 := of_decide_eq_true h
    rw [Int.toNat_natCast] at ho
    refine nx (by omega) _ ?_
    have e : clF cs a (n + 1) = clF cs a n := by simp only [clF, show sO (clF cs a n) n = false from ho, Bool.false_and, Bool.false_eq_true, if_false]
    rw [e]; rfl
  · exact absurd (of_decide_eq_false h0) (by omega)
  · rw [okS_made ho1] at h0; cases h0
  · have : n = 32 := by have := of_decide_eq_false h; omega
    subst this; rfl
def okNU : List AV → Bool := fun ys => match ys with
  | [.agg cs] => okS cs && @decide (okN cs) (by unfold okN; infer_instance)
  | _ => false
def clFU : List AV → List AV := fun ys => match ys with
  | [.agg cs, .int _ a] => clF cs a 32
  | _ => []
def iC (rq : List AV → Bool) : DL := ⟨0, 22, [0, 1, 4], fun vs H => match vs, H with
  | [.yld 5, .ptr (.rw 4) (.lit 0), .int .i64 (.lit 0)], [some ⟨1, l⟩, some ⟨1, .of [.ptr (.rw 0) (.lit 0)]⟩, some ⟨1, .of [.int .i64 a]⟩, some ⟨1, .of [.int .i64 b]⟩, some ⟨1, .of [.ptr (.rw 0) (.lit 0)]⟩, some ⟨4294967291, rc⟩] =>
    some (.chk (.uf 1400 rq [.agg rc]) (.chk (.uf 1435 okNU [.agg l]) (.one (.exit 0) [.undef, .undef, .undef] (HCd (.uf 1436 clFU [.agg l, .int .i64 a]) a b rc))))
  | _, _ => none⟩
theorem okNU_iff {cs : List AV} : okNU [.agg cs] = true ↔ okS cs = true ∧ okN cs := by simp only [okNU, Bool.and_eq_true, decide_eq_true_eq]
theorem iC_ok (G : Nat → List AV) (B : Nat) : DLoopOk (⟨Try.prog, G, B⟩ : Ctx) 6 (loopN Try.f46 0) (iC (isRc (rcC 0))) := by
  refine .of fun vs H o ho n Q hQ => ?_
  simp only [iC] at ho
  split at ho
  · rename_i l a b rc
    simp only [Option.some.injEq] at ho
    subst ho
    obtain ⟨h1, h2, h3⟩ := hQ
    simp only [vB, vVs, vV] at h1 h2
    have e1 := isRc_iff.1 h1
    obtain ⟨g1, g2⟩ := okNU_iff.1 h2
    simp only [iC, vVs, vV, vR, vN, vI, vB, vHp, List.map_cons, List.map_nil, Option.map_some, vBlk, vL]
    have key := c_loop G B (vL G l) g1 g2 (vI G a) (vI G b)
    simp only [HCd, vVs, vV, vR, vN, vI, vB, vHp, List.map_cons, List.map_nil, Option.map_some, vBlk, vL, ← e1] at key
    refine key.lmono ?_
    rintro e vs'' H'' ⟨rfl, g2, rfl⟩
    refine .inl ⟨_, g2, ?_⟩
    simp only [lHolds, HCd, clFU, vVs, vV, vR, vN, vI, vB, vL, vHp, List.map_cons, List.map_nil, Option.map_some, vBlk] at h3
    exact h3
  · simp at ho
theorem c_c46 (G : Nat → List AV) (rq : List AV → Bool) (cs rc : List AV) (a b : Int) (Q : Ex → List AV → Hp → Prop) (R : AV → Hp → Prop) : vT G Q R (dcall (Dr Try.prog [] [] [iC rq] [] noY 6) 100 60 Try.f46 [.yld 5, .ptr (.rw 4) (.lit 0)] (HCd (.var 8 cs) (.var 20 a) (.var 21 b) (.var 24 rc)) 6) = (
    rq [.agg rc] = true ∧
    okNU [.agg cs] = true ∧
    R (.tup []) [some ⟨1, (clFU [.agg cs, .int .i64 (a)])⟩, some ⟨1, ([.ptr (.rw 0) (0)] : List AV)⟩, some ⟨1, ([.int .i64 (a)] : List AV)⟩, some ⟨1, ([.int .i64 (b)] : List AV)⟩, some ⟨1, ([.ptr (.rw 0) (0)] : List AV)⟩, some ⟨4294967291, rc⟩]) := by kernel_rfl
theorem dgc46 (G : Nat → List AV) (B : Nat) : DGood (⟨Try.prog, G, B⟩ : Ctx) (Dr Try.prog [] [] [iC (isRc (rcC 0))] [] noY 6) (loopsOf (bodyOf Try.f46)) :=
  dgoodr (mix G B) (by kernel_rfl) .nil (.cast (.cons (i := 0) (by kernel_rfl) rfl (iC_ok G B) .nil) (by kernel_rfl)) .none noY_ok
def HC5 (cs : List AV) (a b : Int) : DHp := [some ⟨1, .var 8 cs⟩, some ⟨1, .of [.ptr (.rw 0) (.lit 0)]⟩, some ⟨1, .of [.int .i64 (.var 20 a)]⟩, some ⟨1, .of [.int .i64 (.var 21 b)]⟩, some ⟨1, .of [.ptr (.rw 0) (.lit 0)]⟩]
theorem HC5_b (G : Nat → List AV) {cs : List AV} (hs : okS cs = true) (a b : Int) : hpB 5 (vHp G (HC5 cs a b)) = true := by
  simp only [HC5, vHp, List.map_cons, List.map_nil, Option.map_some, vBlk, vL, vVs, vV, vR, vN, vI, vB, hpB, okS_flat hs, bnds, bnd, Bool.and_self, Bool.and_true]
  rfl
theorem c46 (G : Nat → List AV) (B : Nat) (cs : List AV) (hs : okS cs = true) (hN : okN cs) (a b : Int) : ACalls (⟨Try.prog, G, B⟩ : Ctx) 46 [.yld 5, .ptr (.rw 4) 0] (vHp G (HC5 cs a b) ++ [some ⟨4294967291, rcC 0⟩]) fun v H => v = .tup [] ∧ H = vHp G (HC5 (clF cs a 32) a b) ++ [some ⟨4294967291, rcC 0⟩] := by
  have := dcall_ok (C := (⟨Try.prog, G, B⟩ : Ctx)) (fuel := 100) (n0 := 60) (f := 46) (fn := Try.f46) (args := [.yld 5, .ptr (.rw 4) (.lit 0)]) (H := (HCd (.var 8 cs) (.var 20 a) (.var 21 b) (.var 24 (rcC 0)))) (keep := 6)
    (R := fun v H => v = .tup [] ∧ H = vHp G (HC5 (clF cs a 32) a b) ++ [some ⟨4294967291, rcC 0⟩]) (dgc46 G B) (by kernel_rfl) (by kernel_rfl) (by kernel_rfl) (by
    have := c_c46 G (isRc (rcC 0)) cs (rcC 0) a b (fun _ _ _ => False) (fun v H => v = .tup [] ∧ H = vHp G (HC5 (clF cs a 32) a b) ++ [some ⟨4294967291, rcC 0⟩])
    exact Eq.mpr this ⟨isRc_iff.2 rfl, okNU_iff.2 ⟨hs, hN⟩, rfl, rfl⟩)
  refine ACalls.keep (k := 6) ?_ (by simp [HC5, vHp]) (HC_b G (clF_ok hs hN a 32 (Nat.le_refl _)).1 _ _) rfl (by simp)
  exact this
theorem c_rng (G : Nat → List AV) (B : Nat) (cs : List AV) (hs : okS cs = true) (hN : okN cs) (a b : Int) : AWp (⟨Try.prog, G, B⟩ : Ctx) 5 (loopN Try.f24 0) F0c (vHp G (HC5 cs a b))
    (lv 39 [2, 3, 26] fun e vs H => e = .normal ∧ vs = [.ptr (.rw 1) 0, .ptr (.rw 2) 0, .func 46 [.ptr (.rw 4) 0]] ∧ H = vHp G (HC5 (clF cs a 32) a b) ++ [none]) := by
  rw [N24_eq]
  refine AWp.rng (f := 46) (cap := [.ptr (.rw 4) 0]) (by simp [HC5, vHp]) (by kernel_rfl) ?_
  refine (c46 G B cs hs hN a b).monoK ?_
  rintro v H ⟨rfl, rfl⟩
  exact ⟨rfl, rfl, rfl⟩
def cR : DL := ⟨27, 39, [2, 3, 26], fun vs H => match vs, H with
  | [.ptr (.rw 1) (.lit 0), .ptr (.rw 2) (.lit 0), .func 46 [.ptr (.rw 4) (.lit 0)]], [some ⟨1, l⟩, some ⟨1, .of [.ptr (.rw 0) (.lit 0)]⟩, some ⟨1, .of [.int .i64 a]⟩, some ⟨1, .of [.int .i64 b]⟩, some ⟨1, .of [.ptr (.rw 0) (.lit 0)]⟩] =>
    some (.chk (.uf 1435 okNU [.agg l]) (.one .normal [.ptr (.rw 1) (.lit 0), .ptr (.rw 2) (.lit 0), .func 46 [.ptr (.rw 4) (.lit 0)]] [some ⟨1, .uf 1436 clFU [.agg l, .int .i64 a]⟩, some ⟨1, .of [.ptr (.rw 0) (.lit 0)]⟩, some ⟨1, .of [.int .i64 a]⟩, some ⟨1, .of [.int .i64 b]⟩, some ⟨1, .of [.ptr (.rw 0) (.lit 0)]⟩]))
  | _, _ => none⟩
theorem cR_ok (G : Nat → List AV) (B : Nat) : DCodeOk (⟨Try.prog, G, B⟩ : Ctx) 1 (loopN Try.f24 0) cR := by
  intro m vs H o hm ho n Q hQ
  simp only [cR] at ho
  split at ho
  · rename_i l a b
    simp only [Option.some.injEq] at ho
    subst ho
    obtain ⟨h1, h2⟩ := hQ
    simp only [vB, vVs, vV] at h1
    obtain ⟨g1, g2⟩ := okNU_iff.1 h1
    have key := c_rng G B (vL G l) g1 g2 (vI G a) (vI G b)
    have key := key.pin (m' := m) (by omega)
    simp only [cR, HC5, vVs, vV, vR, vN, vI, vB, vHp, List.map_cons, List.map_nil, Option.map_some, vBlk, vL] at key ⊢
    refine key.lmono ?_
    rintro e vs'' H'' ⟨rfl, rfl, rfl⟩
    simp only [clFU, vVs, vV, vR, vN, vI, vB, vL, vHp, List.map_cons, List.map_nil, Option.map_some, vBlk] at h2
    refine .inr ⟨_, _, ?_, h2⟩
    refine View.same (by simp; omega) ?_ ⟨⟨rfl, rfl⟩, ⟨rfl, rfl⟩, ⟨rfl, rfl⟩, trivial⟩
    have := HC5_b G (clF_ok g1 g2 (vI G a) 32 (Nat.le_refl _)).1 (vI G a) (vI G b)
    simp only [HC5, vVs, vV, vR, vN, vI, vB, vHp, List.map_cons, List.map_nil, Option.map_some, vBlk, vL] at this
    exact this
  · simp at ho
theorem dg24 (G : Nat → List AV) (B : Nat) : DGood (⟨Try.prog, G, B⟩ : Ctx) (Dr Try.prog [43] [(27, askS)] [] [cR] noY 1) (loopsOf (bodyOf Try.f24)) := by
  rw [show loopsOf (bodyOf Try.f24) = [loopN Try.f24 0] by kernel_rfl]
  exact dgoodr (mix G B) (by kernel_rfl) (.cons (askS_ok G B) .nil) (.skip (by kernel_rfl) .nil) (.cons (i := 27) (by kernel_rfl) rfl (cR_ok G B) .nil) noY_ok
theorem t24 (G : Nat → List AV) (cs : List AV) (a : Int) (Q : Ex → List AV → Hp → Prop) (R : AV → Hp → Prop) : vT G Q R (dcall (Dr Try.prog [43] [(27, askS)] [] [cR] noY 1) 300 60 Try.f24 [.ptr (.rw 0) (.lit 0), .int .i64 (.var 20 a)] [some ⟨1, .var 8 cs⟩] 1) = (
    okSU [.agg cs] = true ∧
    (isOU [.agg cs, .int .i64 (a)] = true →
      decide ((0 : Int) ≤ a) = true ∧
      decide ((a : Int) < 32) = true ∧
      leB (Int.toNat (a) + 2) (List.length cs) = true ∧
      decide ((0 : Int) ≤ a) = true ∧
      decide ((a : Int) < 32) = true ∧
      leB ((Int.toNat (a)) * 7 + 40) (List.length (setPart cs (Int.toNat (a) + 1) (.bool (false)))) = true ∧
      okNU [.agg (setPart (setPart cs (Int.toNat (a) + 1) (.bool (false))) ((Int.toNat (a)) * 7 + 33) (.agg ([.int .i64 (0), .int .i64 (0), .int .i64 (0), .int .i64 (0), .int .i64 (0), .int .i64 (0), .int .i64 (0)] : List AV)))] = true ∧
      R (.int .i64 (0)) [some ⟨1, (clFU [.agg (setPart (setPart cs (Int.toNat (a) + 1) (.bool (false))) ((Int.toNat (a)) * 7 + 33) (.agg ([.int .i64 (0), .int .i64 (0), .int .i64 (0), .int .i64 (0), .int .i64 (0), .int .i64 (0), .int .i64 (0)] : List AV))), .int .i64 (a)])⟩]) ∧
    (isOU [.agg cs, .int .i64 (a)] = false →
      R (.int .i64 (6)) [some ⟨1, cs⟩])) := by kernel_rfl
def cls (cs : List AV) (n : Nat) : List AV := setPart (cs.set (n + 1) (.bool false)) (n * 7 + 33) (.agg zero7)
def closeR (cs : List AV) (a : Int) : List AV := if isO cs a then clF (cls cs a.toNat) a 32 else cs
def closeE (cs : List AV) (a : Int) : Int := if isO cs a then 0 else 6
theorem cls_get {cs : List AV} (hs : okS cs = true) {n : Nat} (hn : n < 32) (i : Nat) : (cls cs n)[i]? = if n * 7 + 33 ≤ i ∧ i < n * 7 + 40 then some (.int .i64 0) else (cs.set (n + 1) (.bool false))[i]? := by
  have hl := okS_len hs
  unfold cls
  rw [get_setA (by simp [zero7, hl]; omega)]
  have e7 : zero7.length = 7 := rfl
  rw [e7, show n * 7 + 33 + 7 = n * 7 + 40 by omega]
  by_cases hc : n * 7 + 33 ≤ i ∧ i < n * 7 + 40
  · rw [if_pos hc, if_pos hc]
    obtain ⟨d, hd, hd7⟩ : ∃ d, i - (n * 7 + 33) = d ∧ d < 7 := ⟨_, rfl, by omega⟩
    rw [hd]
    match d, hd7 with
    | 0, _ | 1, _ | 2, _ | 3, _ | 4, _ | 5, _ | 6, _ => rfl
  · rw [if_neg hc, if_neg hc]
theorem cls_I {cs : List AV} (hs : okS cs = true) {n : Nat} (hn : n < 32) {o : Nat} (ho : 33 ≤ o) : getI (cls cs n) o = if n * 7 + 33 ≤ o ∧ o < n * 7 + 40 then 0 else getI cs o := by
  have e := getI_b (cs := cs) (i := o) (b := false) (j := n + 1) (by have := okS_len hs; omega) (by omega)
  rw [← e]
  unfold getI
  rw [cls_get hs hn]
  by_cases hc : n * 7 + 33 ≤ o ∧ o < n * 7 + 40
  · rw [if_pos hc, if_pos hc]
  · rw [if_neg hc, if_neg hc]
theorem cls_O {cs : List AV} (hs : okS cs = true) {n : Nat} (hn : n < 32) {i : Nat} (hi : i < 32) : sO (cls cs n) i = if i = n then false else sO cs i := by
  have e : getB (cls cs n) (i + 1) = getB (cs.set (n + 1) (.bool false)) (i + 1) := by
    unfold getB
    rw [cls_get hs hn, if_neg (by omega)]
  unfold sO
  rw [e, getB_set (by have := okS_len hs; omega)]
  by_cases hc : i = n
  · rw [if_pos (by omega), if_pos hc]
  · rw [if_neg (by omega), if_neg hc]
theorem cls_ok {cs : List AV} (hs : okS cs = true) {n : Nat} (hn : n < 32) : okS (cls cs n) = true := by
  have h1 := okS_setB hs hn false
  have hl := okS_len hs
  have hg := cls_get hs hn
  have out : ∀ i, ¬ (n * 7 + 33 ≤ i ∧ i < n * 7 + 40) → (cls cs n)[i]? = (cs.set (n + 1) (.bool false))[i]? := fun i hi => by rw [hg i, if_neg hi]
  have hlen : (cls cs n).length = 258 := by
    unfold cls
    rw [length_setPart _ _ _ (by simp [sizeOfAV, zero7, hl]; omega)]
    simp [hl]
  refine okS_iff.2 ⟨hlen, ?_, ?_, fun j hj => ?_, fun k hk => ?_, ?_⟩
  · have := okS_0 h1; unfold isB at *; rw [out 0 (by omega)]; exact this
  · have := okS_made h1; unfold getB at *; rw [out 0 (by omega)]; exact this
  · have := okS_open h1 hj; unfold isB at *; rw [out _ (by omega)]; exact this
  · by_cases hi : n * 7 + 33 ≤ k + 33 ∧ k + 33 < n * 7 + 40
    · unfold isI
      rw [hg, if_pos hi]; rfl
    · have := okS_fld h1 hk; unfold isI at *; rw [out _ hi]; exact this
  · have := okS_tick h1; unfold isI at *; rw [out _ (by omega)]; exact this
theorem cls_N {cs : List AV} (hs : okS cs = true) (hN : okN cs) {n : Nat} (hn : n < 32) : okN (cls cs n) := by
  intro i hi ho
  rw [cls_O hs hn hi] at ho
  split at ho
  · cases ho
  · rename_i hc
    unfold sN
    rw [cls_I hs hn (by omega), if_neg (by omega)]
    exact hN i hi ho
theorem clF_G {cs : List AV} (hs : okS cs = true) (hN : okN cs) (a : Int) (h : ∀ i, i < 32 → sG cs i < 32) : ∀ n, n ≤ 32 → ∀ i, i < 32 → sG (clF cs a n) i < 32
  | 0, _ => h
  | n + 1, hn => fun i hi => by
    have h1 := (clF_ok hs hN a n (by omega)).1
    have hl := okS_len h1
    have ih := clF_G hs hN a h n (by omega) i hi
    simp only [clF]
    split
    · unfold sG
      rw [getI_s (by omega)]
      split
      · omega
      · exact ih
    · exact ih
/-- how a table stands -/
def okC (cs : List AV) : Prop := okT cs = true ∧ okN cs
theorem okC_close {cs : List AV} (h : okC cs) (a : Int) : okC (closeR cs a) := by
  unfold closeR
  split
  · rename_i ho
    obtain ⟨a0, a1, _⟩ := isO_spec ho
    obtain ⟨hs, hg⟩ := okT_iff.1 h.1
    have hn : a.toNat < 32 := by omega
    have k1 := cls_ok hs hn
    have k2 := cls_N hs h.2 hn
    refine ⟨okT_iff.2 ⟨(clF_ok k1 k2 a 32 (Nat.le_refl _)).1, clF_G k1 k2 a (fun i hi => ?_) 32 (Nat.le_refl _)⟩, (clF_ok k1 k2 a 32 (Nat.le_refl _)).2⟩
    unfold sG
    rw [cls_I hs hn (by omega)]
    split
    · omega
    · exact hg i hi
  · exact h
theorem okC_open {cs : List AV} (h : okC cs) (a : Int) : okC (openR cs a) := by
  obtain ⟨h1, h2⟩ := h
  have hs := (okT_iff.1 h1).1
  refine ⟨okT_openR h1 a, fun i hi ho => ?_⟩
  rw [openR_O hs a i hi] at ho
  have e : sN (openR cs a) i = if opens cs a = true ∧ i = oN cs then getI (slotA (oN cs) a (tk cs)) 0 else sN cs i := openR_f hs a (j := 0) (by omega) hi
  rw [e]
  split at ho
  · rename_i hc
    rw [if_pos hc, hc.2]; rfl
  · rename_i hc
    rw [if_neg hc]; exact h2 i hi ho
theorem okC_give {cs : List AV} (h : okC cs) (a b : Int) : okC (giveR cs a b) := by
  obtain ⟨h1, h2⟩ := h
  have hs := (okT_iff.1 h1).1
  refine ⟨okT_giveR h1 a b, fun i hi ho => ?_⟩
  rw [giveR_O hs a b i hi] at ho
  have e : sN (giveR cs a b) i = sN cs i := by
    unfold sN
    rw [giveR_I hs, if_neg (by omega)]
  rw [e]; exact h2 i hi ho
theorem okC_pick {cs : List AV} (h : okC cs) (a : Int) : okC (pickR cs a) := by
  cases ha : isO cs a with
  | false => rw [pickR_not ha]; exact h
  | true =>
    refine ⟨okT_pickR h.1 a, fun i hi ho => ?_⟩
    rw [pickR_O h.1 ha i hi] at ho
    rw [pickR_N h.1 ha i hi]; exact h.2 i hi ho
def okCU : List AV → Bool := fun ys => match ys with
  | [.agg cs] => okT cs && @decide (okN cs) (by unfold okN; infer_instance)
  | _ => false
theorem okCU_iff {cs : List AV} : okCU [.agg cs] = true ↔ okC cs := by simp only [okCU, okC, Bool.and_eq_true, decide_eq_true_eq]
def closeRU : List AV → List AV := fun ys => match ys with
  | [.agg cs, .int _ a] => closeR cs a
  | _ => []
def closeEU : List AV → Int := fun ys => match ys with
  | [.agg cs, .int _ a] => closeE cs a
  | _ => 0
theorem p_close (G : Nat → List AV) (B : Nat) (cs : List AV) (a : Int) (h : okC cs) : ACalls (⟨Try.prog, G, B⟩ : Ctx) 24 [.ptr (.rw 0) 0, .int .i64 a] [some ⟨1, cs⟩] fun v H => v = .int .i64 (closeE cs a) ∧ H.take 1 = [some ⟨1, closeR cs a⟩] := by
  have hs := (okT_iff.1 h.1).1
  have hl := okS_len hs
  have := dcall_ok (C := (⟨Try.prog, G, B⟩ : Ctx)) (fuel := 300) (n0 := 60) (f := 24) (fn := Try.f24) (args := [.ptr (.rw 0) (.lit 0), .int .i64 (.var 20 a)]) (H := [some ⟨1, .var 8 cs⟩]) (keep := 1)
    (R := fun v H => v = .int .i64 (closeE cs a) ∧ H = [some ⟨1, closeR cs a⟩]) (dg24 G B) (by kernel_rfl) (by kernel_rfl) (by kernel_rfl) (by
    rw [t24]
    have ea : isOU [.agg cs, .int .i64 a] = isO cs a := rfl
    rw [ea]
    refine ⟨hs, fun ho => ?_, fun ho => ?_⟩
    · obtain ⟨a0, a1, _⟩ := isO_spec ho
      have e1 : setPart cs (a.toNat + 1) (.bool false) = cs.set (a.toNat + 1) (.bool false) := rfl
      have e2 : setPart (cs.set (a.toNat + 1) (.bool false)) (a.toNat * 7 + 33) (.agg [.int .i64 0, .int .i64 0, .int .i64 0, .int .i64 0, .int .i64 0, .int .i64 0, .int .i64 0]) = cls cs a.toNat := rfl
      rw [e1, e2]
      refine ⟨decide_eq_true a0, decide_eq_true a1, leB_iff.2 (by omega), decide_eq_true a0, decide_eq_true a1, leB_iff.2 (by rw [List.length_set]; omega), okNU_iff.2 ⟨cls_ok hs (by omega), cls_N hs h.2 (by omega)⟩, ?_⟩
      simp only [closeE, closeR, ho, if_true, clFU]
      exact ⟨trivial, trivial⟩
    · simp [closeE, closeR, ho])
  simp only [vVs, vV, vR, vN, vI, vHp, List.map_cons, List.map_nil, Option.map_some, vBlk, vL] at this
  exact this
def closeS : DSum := fun args H => match args with
  | [.ptr (.rw i) (.lit 0), .int .i64 a] => match H[i]? with
    | some (some ⟨1, l⟩) => some (.chk (.uf 1437 okCU [.agg l]) (.one (.int .i64 (.uf 1439 closeEU [.agg l, .int .i64 a])) [.set i ⟨1, .uf 1438 closeRU [.agg l, .int .i64 a]⟩]))
    | _ => none
  | _ => none
theorem closeS_ok (G : Nat → List AV) (B : Nat) : DSumOk (⟨Try.prog, G, B⟩ : Ctx) 24 closeS := by
  intro args H o ho
  unfold closeS at ho
  split at ho
  · rename_i i a
    split at ho
    · rename_i l hi
      simp only [Option.some.injEq] at ho
      subst ho
      intro h1
      simp only [vB, vVs, vV] at h1
      have h1 := okCU_iff.1 h1
      have key := p_close G B (vL G l) (vI G a) h1
      have er : vL G (.uf 1438 closeRU [.agg l, .int .i64 a]) = closeR (vL G l) (vI G a) := by simp only [vL, vVs, vV, closeRU]
      refine DOut.set1 (C := (⟨Try.prog, G, B⟩ : Ctx)) hi ?_ (okS_flat (okT_iff.1 h1.1).1 0) (by rw [er]; exact okS_flat (okT_iff.1 (okC_close h1 _).1).1 0) (by simp [vVs, vV, bnds, bnd]) (by simp [vV, bnd]) (by simp [vV])
      rw [er]
      simp only [vVs, vV, vI, closeEU]
      exact key
    · simp at ho
  · simp at ho
end Go.Am
