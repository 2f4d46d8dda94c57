/-
  Slices: the program's Of, by the loop over the open slots.
-/
import Derived.Test.YtfalglcagngbnaaSlY3
namespace Go.Am
open Go.Proofs
set_option maxRecDepth 100000
def accU : List AV → Bool := fun ys => match ys with
  | [.agg xs, .int _ a] => getI xs 1 == a
  | _ => false
def snocU : List AV → List AV := fun ys => match ys with
  | [.agg l, .agg xs] => l ++ [.int .i64 (getI xs 0)]
  | _ => []
def lenOkU : List AV → Bool := fun ys => match ys with
  | [.agg l, .int _ c] => decide (c = (l.length : Int)) && (decide (c ≤ 1000) && bnds 0 l)
  | _ => false
def HOd (l : EL) (a : EI) (c : EN) (x rc : EL) : DHp := [some ⟨1, l⟩, some ⟨1, .of [.int .i64 a]⟩, some ⟨1, .of [.slice true (.rw 5) (.lit 0) c]⟩, some ⟨1, .of [.ptr (.rw 0) (.lit 0)]⟩, some ⟨4294967291, rc⟩, some ⟨1, x⟩]
def yO (rq : List AV → Bool) : DYsum := fun i args H => match Nat.beq i 4 with
  | true => match args, H with
    | [.agg x], [some ⟨1, l⟩, some ⟨1, .of [.int .i64 a]⟩, some ⟨1, .of [.slice true (.rw 5) (.lit 0) c]⟩, some ⟨1, .of [.ptr (.rw 0) (.lit 0)]⟩, some ⟨4294967291, rc⟩, some ⟨1, ys⟩] =>
      some (.chk (.uf 1400 rq [.agg rc]) (.chk (.uf 1401 ok7U [.agg x]) (.chk (.uf 1300 okSU [.agg l]) (.chk (.uf 1520 lenOkU [.agg ys, .int .i64 (.ofN c)]) (.tst (.uf 1521 accU [.agg x, .int .i64 a]) (.one (.bool (.lit true)) [.app 5 ⟨1, .uf 1522 snocU [.agg ys, .agg x]⟩, .set 2 ⟨1, .of [.slice true (.rw 6) (.lit 0) (.add c (.lit 1))]⟩]) (.one (.bool (.lit true)) []))))))
    | _, _ => none
  | false => none
theorem o_as (G : Nat → List AV) (cs rc ys : List AV) (a : Int) (c : Nat) (x0 x1 x2 x3 x4 x5 x6 : Int) (Q : Ex → List AV → Hp → Prop) (R : AV → Hp → Prop) : vT G Q R (dloop (Dc Try.prog [] [] [] 0) 200 60 6 (rgA (loopN Try.f39 0)) 20 [3, 5, 8, 9, 6] [.ptr (.rw 1) (.lit 0), .ptr (.rw 2) (.lit 0), .func 46 [.ptr (.rw 3) (.lit 0)], .agg (.of (E7 (.var 11 x0) (.var 12 x1) (.var 13 x2) (.var 14 x3) (.var 15 x4) (.var 16 x5) (.var 17 x6))), .undef] (HOd (.var 8 cs) (.var 20 a) (.var 21 c) (.var 22 ys) (.var 24 rc))) = (
    Q .normal [.ptr (.rw 1) (0), .ptr (.rw 2) (0), .func 46 [.ptr (.rw 3) (0)], .agg ([.int .i64 (x0), .int .i64 (x1), .int .i64 (x2), .int .i64 (x3), .int .i64 (x4), .int .i64 (x5), .int .i64 (x6)] : List AV), .ptr (.rw 6) (0)] [some ⟨1, cs⟩, some ⟨1, ([.int .i64 (a)] : List AV)⟩, some ⟨1, ([.slice true (.rw 5) (0) (c)] : List AV)⟩, some ⟨1, ([.ptr (.rw 0) (0)] : List AV)⟩, some ⟨4294967291, rc⟩, some ⟨1, ys⟩, some ⟨1, ([.int .i64 (x0), .int .i64 (x1), .int .i64 (x2), .int .i64 (x3), .int .i64 (x4), .int .i64 (x5), .int .i64 (x6)] : List AV)⟩]) := by kernel_rfl
theorem o_bd (G : Nat → List AV) (cs rc ys : List AV) (a : Int) (c : Nat) (x0 x1 x2 x3 x4 x5 x6 : Int) (Q : Ex → List AV → Hp → Prop) (R : AV → Hp → Prop) : vT G Q R (dloop (Dc Try.prog [] [] [] 0) 300 60 6 (rgB (loopN Try.f39 0)) 20 [3, 5, 8, 9, 6] [.ptr (.rw 1) (.lit 0), .ptr (.rw 2) (.lit 0), .func 46 [.ptr (.rw 3) (.lit 0)], .agg (.of (E7 (.var 11 x0) (.var 12 x1) (.var 13 x2) (.var 14 x3) (.var 15 x4) (.var 16 x5) (.var 17 x6))), .ptr (.rw 6) (.lit 0)] ((HOd (.var 8 cs) (.var 20 a) (.var 21 c) (.var 22 ys) (.var 24 rc)) ++ [some ⟨1, (.of (E7 (.var 11 x0) (.var 12 x1) (.var 13 x2) (.var 14 x3) (.var 15 x4) (.var 16 x5) (.var 17 x6)))⟩])) = (
    (((x1 : Int) == a) = true →
      leB ((c + 1) * 8) (140737488355328) = true ∧
      Nat.beq (List.length ys) (c) = true ∧
      Q .normal [.ptr (.rw 1) (0), .ptr (.rw 2) (0), .func 46 [.ptr (.rw 3) (0)], .agg ([.int .i64 (x0), .int .i64 (x1), .int .i64 (x2), .int .i64 (x3), .int .i64 (x4), .int .i64 (x5), .int .i64 (x6)] : List AV), .ptr (.rw 6) (0)] [some ⟨1, cs⟩, some ⟨1, ([.int .i64 (a)] : List AV)⟩, some ⟨1, ([.slice true (.rw 8) (0) (c + 1)] : List AV)⟩, some ⟨1, ([.ptr (.rw 0) (0)] : List AV)⟩, some ⟨4294967291, rc⟩, none, some ⟨1, ([.int .i64 (x0), .int .i64 (x1), .int .i64 (x2), .int .i64 (x3), .int .i64 (x4), .int .i64 (x5), .int .i64 (x6)] : List AV)⟩, some ⟨1, ([.int .i64 (x0)] : List AV)⟩, some ⟨1, (ys ++ ([.int .i64 (x0)] : List AV))⟩]) ∧
    (((x1 : Int) == a) = false →
      Q .normal [.ptr (.rw 1) (0), .ptr (.rw 2) (0), .func 46 [.ptr (.rw 3) (0)], .agg ([.int .i64 (x0), .int .i64 (x1), .int .i64 (x2), .int .i64 (x3), .int .i64 (x4), .int .i64 (x5), .int .i64 (x6)] : List AV), .ptr (.rw 6) (0)] [some ⟨1, cs⟩, some ⟨1, ([.int .i64 (a)] : List AV)⟩, some ⟨1, ([.slice true (.rw 5) (0) (c)] : List AV)⟩, some ⟨1, ([.ptr (.rw 0) (0)] : List AV)⟩, some ⟨4294967291, rc⟩, some ⟨1, ys⟩, some ⟨1, ([.int .i64 (x0), .int .i64 (x1), .int .i64 (x2), .int .i64 (x3), .int .i64 (x4), .int .i64 (x5), .int .i64 (x6)] : List AV)⟩])) := by kernel_rfl
theorem o_it (G : Nat → List AV) (rq : List AV → Bool) (cs rc ys : List AV) (a n : Int) (c : Nat) (Q : Ex → List AV → Hp → Prop) (R : AV → Hp → Prop) : vT G Q R (dloop (Dr Try.prog [26, 28] [] [] [] (yO rq) 0) 300 60 5 (loopN Try.f46 0) 22 [0, 1, 4] [.yld 4, .ptr (.rw 3) (.lit 0), .int .i64 (.var 6 n)] (HOd (.var 8 cs) (.var 20 a) (.var 21 c) (.var 22 ys) (.var 24 rc))) = (
    (decide ((n : Int) < 32) = true →
      isB cs (0) = true ∧
      (getB cs (0) = true →
        (decide ((n : Int) ≥ 0) = true →
          decide ((n : Int) < 32) = true ∧
          decide ((0 : Int) ≤ n) = true ∧
          decide ((n : Int) < 32) = true ∧
          isB cs (Int.toNat (n) + 1) = true ∧
          (getB cs (Int.toNat (n) + 1) = true →
            decide ((0 : Int) ≤ n) = true ∧
            decide ((n : Int) < 32) = true ∧
            leB ((Int.toNat (n)) * 7 + 40) (List.length cs) = true ∧
            rq [.agg rc] = true ∧
            ok7U [.agg (subL cs ((Int.toNat (n)) * 7 + 33) (7))] = true ∧
            okSU [.agg cs] = true ∧
            lenOkU [.agg ys, .int .i64 (((c : Nat) : Int))] = true ∧
            (accU [.agg (subL cs ((Int.toNat (n)) * 7 + 33) (7)), .int .i64 (a)] = true →
              Q .normal [.yld 4, .ptr (.rw 3) (0), .int .i64 (IntKind.wrap .i64 (n + 1))] [some ⟨1, cs⟩, some ⟨1, ([.int .i64 (a)] : List AV)⟩, some ⟨1, ([.slice true (.rw 6) (0) (c + 1)] : List AV)⟩, some ⟨1, ([.ptr (.rw 0) (0)] : List AV)⟩, some ⟨4294967291, rc⟩, none, some ⟨1, (snocU [.agg ys, .agg (subL cs ((Int.toNat (n)) * 7 + 33) (7))])⟩]) ∧
            (accU [.agg (subL cs ((Int.toNat (n)) * 7 + 33) (7)), .int .i64 (a)] = false →
              Q .normal [.yld 4, .ptr (.rw 3) (0), .int .i64 (IntKind.wrap .i64 (n + 1))] [some ⟨1, cs⟩, some ⟨1, ([.int .i64 (a)] : List AV)⟩, some ⟨1, ([.slice true (.rw 5) (0) (c)] : List AV)⟩, some ⟨1, ([.ptr (.rw 0) (0)] : List AV)⟩, some ⟨4294967291, rc⟩, some ⟨1, ys⟩])) ∧
          (getB cs (Int.toNat (n) + 1) = false →
            Q .normal [.yld 4, .ptr (.rw 3) (0), .int .i64 (IntKind.wrap .i64 (n + 1))] [some ⟨1, cs⟩, some ⟨1, ([.int .i64 (a)] : List AV)⟩, some ⟨1, ([.slice true (.rw 5) (0) (c)] : List AV)⟩, some ⟨1, ([.ptr (.rw 0) (0)] : List AV)⟩, some ⟨4294967291, rc⟩, some ⟨1, ys⟩])) ∧
        (decide ((n : Int) ≥ 0) = false →
          Q .normal [.yld 4, .ptr (.rw 3) (0), .int .i64 (IntKind.wrap .i64 (n + 1))] [some ⟨1, cs⟩, some ⟨1, ([.int .i64 (a)] : List AV)⟩, some ⟨1, ([.slice true (.rw 5) (0) (c)] : List AV)⟩, some ⟨1, ([.ptr (.rw 0) (0)] : List AV)⟩, some ⟨4294967291, rc⟩, some ⟨1, ys⟩])) ∧
      (getB cs (0) = false →
        Q .normal [.yld 4, .ptr (.rw 3) (0), .int .i64 (IntKind.wrap .i64 (n + 1))] [some ⟨1, cs⟩, some ⟨1, ([.int .i64 (a)] : List AV)⟩, some ⟨1, ([.slice true (.rw 5) (0) (c)] : List AV)⟩, some ⟨1, ([.ptr (.rw 0) (0)] : List AV)⟩, some ⟨4294967291, rc⟩, some ⟨1, ys⟩])) ∧
    (decide ((n : Int) < 32) = false →
      Q (.exit 0) [.yld 4, .ptr (.rw 3) (0), .int .i64 (n)] [some ⟨1, cs⟩, some ⟨1, ([.int .i64 (a)] : List AV)⟩, some ⟨1, ([.slice true (.rw 5) (0) (c)] : List AV)⟩, some ⟨1, ([.ptr (.rw 0) (0)] : List AV)⟩, some ⟨4294967291, rc⟩, some ⟨1, ys⟩])) := by kernel_rfl
def F0o : Fr := fl 20 [3, 5, 8] [.ptr (.rw 1) 0, .ptr (.rw 2) 0, .func 46 [.ptr (.rw 3) 0]]
noncomputable def rcO (p : Nat) : List AV := rcA (loopN Try.f39 0) p F0o
theorem N39_eq : loopN Try.f39 0 = .rangeFunc (rgG (loopN Try.f39 0)) (rgP (loopN Try.f39 0)) (rgA (loopN Try.f39 0)) (rgB (loopN Try.f39 0)) := by kernel_rfl
theorem rcO_b : bnds 5 (rcO 0) = true := by kernel_rfl
theorem rcO_r1 : rens [0, 1, 2, 3, 4, 5, 8] (rcO 0) = rcO 0 := by kernel_rfl
theorem rcO_r2 : rens [0, 1, 2, 3, 4, 6] (rcO 0) = rcO 0 := by kernel_rfl
/-- behind a round in which a number was added -/
noncomputable def HOn (cs ys : List AV) (a : Int) (c : Nat) : Hp := [some ⟨1, cs⟩, some ⟨1, [.int .i64 a]⟩, some ⟨1, [.slice true (.rw 6) 0 (c + 1)]⟩, some ⟨1, [.ptr (.rw 0) 0]⟩, some ⟨4294967291, rcO 0⟩, none, some ⟨1, ys⟩]
theorem m_of {n : Nat} {l : List AV} (h : bnds 0 l = true) : bnds n l = true := bnds_mono (Nat.zero_le _) _ h
theorem rc_m {n : Nat} (h : 5 ≤ n) : bnds n (rcO 0) = true := bnds_mono h _ rcO_b
theorem HO_b (G : Nat → List AV) {cs ys : List AV} (hs : okS cs = true) (hy : bnds 0 ys = true) (a : Int) (c : Nat) : hpB 6 (vHp G (HOd (.var 8 cs) (.var 20 a) (.var 21 c) (.var 22 ys) (.var 24 (rcO 0)))) = true := by
  simp only [HOd, vHp, List.map_cons, List.map_nil, Option.map_some, vBlk, vL, vVs, vV, vR, vN, vI, vB, hpB, okS_flat hs, m_of hy, rc_m (by omega : 5 ≤ 6), bnds, bnd, Bool.and_self, Bool.and_true]
  rfl
theorem y_o (G : Nat → List AV) (B : Nat) (cs ys : List AV) (hs : okS cs = true) (c : Nat) (hc : c = ys.length) (hc' : c ≤ 1000) (hy : bnds 0 ys = true) (x0 x1 x2 x3 x4 x5 x6 : Int) (a : Int) : AYld (⟨Try.prog, G, B⟩ : Ctx) 4 [.agg (l7 x0 x1 x2 x3 x4 x5 x6)] (vHp G (HOd (.var 8 cs) (.var 20 a) (.var 21 c) (.var 22 ys) (.var 24 (rcO 0)))) fun v H' => v = .bool true ∧ ((x1 == a) = true → H' = HOn cs (ys ++ [.int .i64 x0]) a c) ∧ ((x1 == a) = false → H' = vHp G (HOd (.var 8 cs) (.var 20 a) (.var 21 c) (.var 22 ys) (.var 24 (rcO 0)))) := by
  refine AYld.dxv (C := (⟨Try.prog, G, B⟩ : Ctx)) (K := (Dc Try.prog [] [] [] 0)) (f1 := 200) (f2 := 300) (n1 := 60) (n2 := 60) (N := 20) (live := [3, 5, 8, 9, 6]) (i := 4) (e := 4294967291) (ps := rgP (loopN Try.f39 0)) (ac := rgA (loopN Try.f39 0)) (bd := rgB (loopN Try.f39 0)) (F0 := F0o)
    (vs := [.ptr (.rw 1) (.lit 0), .ptr (.rw 2) (.lit 0), .func 46 [.ptr (.rw 3) (.lit 0)], .agg (.of (E7 (.var 11 x0) (.var 12 x1) (.var 13 x2) (.var 14 x3) (.var 15 x4) (.var 16 x5) (.var 17 x6))), .undef]) (vs1 := [.ptr (.rw 1) (.lit 0), .ptr (.rw 2) (.lit 0), .func 46 [.ptr (.rw 3) (.lit 0)], .agg (.of (E7 (.var 11 x0) (.var 12 x1) (.var 13 x2) (.var 14 x3) (.var 15 x4) (.var 16 x5) (.var 17 x6))), .ptr (.rw 6) (.lit 0)])
    (H := (HOd (.var 8 cs) (.var 20 a) (.var 21 c) (.var 22 ys) (.var 24 (rcO 0)))) (H1 := (HOd (.var 8 cs) (.var 20 a) (.var 21 c) (.var 22 ys) (.var 24 (rcO 0))) ++ [some ⟨1, (.of (E7 (.var 11 x0) (.var 12 x1) (.var 13 x2) (.var 14 x3) (.var 15 x4) (.var 16 x5) (.var 17 x6)))⟩]) (H2 := (HOd (.var 8 cs) (.var 20 a) (.var 21 c) (.var 22 ys) (.var 24 (rcO 1))) ++ [some ⟨1, (.of (E7 (.var 11 x0) (.var 12 x1) (.var 13 x2) (.var 14 x3) (.var 15 x4) (.var 16 x5) (.var 17 x6)))⟩])
    (dgNo G B (by kernel_rfl) (by kernel_rfl)) (dgNo G B (by kernel_rfl) (by kernel_rfl)) rfl rfl rfl (by kernel_rfl) (by kernel_rfl) rfl ?_ rfl (by simp [HOd]) rfl ?_
  · have := o_as G cs (rcO 0) ys a c x0 x1 x2 x3 x4 x5 x6 (fun ex ws H' => ex = .normal ∧ ws = vVs G [.ptr (.rw 1) (.lit 0), .ptr (.rw 2) (.lit 0), .func 46 [.ptr (.rw 3) (.lit 0)], .agg (.of (E7 (.var 11 x0) (.var 12 x1) (.var 13 x2) (.var 14 x3) (.var 15 x4) (.var 16 x5) (.var 17 x6))), .ptr (.rw 6) (.lit 0)] ∧ H' = vHp G ((HOd (.var 8 cs) (.var 20 a) (.var 21 c) (.var 22 ys) (.var 24 (rcO 0))) ++ [some ⟨1, (.of (E7 (.var 11 x0) (.var 12 x1) (.var 13 x2) (.var 14 x3) (.var 15 x4) (.var 16 x5) (.var 17 x6)))⟩])) (fun _ _ => False)
    refine Eq.mpr this ⟨rfl, rfl, rfl⟩
  · have := o_bd G cs (rcO 1) ys a c x0 x1 x2 x3 x4 x5 x6 (fun ex _ H' => H'[4]? = some (some ⟨4294967291, .rcd 1 (rgP (loopN Try.f39 0)) (rgA (loopN Try.f39 0)) (rgB (loopN Try.f39 0)) :: F0o⟩) ∧ ∃ H'', View (HOd (.var 8 cs) (.var 20 a) (.var 21 c) (.var 22 ys) (.var 24 (rcO 0))).length [.bool (isNormal ex)] H'' [.bool (isNormal ex)] (H'.set 4 (some ⟨4294967291, .rcd (stEx ex) (rgP (loopN Try.f39 0)) (rgA (loopN Try.f39 0)) (rgB (loopN Try.f39 0)) :: F0o⟩)) ∧ (AV.bool (isNormal ex) = .bool true ∧ ((x1 == a) = true → H'' = HOn cs (ys ++ [.int .i64 x0]) a c) ∧ ((x1 == a) = false → H'' = vHp G (HOd (.var 8 cs) (.var 20 a) (.var 21 c) (.var 22 ys) (.var 24 (rcO 0)))))) (fun _ _ => False)
    refine Eq.mpr this ⟨fun h => ⟨leB_iff.2 (by omega), by rw [hc]; exact Nat.beq_refl _, rfl, HOn cs (ys ++ [.int .i64 x0]) a c, ?_, rfl, fun _ => rfl, fun q => (by rw [h] at q; cases q)⟩, fun h => ⟨rfl, vHp G (HOd (.var 8 cs) (.var 20 a) (.var 21 c) (.var 22 ys) (.var 24 (rcO 0))), ?_, rfl, fun q => (by rw [h] at q; cases q), fun _ => rfl⟩⟩
    · have f2 : bnds 0 (ys ++ [.int .i64 x0]) = true := bnds_app hy rfl
      refine View.renM (θ := [0, 1, 2, 3, 4, 5, 8]) (by simp [HOd, HOn]) (fun i hi => ?_) (by decide) ?_ (by simp [bnds, bnd]) (by simp [rens, ren, wk])
      · have hi : i < 6 := hi
        match i, hi with
        | 0, _ | 1, _ | 2, _ | 3, _ | 4, _ | 5, _ => rfl
      · refine ⟨⟨m_of (okS_flat hs 0), by rw [rens_flat _ _ (okS_flat hs 0)]; rfl⟩, ⟨by simp [bnds, bnd], rfl⟩, ⟨by simp [HOn, bnds, bnd], rfl⟩, ⟨by simp [HOn, bnds, bnd], rfl⟩, ⟨rc_m (by simp [HOn]), by rw [rcO_r1]; rfl⟩, by simp, ⟨m_of f2, by rw [rens_flat _ _ f2]; rfl⟩, trivial⟩
    · exact View.same (G := [_]) (by simp [HOd, vHp]) (HO_b G hs hy a c) ⟨⟨rfl, rfl⟩, trivial⟩
theorem yO_ok (G : Nat → List AV) (B : Nat) : DYsumOk (⟨Try.prog, G, B⟩ : Ctx) (yO (isRc (rcO 0))) := by
  intro i args H oo ho
  unfold yO at ho
  split at ho
  · rename_i hi8
    have := Nat.eq_of_beq_eq_true hi8
    subst this
    split at ho
    · rename_i x l a c rc ys
      simp only [Option.some.injEq] at ho
      subst ho
      intro h1 h2 h3 h4
      simp only [vB, vVs, vV] at h1 h2 h3
      have h4 : lenOkU [.agg (vL G ys), .int .i64 ((vN G c : Nat) : Int)] = true := h4
      simp only [lenOkU, Bool.and_eq_true, decide_eq_true_eq] at h4
      have e1 := isRc_iff.1 h1
      have ex := ok7_cells h2
      have key := y_o G B (vL G l) (vL G ys) h3 (vN G c) (by omega) (by omega) h4.2.2 (getI (vL G x) 0) (getI (vL G x) 1) (getI (vL G x) 2) (getI (vL G x) 3) (getI (vL G x) 4) (getI (vL G x) 5) (getI (vL G x) 6) (vI G a)
      rw [← ex] at key
      unfold HOn at key
      simp only [vVs, vV, HOd, vHp, List.map_cons, List.map_nil, Option.map_some, vBlk, vL, vR, vN, vI, vB, ← e1] at key
      refine ⟨fun hb => ?_, fun hb => ?_⟩
      · have hb : (getI (vL G x) 1 == vI G a) = true := hb
        unfold DYld
        simp only [vVs, vV, vHp, List.map_cons, List.map_nil, Option.map_some, vBlk, vL, vR, vN, vI, vB]
        refine key.mono ?_
        rintro v H' ⟨rfl, g, _⟩
        exact ⟨rfl, g hb⟩
      · have hb : (getI (vL G x) 1 == vI G a) = false := hb
        unfold DYld
        simp only [vVs, vV, vHp, List.map_cons, List.map_nil, Option.map_some, vBlk, vL, vR, vN, vI, vB]
        refine key.mono ?_
        rintro v H' ⟨rfl, _, g⟩
        exact ⟨rfl, g hb⟩
    · simp at ho
  · simp at ho
theorem dgYO (G : Nat → List AV) (B : Nat) : DGood (⟨Try.prog, G, B⟩ : Ctx) (Dr Try.prog [26, 28] [] [] [] (yO (isRc (rcO 0))) 0) [] := dgoodr (mix G B) (by kernel_rfl) .nil .nil .none (yO_ok G B)
noncomputable def HOk (G : Nat → List AV) (cs : List AV) (a : Int) (n : Nat) : Hp := vHp G (HOd (.var 8 cs) (.var 20 a) (.var 21 (ofF cs a (opens' cs n)).length) (.var 22 (ofF cs a (opens' cs n))) (.var 24 (rcO 0)))
def IO' (G : Nat → List AV) (cs : List AV) (a : Int) (j : Nat) (vs : List AV) (H : Hp) : Prop := ∃ n : Nat, n ≤ 32 ∧ j = 32 - n ∧ vs = [.yld 4, .ptr (.rw 3) 0, .int .i64 (n : Int)] ∧ H = HOk G cs a n
theorem o_loop (G : Nat → List AV) (B : Nat) (cs : List AV) (hs : okS cs = true) (a : Int) :
    AWp (⟨Try.prog, G, B⟩ : Ctx) 5 (.loop (loopN Try.f46 0)) (fl 22 [0, 1, 4] [.yld 4, .ptr (.rw 3) 0, .int .i64 0]) (HOk G cs a 0)
      (lv 22 [0, 1, 4] fun e vs H => e = .exit 0 ∧ wk [.undef, .undef, .undef] vs ∧ H = HOk G cs a 32) := by
  refine aloop_lv (IO' G cs a) 32 ⟨0, by omega, rfl, rfl, rfl⟩ ?_
  rintro j vs H ⟨n, hn, rfl, rfl, rfl⟩
  refine dloop_ok (C := (⟨Try.prog, G, B⟩ : Ctx)) (dgYO G B) (fuel := 300) (n0 := 60) (m := 5) (c := loopN Try.f46 0) (vs := [.yld 4, .ptr (.rw 3) (.lit 0), .int .i64 (.var 6 (n : Int))]) (H := HOd (.var 8 cs) (.var 20 a) (.var 21 (ofF cs a (opens' cs n)).length) (.var 22 (ofF cs a (opens' cs n))) (.var 24 (rcO 0))) (by simp [HOd]) ?_
  rw [o_it]
  have hl := okS_len hs
  have hle := ofF_len cs a (opens' cs n)
  have hle2 := opens_len cs n
  have f1 := ofF_flat cs a (opens' cs n) 0
  have nx : n < 32 → ∀ H', H' = HOk G cs a (n + 1) → ∃ k', k' < 32 - n ∧ (IO' G cs a k' [.yld 4, .ptr (.rw 3) 0, .int .i64 (IntKind.wrap .i64 ((n : Int) + 1))] H' ∨ ∃ vs'' H'', IO' G cs a k' vs'' H'' ∧ View 5 vs'' H'' [.yld 4, .ptr (.rw 3) 0, .int .i64 (IntKind.wrap .i64 ((n : Int) + 1))] H') := fun h H' e =>
    ⟨32 - (n + 1), by omega, .inl ⟨n + 1, by omega, rfl, by rw [i64_in (by omega)]; rfl, e⟩⟩
  refine ⟨fun h => ⟨okS_0 hs, fun _ => ⟨fun h0 => ⟨h, decide_eq_true (by omega), h, ?_, fun ho => ⟨decide_eq_true (by omega), h, leB_iff.2 ?_, isRc_iff.2 rfl, ?_, hs, ?_, fun hb => ?_, fun hb => ?_⟩, fun ho => ?_⟩, fun h0 => ?_⟩, fun h0 => ?_⟩, fun h => ⟨rfl, by simp [wk], ?_⟩⟩
  · have := of_decide_eq_true h
    rw [Int.toNat_natCast]; exact okS_open hs (by omega)
  · have := of_decide_eq_true h
    rw [Int.toNat_natCast]; omega
  · have := of_decide_eq_true h
    rw [Int.toNat_natCast]; exact sub_ok7 hs (by omega)
  · simp only [lenOkU, Bool.and_eq_true, decide_eq_true_eq]
    exact ⟨trivial, by omega, f1⟩
  · have h32 := of_decide_eq_true h
    rw [Int.toNat_natCast] at hb ho ⊢
    have e1 : getI (subL cs (n * 7 + 33) 7) 1 = sA cs n := sub7_get (by omega)
    have e0 : getI (subL cs (n * 7 + 33) 7) 0 = sN cs n := sub7_get (by omega)
    have hb' : (sA cs n == a) = true := by rw [← e1]; exact hb
    have eo : opens' cs (n + 1) = opens' cs n ++ [n] := by simp only [opens', show sO cs n = true from ho, if_true]
    have ef : ofF cs a (opens' cs (n + 1)) = ofF cs a (opens' cs n) ++ [.int .i64 (sN cs n)] := by rw [eo, ofF_app, if_pos hb']
    refine ⟨32 - (n + 1), by omega, .inr ⟨[.yld 4, .ptr (.rw 3) 0, .int .i64 ((n + 1 : Nat) : Int)], HOk G cs a (n + 1), ⟨n + 1, by omega, rfl, rfl, rfl⟩, ?_⟩⟩
    rw [i64_in (by omega)]
    have f2 := ofF_flat cs a (opens' cs (n + 1)) 0
    have es : snocU [.agg (ofF cs a (opens' cs n)), .agg (subL cs (n * 7 + 33) 7)] = ofF cs a (opens' cs (n + 1)) := by
      show ofF cs a (opens' cs n) ++ [.int .i64 (getI (subL cs (n * 7 + 33) 7) 0)] = _
      rw [e0, ef]
    rw [es]
    refine View.renM (θ := [0, 1, 2, 3, 4, 6]) (by simp [HOk, HOd, vHp]) (fun i hi => ?_) (by decide) ?_ (by simp [HOk, HOd, vHp, bnds, bnd]) ?_
    · match i, hi with
      | 0, _ | 1, _ | 2, _ | 3, _ | 4, _ => rfl
    · refine ⟨⟨m_of (okS_flat hs 0), by rw [show (vBlk G ⟨1, .var 8 cs⟩).cells = cs from rfl, rens_flat _ _ (okS_flat hs 0)]; rfl⟩, ⟨by simp [vBlk, vL, vVs, vV, bnds, bnd], rfl⟩, ⟨by simp [HOk, HOd, vHp, vBlk, vL, vVs, vV, vR, vN, bnds, bnd], ?_⟩, ⟨by simp [HOk, HOd, vHp, vBlk, vL, vVs, vV, vR, vN, bnds, bnd], rfl⟩, ⟨rc_m (by simp [HOk, HOd, vHp]), by rw [show (vBlk G ⟨4294967291, .var 24 (rcO 0)⟩).cells = rcO 0 from rfl, rcO_r2]; rfl⟩, ⟨m_of f2, by rw [show (vBlk G ⟨1, .var 22 (ofF cs a (opens' cs (n + 1)))⟩).cells = ofF cs a (opens' cs (n + 1)) from rfl, rens_flat _ _ f2]; rfl⟩, trivial⟩
      have el : (ofF cs a (opens' cs (n + 1))).length = (ofF cs a (opens' cs n)).length + 1 := by rw [ef, List.length_append]; rfl
      show some (some (⟨1, [.slice true (.rw 6) 0 ((ofF cs a (opens' cs n)).length + 1)]⟩ : Blk)) = some (some ⟨1, [.slice true (.rw 6) 0 (ofF cs a (opens' cs (n + 1))).length]⟩)
      rw [el]
    · simp [rens, ren, wk]
  · have h32 := of_decide_eq_true h
    rw [Int.toNat_natCast] at hb ho
    have e1 : getI (subL cs (n * 7 + 33) 7) 1 = sA cs n := sub7_get (by omega)
    have hb' : (sA cs n == a) = false := by rw [← e1]; exact hb
    have eo : opens' cs (n + 1) = opens' cs n ++ [n] := by simp only [opens', show sO cs n = true from ho, if_true]
    have ef : ofF cs a (opens' cs (n + 1)) = ofF cs a (opens' cs n) := by rw [eo, ofF_app, if_neg (by rw [hb']; simp)]
    refine nx (by omega) _ ?_
    unfold HOk
    rw [ef]; rfl
  · have h32 := of_decide_eq_true h
    rw [Int.toNat_natCast] at ho
    have eo : opens' cs (n + 1) = opens' cs n := by simp only [opens', show sO cs n = false from ho, Bool.false_eq_true, if_false]
    refine nx (by omega) _ ?_
    unfold HOk
    rw [eo]; rfl
  · exact absurd (of_decide_eq_false h0) (by omega)
  · rw [okS_made hs] at h0; cases h0
  · have : n = 32 := by have := of_decide_eq_false h; omega
    subst this; rfl
def iO (rq : List AV → Bool) : DL := ⟨0, 22, [0, 1, 4], fun vs H => match vs, H with
  | [.yld 4, .ptr (.rw 3) (.lit 0), .int .i64 (.lit 0)], [some ⟨1, l⟩, some ⟨1, .of [.int .i64 a]⟩, some ⟨1, .of [.nils]⟩, some ⟨1, .of [.ptr (.rw 0) (.lit 0)]⟩, some ⟨4294967291, rc⟩] =>
    some (.chk (.uf 1400 rq [.agg rc]) (.chk (.uf 1300 okSU [.agg l]) (.one (.exit 0) [.undef, .undef, .undef] (HOd l a (.uf 1516 ofNU [.agg l, .int .i64 a]) (.uf 1517 ofU [.agg l, .int .i64 a]) rc))))
  | _, _ => none⟩
theorem iO_ok (G : Nat → List AV) (B : Nat) : DLoopOk (⟨Try.prog, G, B⟩ : Ctx) 5 (loopN Try.f46 0) (iO (isRc (rcO 0))) := by
  refine .of fun vs H o ho n Q hQ => ?_
  simp only [iO] at ho
  split at ho
  · rename_i l a rc
    simp only [Option.some.injEq] at ho
    subst ho
    obtain ⟨h1, h2, h3⟩ := hQ
    simp only [vB, vVs, vV] at h1 h2
    have e1 := isRc_iff.1 h1
    simp only [iO, vVs, vV, vR, vN, vI, vB, vHp, List.map_cons, List.map_nil, Option.map_some, vBlk, vL]
    refine lone ?_ h3
    rw [e1]
    simp only [HOd, vVs, vV, vR, vN, vI, vB, vHp, List.map_cons, List.map_nil, Option.map_some, vBlk, vL, e1]
    exact AWp.nil (H := [some ⟨1, _⟩, some ⟨1, _⟩, some ⟨1, [.slice true (.rw 5) 0 0]⟩, some ⟨1, _⟩, some ⟨4294967291, rcO 0⟩]) 1 (by simp) (nilrs_refl _) ⟨⟨rfl, nilrs_refl _⟩, ⟨rfl, nilrs_refl _⟩, ⟨rfl, .inr ⟨rfl, rfl⟩, trivial⟩, ⟨rfl, nilrs_refl _⟩, ⟨rfl, nilrs_refl _⟩, trivial⟩ (o_loop G B (vL G l) h2 (vI G a))
  · simp at ho
theorem o_c46 (G : Nat → List AV) (rq : List AV → Bool) (cs rc : List AV) (a : Int) (Q : Ex → List AV → Hp → Prop) (R : AV → Hp → Prop) : vT G Q R (dcall (Dr Try.prog [] [] [iO rq] [] noY 5) 100 60 Try.f46 [.yld 4, .ptr (.rw 3) (.lit 0)] ([some ⟨1, .var 8 cs⟩, some ⟨1, .of [.int .i64 (.var 20 a)]⟩, some ⟨1, .of [.nils]⟩, some ⟨1, .of [.ptr (.rw 0) (.lit 0)]⟩] ++ [some ⟨4294967291, .var 24 rc⟩]) 6) = (
    rq [.agg rc] = true ∧
    okSU [.agg cs] = true ∧
    R (.tup []) [some ⟨1, cs⟩, some ⟨1, ([.int .i64 (a)] : List AV)⟩, some ⟨1, ([.slice true (.rw 5) (0) (ofNU [.agg cs, .int .i64 (a)])] : List AV)⟩, some ⟨1, ([.ptr (.rw 0) (0)] : List AV)⟩, some ⟨4294967291, rc⟩, some ⟨1, (ofU [.agg cs, .int .i64 (a)])⟩]) := by kernel_rfl
theorem dgo46 (G : Nat → List AV) (B : Nat) : DGood (⟨Try.prog, G, B⟩ : Ctx) (Dr Try.prog [] [] [iO (isRc (rcO 0))] [] noY 5) (loopsOf (bodyOf Try.f46)) :=
  dgoodr (mix G B) (by kernel_rfl) .nil (.cast (.cons (i := 0) (by kernel_rfl) rfl (iO_ok G B) .nil) (by kernel_rfl)) .none noY_ok
theorem HOk_b (G : Nat → List AV) {cs : List AV} (hs : okS cs = true) (a : Int) (n : Nat) : hpB 6 (HOk G cs a n) = true := HO_b G hs (ofF_flat cs a (opens' cs n) 0) a _
theorem o46 (G : Nat → List AV) (B : Nat) (cs : List AV) (hs : okS cs = true) (a : Int) : ACalls (⟨Try.prog, G, B⟩ : Ctx) 46 [.yld 4, .ptr (.rw 3) 0] (vHp G [some ⟨1, .var 8 cs⟩, some ⟨1, .of [.int .i64 (.var 20 a)]⟩, some ⟨1, .of [.nils]⟩, some ⟨1, .of [.ptr (.rw 0) (.lit 0)]⟩] ++ [some ⟨4294967291, rcO 0⟩]) fun v H => v = .tup [] ∧ H = HOk G cs a 32 := by
  have := dcall_ok (C := (⟨Try.prog, G, B⟩ : Ctx)) (fuel := 100) (n0 := 60) (f := 46) (fn := Try.f46) (args := [.yld 4, .ptr (.rw 3) (.lit 0)]) (H := [some ⟨1, .var 8 cs⟩, some ⟨1, .of [.int .i64 (.var 20 a)]⟩, some ⟨1, .of [.nils]⟩, some ⟨1, .of [.ptr (.rw 0) (.lit 0)]⟩] ++ [some ⟨4294967291, .var 24 (rcO 0)⟩]) (keep := 6)
    (R := fun v H => v = .tup [] ∧ H = HOk G cs a 32) (dgo46 G B) (by kernel_rfl) (by kernel_rfl) (by kernel_rfl) (by
    have := o_c46 G (isRc (rcO 0)) cs (rcO 0) a (fun _ _ _ => False) (fun v H => v = .tup [] ∧ H = HOk G cs a 32)
    exact Eq.mpr this ⟨isRc_iff.2 rfl, hs, rfl, rfl⟩)
  refine ACalls.keep (k := 6) ?_ (by simp [HOk, HOd, vHp]) (HOk_b G hs a 32) rfl (by simp)
  exact this
/-- behind Of's loop -/
def HO5 (cs ys : List AV) (a : Int) (c : Nat) : Hp := [some ⟨1, cs⟩, some ⟨1, [.int .i64 a]⟩, some ⟨1, [.slice true (.rw 4) 0 c]⟩, some ⟨1, [.ptr (.rw 0) 0]⟩, some ⟨1, ys⟩]
theorem o_rng (G : Nat → List AV) (B : Nat) (cs : List AV) (hs : okS cs = true) (a : Int) : AWp (⟨Try.prog, G, B⟩ : Ctx) 1 (loopN Try.f39 0) F0o (vHp G [some ⟨1, .var 8 cs⟩, some ⟨1, .of [.int .i64 (.var 20 a)]⟩, some ⟨1, .of [.nils]⟩, some ⟨1, .of [.ptr (.rw 0) (.lit 0)]⟩])
    (lv 20 [3, 5, 8] fun e vs H => e = .normal ∧ vs = [.ptr (.rw 1) 0, .ptr (.rw 2) 0, .func 46 [.ptr (.rw 3) 0]] ∧ H = (HOk G cs a 32).set 4 none) := by
  rw [N39_eq]
  refine AWp.rng (f := 46) (cap := [.ptr (.rw 3) 0]) (by simp [vHp]) (by kernel_rfl) ?_
  refine (o46 G B cs hs a).monoK ?_
  rintro v H ⟨rfl, rfl⟩
  exact ⟨rfl, rfl, rfl⟩
theorem o_view (G : Nat → List AV) {cs : List AV} (hs : okS cs = true) (a : Int) {m : Nat} (hm : m ≤ 1) : View m [.ptr (.rw 1) 0, .ptr (.rw 2) 0, .func 46 [.ptr (.rw 3) 0]] (HO5 cs (ofF cs a (opens' cs 32)) a (ofF cs a (opens' cs 32)).length) [.ptr (.rw 1) 0, .ptr (.rw 2) 0, .func 46 [.ptr (.rw 3) 0]] ((HOk G cs a 32).set 4 none) := by
  have f2 := ofF_flat cs a (opens' cs 32) 0
  have fs := okS_flat hs 0
  refine View.renM (θ := [0, 1, 2, 3, 5]) (by simp [HO5]; omega) (fun i hi => ?_) (by decide) ?_ (by simp [HO5, bnds, bnd]) (by simp [rens, ren, wk, List.getD])
  · have : i < 1 := by omega
    match i, this with
    | 0, _ => rfl
  · refine ⟨⟨m_of fs, by rw [rens_flat _ _ fs]; rfl⟩, ⟨by simp [HO5, bnds, bnd], rfl⟩, ⟨by simp [HO5, bnds, bnd], rfl⟩, ⟨by simp [HO5, bnds, bnd], rfl⟩, ⟨m_of f2, by rw [rens_flat _ _ f2]; rfl⟩, trivial⟩
def oR : DL := ⟨9, 20, [3, 5, 8], fun vs H => match vs, H with
  | [.ptr (.rw 1) (.lit 0), .ptr (.rw 2) (.lit 0), .func 46 [.ptr (.rw 3) (.lit 0)]], [some ⟨1, l⟩, some ⟨1, .of [.int .i64 a]⟩, some ⟨1, .of [.nils]⟩, some ⟨1, .of [.ptr (.rw 0) (.lit 0)]⟩] =>
    some (.chk (.uf 1300 okSU [.agg l]) (.one .normal [.ptr (.rw 1) (.lit 0), .ptr (.rw 2) (.lit 0), .func 46 [.ptr (.rw 3) (.lit 0)]] [some ⟨1, l⟩, some ⟨1, .of [.int .i64 a]⟩, some ⟨1, .of [.slice true (.rw 4) (.lit 0) (.uf 1516 ofNU [.agg l, .int .i64 a])]⟩, some ⟨1, .of [.ptr (.rw 0) (.lit 0)]⟩, some ⟨1, .uf 1517 ofU [.agg l, .int .i64 a]⟩]))
  | _, _ => none⟩
theorem oR_ok (G : Nat → List AV) (B : Nat) : DCodeOk (⟨Try.prog, G, B⟩ : Ctx) 1 (loopN Try.f39 0) oR := by
  intro m vs H o hm ho n Q hQ
  simp only [oR] at ho
  split at ho
  · rename_i l a
    simp only [Option.some.injEq] at ho
    subst ho
    obtain ⟨h1, h2⟩ := hQ
    have h1 : okS (vL G l) = true := h1
    have key := o_rng G B (vL G l) h1 (vI G a)
    have key := key.pin (m' := m) (by omega)
    refine key.lmono ?_
    rintro e vs'' H'' ⟨rfl, rfl, rfl⟩
    exact .inr ⟨_, _, o_view G h1 (vI G a) (by omega), h2⟩
  · simp at ho
theorem dg39 (G : Nat → List AV) (B : Nat) : DGood (⟨Try.prog, G, B⟩ : Ctx) (Dr Try.prog [43] [] [] [oR] noY 1) (loopsOf (bodyOf Try.f39)) := by
  rw [show loopsOf (bodyOf Try.f39) = [loopN Try.f39 0] by kernel_rfl]
  exact dgoodr (mix G B) (by kernel_rfl) .nil (.skip (by kernel_rfl) .nil) (.cons (i := 9) (by kernel_rfl) rfl (oR_ok G B) .nil) noY_ok
theorem t39 (G : Nat → List AV) (cs : List AV) (a : Int) (Q : Ex → List AV → Hp → Prop) (R : AV → Hp → Prop) : vT G Q R (dcall (Dr Try.prog [43] [] [] [oR] noY 1) 300 60 Try.f39 [.ptr (.rw 0) (.lit 0), .int .i64 (.var 20 a)] [some ⟨1, .var 8 cs⟩] 5) = (
    okSU [.agg cs] = true ∧
    R (.slice true (.rw 4) (0) (ofNU [.agg cs, .int .i64 (a)])) [some ⟨1, cs⟩, some ⟨1, ([.int .i64 (a)] : List AV)⟩, some ⟨1, ([.slice true (.rw 4) (0) (ofNU [.agg cs, .int .i64 (a)])] : List AV)⟩, some ⟨1, ([.ptr (.rw 0) (0)] : List AV)⟩, some ⟨1, (ofU [.agg cs, .int .i64 (a)])⟩]) := by kernel_rfl
theorem p_of (G : Nat → List AV) (B : Nat) (cs : List AV) (hs : okS cs = true) (a : Int) : ACalls (⟨Try.prog, G, B⟩ : Ctx) 39 [.ptr (.rw 0) 0, .int .i64 a] [some ⟨1, cs⟩] fun v H => v = .slice true (.rw 1) 0 (ofF cs a (opens' cs 32)).length ∧ H = [some ⟨1, cs⟩, some ⟨1, ofF cs a (opens' cs 32)⟩] := by
  have key := dcall_ok (C := (⟨Try.prog, G, B⟩ : Ctx)) (fuel := 300) (n0 := 60) (f := 39) (fn := Try.f39) (args := [.ptr (.rw 0) (.lit 0), .int .i64 (.var 20 a)]) (H := [some ⟨1, .var 8 cs⟩]) (keep := 5)
    (R := fun v H => v = .slice true (.rw 4) 0 (ofF cs a (opens' cs 32)).length ∧ H = HO5 cs (ofF cs a (opens' cs 32)) a (ofF cs a (opens' cs 32)).length) (dg39 G B) (by kernel_rfl) (by kernel_rfl) (by kernel_rfl) (by
    rw [t39]
    exact ⟨hs, rfl, rfl⟩)
  have f1 := ofF_flat cs a (opens' cs 32) 0
  have fs := okS_flat hs 0
  have key := key.keep (by simp [vHp, HO5]) (by simp only [HO5, hpB, List.length_cons, List.length_nil, Nat.zero_add, Nat.reduceAdd, m_of fs, m_of f1, bnds, bnd, Bool.and_self, Bool.and_true]; rfl) (by simp [bnd, HO5]) (by simp)
  refine key.view fun v H' ⟨h1, h2⟩ => ⟨_, _, ⟨rfl, rfl⟩, ?_⟩
  subst h1 h2
  refine View.renM (θ := [0, 4]) (by simp [vHp]) (fixes1' rfl) (by decide) ⟨⟨m_of fs, by rw [rens_flat _ _ fs]; rfl⟩, ⟨m_of f1, by rw [rens_flat _ _ f1]; rfl⟩, trivial⟩ (by simp [bnds, bnd]) ?_
  simp [rens, ren, wk]
def ofS : DSum := fun args H => match args with
  | [.ptr (.rw i) (.lit 0), .int .i64 a] => match H[i]? with
    | some (some ⟨1, l⟩) => some (.chk (.uf 1300 okSU [.agg l]) (.one (.slice true (.rw H.length) (.lit 0) (.uf 1516 ofNU [.agg l, .int .i64 a])) [.new ⟨1, .uf 1517 ofU [.agg l, .int .i64 a]⟩]))
    | _ => none
  | _ => none
theorem ofS_ok (G : Nat → List AV) (B : Nat) : DSumOk (⟨Try.prog, G, B⟩ : Ctx) 39 ofS := by
  intro args H o ho
  unfold ofS at ho
  split at ho
  · rename_i i a
    split at ho
    · rename_i l hi
      simp only [Option.some.injEq] at ho
      subst ho
      intro h1
      have h1 : okS (vL G l) = true := h1
      have key := p_of G B (vL G l) h1 (vI G a)
      exact DOut.new1 (C := (⟨Try.prog, G, B⟩ : Ctx)) (v0 := .slice true (.rw 1) 0 (ofF (vL G l) (vI G a) (opens' (vL G l) 32)).length) hi key (okS_flat h1 0) (ofF_flat _ _ _ 0) (by simp [vVs, vV, bnds, bnd]) (by simp [bnd]) (by simp [vV, vR, vN, ren, List.getD]; rfl)
    · simp at ho
  · simp at ho
end Go.Am
