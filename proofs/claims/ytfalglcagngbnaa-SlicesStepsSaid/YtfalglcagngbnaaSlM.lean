/-
  Slices: Waits told; Fair, by the loop over the open slots.
-/
import Derived.Test.YtfalglcagngbnaaSlL
namespace Go.Am
open Go.Proofs
set_option maxRecDepth 100000
theorem w_ev (G : Nat → List AV) (cs : List AV) (Q : Ex → List AV → Hp → Prop) (R : AV → Hp → Prop) : vT G Q R (dcall (Dr Try.prog [43] [] [] [wR] noY 5) 200 60 Try.f29 [.ptr (.rw 0) (.lit 0), .func 30 [.ptr (.rw 1) (.lit 0), .ptr (.rw 4) (.lit 0), .ptr (.rw 3) (.lit 0), .ptr (.rw 2) (.lit 0)]] [some ⟨1, .var 8 cs⟩, some ⟨1, .of [.ptr (.rw 0) (.lit 0)]⟩, some ⟨1, .of [.int .i64 (.lit 0)]⟩, some ⟨1, .of [.int .i64 (.lit 0)]⟩, some ⟨1, .of [.bool (.lit false)]⟩] 5) = (
    okSU [.agg cs] = true ∧
    R (.bool (true)) [some ⟨1, cs⟩, some ⟨1, ([.ptr (.rw 0) (0)] : List AV)⟩, some ⟨1, ([.int .i64 (wS32 [.agg cs])] : List AV)⟩, some ⟨1, ([.int .i64 (wT32 [.agg cs])] : List AV)⟩, some ⟨1, ([.bool (wO32 [.agg cs])] : List AV)⟩]) := by kernel_rfl
theorem dg29w (G : Nat → List AV) (B : Nat) : DGood (⟨Try.prog, G, B⟩ : Ctx) (Dr Try.prog [43] [] [] [wR] noY 5) (loopsOf (bodyOf Try.f29)) := by
  rw [show loopsOf (bodyOf Try.f29) = [loopN Try.f29 0] by kernel_rfl]
  exact dgoodr (mix G B) (by kernel_rfl) .nil (.skip (by kernel_rfl) .nil) (.cons (i := 8) (by kernel_rfl) rfl (wR_ok G B) .nil) noY_ok
theorem w29 (G : Nat → List AV) (B : Nat) (cs : List AV) (hs : okS cs = true) : ACalls (⟨Try.prog, G, B⟩ : Ctx) 29 [.ptr (.rw 0) 0, .func 30 [.ptr (.rw 1) 0, .ptr (.rw 4) 0, .ptr (.rw 3) 0, .ptr (.rw 2) 0]] (vHp G [some ⟨1, .var 8 cs⟩, some ⟨1, .of [.ptr (.rw 0) (.lit 0)]⟩, some ⟨1, .of [.int .i64 (.lit 0)]⟩, some ⟨1, .of [.int .i64 (.lit 0)]⟩, some ⟨1, .of [.bool (.lit false)]⟩])
    fun v H => v = .bool true ∧ H = vHp G [some ⟨1, .var 8 cs⟩, some ⟨1, .of [.ptr (.rw 0) (.lit 0)]⟩, some ⟨1, .of [.int .i64 (.var 20 (wF cs 32).1)]⟩, some ⟨1, .of [.int .i64 (.var 21 (wF cs 32).2.1)]⟩, some ⟨1, .of [.bool (.var 22 (wF cs 32).2.2)]⟩] := by
  have := dcall_ok (C := (⟨Try.prog, G, B⟩ : Ctx)) (fuel := 200) (n0 := 60) (f := 29) (fn := Try.f29) (args := [.ptr (.rw 0) (.lit 0), .func 30 [.ptr (.rw 1) (.lit 0), .ptr (.rw 4) (.lit 0), .ptr (.rw 3) (.lit 0), .ptr (.rw 2) (.lit 0)]]) (H := [some ⟨1, .var 8 cs⟩, some ⟨1, .of [.ptr (.rw 0) (.lit 0)]⟩, some ⟨1, .of [.int .i64 (.lit 0)]⟩, some ⟨1, .of [.int .i64 (.lit 0)]⟩, some ⟨1, .of [.bool (.lit false)]⟩]) (keep := 5)
    (R := fun v H => v = .bool true ∧ H = vHp G [some ⟨1, .var 8 cs⟩, some ⟨1, .of [.ptr (.rw 0) (.lit 0)]⟩, some ⟨1, .of [.int .i64 (.var 20 (wF cs 32).1)]⟩, some ⟨1, .of [.int .i64 (.var 21 (wF cs 32).2.1)]⟩, some ⟨1, .of [.bool (.var 22 (wF cs 32).2.2)]⟩]) (dg29w G B) (by kernel_rfl) (by kernel_rfl) (by kernel_rfl) (by
    rw [w_ev]
    exact ⟨hs, rfl, rfl⟩)
  refine ACalls.keep (k := 5) this (by simp [vHp]) ?_ rfl (by simp)
  simp only [vHp, List.map_cons, List.map_nil, Option.map_some, vBlk, vL, vVs, vV, vR, vN, vI, vB, hpB, okS_flat hs, bnds, bnd, Bool.and_self, Bool.and_true]
  rfl
def everyW : DSum := fun args H => match args, H with
  | [.ptr (.rw 0) (.lit 0), .func 30 [.ptr (.rw 1) (.lit 0), .ptr (.rw 4) (.lit 0), .ptr (.rw 3) (.lit 0), .ptr (.rw 2) (.lit 0)]], [some ⟨1, l⟩, some ⟨1, .of [.ptr (.rw 0) (.lit 0)]⟩, some ⟨1, .of [.int .i64 (.lit 0)]⟩, some ⟨1, .of [.int .i64 (.lit 0)]⟩, some ⟨1, .of [.bool (.lit false)]⟩] =>
    some (.chk (.uf 1300 okSU [.agg l]) (.one (.bool (.lit true)) [.set 2 ⟨1, .of [.int .i64 (.uf 1405 wS32 [.agg l])]⟩, .set 3 ⟨1, .of [.int .i64 (.uf 1406 wT32 [.agg l])]⟩, .set 4 ⟨1, .of [.bool (.uf 1407 wO32 [.agg l])]⟩]))
  | _, _ => none
theorem everyW_ok (G : Nat → List AV) (B : Nat) : DSumOk (⟨Try.prog, G, B⟩ : Ctx) 29 everyW := by
  intro args H o ho
  unfold everyW at ho
  split at ho
  · rename_i l
    simp only [Option.some.injEq] at ho
    subst ho
    intro h1
    simp only [vB, vVs, vV] at h1
    have key := w29 G B (vL G l) h1
    unfold DOut
    simp only [vVs, vV, vR, vN, vHp, List.map_cons, List.map_nil, Option.map_some, vBlk, vL, vI, vB] at key ⊢
    refine key.monoK ?_
    rintro v H' ⟨rfl, rfl⟩
    exact ⟨rfl, rfl⟩
  · simp at ho
theorem w_wt (G : Nat → List AV) (cs : List AV) (Q : Ex → List AV → Hp → Prop) (R : AV → Hp → Prop) : vT G Q R (dcall (Dc Try.prog [] [(29, everyW)] [] 0) 200 60 Try.f17 [.ptr (.rw 0) (.lit 0)] [some ⟨1, .var 8 cs⟩] 1) = (
    okSU [.agg cs] = true ∧
    R (.tup [.int .i64 (wS32 [.agg cs]), .int .i64 (wT32 [.agg cs]), .bool (wO32 [.agg cs])]) [some ⟨1, cs⟩]) := by kernel_rfl
theorem p_waits (G : Nat → List AV) (B : Nat) (cs : List AV) (hs : okS cs = true) : ACalls (⟨Try.prog, G, B⟩ : Ctx) 17 [.ptr (.rw 0) 0] [some ⟨1, cs⟩] fun v H => v = .tup [.int .i64 (wF cs 32).1, .int .i64 (wF cs 32).2.1, .bool (wF cs 32).2.2] ∧ H.take 1 = [some ⟨1, cs⟩] := by
  have := dcall_ok (C := (⟨Try.prog, G, B⟩ : Ctx)) (fuel := 200) (n0 := 60) (f := 17) (fn := Try.f17) (args := [.ptr (.rw 0) (.lit 0)]) (H := [some ⟨1, .var 8 cs⟩]) (keep := 1)
    (R := fun v H => v = .tup [.int .i64 (wF cs 32).1, .int .i64 (wF cs 32).2.1, .bool (wF cs 32).2.2] ∧ H = [some ⟨1, cs⟩]) (by rw [show loopsOf (bodyOf Try.f17) = [] by kernel_rfl]; exact dgood (inl := []) (ls := []) (M := 0) (mix G B) (by kernel_rfl) (.cons (everyW_ok G B) .nil) .nil) (by kernel_rfl) (by kernel_rfl) (by kernel_rfl) (by
    rw [w_wt]
    repeat' first | refine And.intro ?_ ?_ | intro _
    all_goals first | exact hs | rfl)
  simp only [vVs, vV, vR, vN, vI, vHp, List.map_cons, List.map_nil, Option.map_some, vBlk, vL] at this
  exact this
def waitsS : DSum := fun args H => match args with
  | [.ptr (.rw i) (.lit 0)] => match H[i]? with
    | some (some ⟨1, l⟩) => some (.chk (.uf 1300 okSU [.agg l]) (.one (.tup [.int .i64 (.uf 1405 wS32 [.agg l]), .int .i64 (.uf 1406 wT32 [.agg l]), .bool (.uf 1407 wO32 [.agg l])]) []))
    | _ => none
  | _ => none
theorem waitsS_ok (G : Nat → List AV) (B : Nat) : DSumOk (⟨Try.prog, G, B⟩ : Ctx) 17 waitsS := by
  intro args H o ho
  unfold waitsS at ho
  split at ho
  · rename_i i
    split at ho
    · rename_i l hi
      simp only [Option.some.injEq] at ho
      subst ho
      intro h1
      simp only [vB, vVs, vV, okSU] at h1
      have key := p_waits G B (vL G l) h1
      refine DOut.get1 (C := (⟨Try.prog, G, B⟩ : Ctx)) hi ?_ (okS_flat h1 0) (by simp [vVs, bnds]) (by simp [vV, vVs, bnd, bnds]) (by simp [vV])
      simp only [vVs, vV, vI, vB, wS32, wT32, wO32]
      exact key
    · simp at ho
  · simp at ho
/-! ### Fair -/
/-- is a slot that is told so served within this? -/
def fB (cs xs : List AV) (w : Int) : Bool := decide (getI xs 6 ≤ w) && decide (w64 (tk cs - getI xs 5) < w)
def fBU : List AV → Bool := fun ys => match ys with
  | [.agg cs, .agg xs, .int _ w] => fB cs xs w
  | _ => false
def fairF (cs : List AV) (w : Int) : Nat → Bool
  | 0 => true
  | n + 1 => fairF cs w n && (!sO cs n || fB cs (subL cs (n * 7 + 33) 7) w)
def fairU : List AV → Bool := fun ys => match ys with
  | [.agg cs, .int _ w] => fairF cs w 32
  | _ => false
theorem fairF_false {cs : List AV} {w : Int} {n : Nat} (h : fairF cs w n = false) : ∀ k, fairF cs w (n + k) = false
  | 0 => h
  | k + 1 => by
    show (fairF cs w (n + k) && _) = false
    rw [fairF_false h k]; rfl
def HFd (l : EL) (w : EI) (r : EB) (rc : EL) : DHp := [some ⟨1, l⟩, some ⟨1, .of [.ptr (.rw 0) (.lit 0)]⟩, some ⟨1, .of [.int .i64 w]⟩, some ⟨1, .of [.func 31 [.ptr (.rw 2) (.lit 0), .ptr (.rw 1) (.lit 0)]]⟩, some ⟨1, .of [.bool r]⟩, some ⟨1, .of [.ptr (.rw 0) (.lit 0)]⟩, some ⟨4294967291, rc⟩]
def yF (rq : List AV → Bool) (rc2 : EL) : DYsum := fun i args H => match Nat.beq i 6 with
  | true => match args, H with
    | [.agg x], [some ⟨1, l⟩, some ⟨1, .of [.ptr (.rw 0) (.lit 0)]⟩, some ⟨1, .of [.int .i64 w]⟩, some ⟨1, .of [.func 31 [.ptr (.rw 2) (.lit 0), .ptr (.rw 1) (.lit 0)]]⟩, some ⟨1, .of [.bool _]⟩, some ⟨1, .of [.ptr (.rw 0) (.lit 0)]⟩, some ⟨4294967291, rc⟩] =>
      some (.chk (.uf 1400 rq [.agg rc]) (.chk (.uf 1401 ok7U [.agg x]) (.chk (.uf 1300 okSU [.agg l]) (.tst (.uf 1410 fBU [.agg l, .agg x, .int .i64 w]) (.one (.bool (.lit true)) []) (.one (.bool (.lit false)) [.set 4 ⟨1, .of [.bool (.lit false)]⟩, .set 6 ⟨4294967291, rc2⟩])))))
    | _, _ => none
  | false => none
theorem f_as (G : Nat → List AV) (cs rc : List AV) (w : Int) (r : Bool) (x0 x1 x2 x3 x4 x5 x6 : Int) (Q : Ex → List AV → Hp → Prop) (R : AV → Hp → Prop) : vT G Q R (dloop (Dc Try.prog [31] [] [] 0) 200 60 7 (rgA (loopN Try.f29 0)) 13 [3, 4, 7, 8, 5] [.ptr (.rw 3) (.lit 0), .ptr (.rw 4) (.lit 0), .func 46 [.ptr (.rw 5) (.lit 0)], .agg (.of (E7 (.var 11 x0) (.var 12 x1) (.var 13 x2) (.var 14 x3) (.var 15 x4) (.var 16 x5) (.var 17 x6))), .undef] (HFd (.var 8 cs) (.var 20 w) (.var 23 r) (.var 24 rc))) = (
    Q .normal [.ptr (.rw 3) (0), .ptr (.rw 4) (0), .func 46 [.ptr (.rw 5) (0)], .agg ([.int .i64 (x0), .int .i64 (x1), .int .i64 (x2), .int .i64 (x3), .int .i64 (x4), .int .i64 (x5), .int .i64 (x6)] : List AV), .ptr (.rw 7) (0)] [some ⟨1, cs⟩, some ⟨1, ([.ptr (.rw 0) (0)] : List AV)⟩, some ⟨1, ([.int .i64 (w)] : List AV)⟩, some ⟨1, ([.func 31 [.ptr (.rw 2) (0), .ptr (.rw 1) (0)]] : List AV)⟩, some ⟨1, ([.bool (r)] : List AV)⟩, some ⟨1, ([.ptr (.rw 0) (0)] : List AV)⟩, some ⟨4294967291, rc⟩, some ⟨1, ([.int .i64 (x0), .int .i64 (x1), .int .i64 (x2), .int .i64 (x3), .int .i64 (x4), .int .i64 (x5), .int .i64 (x6)] : List AV)⟩]) := by kernel_rfl
theorem f_bd (G : Nat → List AV) (cs rc : List AV) (w : Int) (r : Bool) (x0 x1 x2 x3 x4 x5 x6 : Int) (Q : Ex → List AV → Hp → Prop) (R : AV → Hp → Prop) : vT G Q R (dloop (Dc Try.prog [31] [] [] 0) 300 60 7 (rgB (loopN Try.f29 0)) 13 [3, 4, 7, 8, 5] [.ptr (.rw 3) (.lit 0), .ptr (.rw 4) (.lit 0), .func 46 [.ptr (.rw 5) (.lit 0)], .agg (.of (E7 (.var 11 x0) (.var 12 x1) (.var 13 x2) (.var 14 x3) (.var 15 x4) (.var 16 x5) (.var 17 x6))), .ptr (.rw 7) (.lit 0)] ((HFd (.var 8 cs) (.var 20 w) (.var 23 r) (.var 24 rc)) ++ [some ⟨1, (.of (E7 (.var 11 x0) (.var 12 x1) (.var 13 x2) (.var 14 x3) (.var 15 x4) (.var 16 x5) (.var 17 x6)))⟩])) = (
    (decide ((x6 : Int) ≤ w) = true →
      isI .i64 cs (257) = true ∧
      (decide ((IntKind.wrap .i64 (getI cs (257) - x5) : Int) < w) = true →
        Q .normal [.ptr (.rw 3) (0), .ptr (.rw 4) (0), .func 46 [.ptr (.rw 5) (0)], .agg ([.int .i64 (x0), .int .i64 (x1), .int .i64 (x2), .int .i64 (x3), .int .i64 (x4), .int .i64 (x5), .int .i64 (x6)] : List AV), .ptr (.rw 7) (0)] [some ⟨1, cs⟩, some ⟨1, ([.ptr (.rw 0) (0)] : List AV)⟩, some ⟨1, ([.int .i64 (w)] : List AV)⟩, some ⟨1, ([.func 31 [.ptr (.rw 2) (0), .ptr (.rw 1) (0)]] : List AV)⟩, some ⟨1, ([.bool (r)] : List AV)⟩, some ⟨1, ([.ptr (.rw 0) (0)] : List AV)⟩, some ⟨4294967291, rc⟩, some ⟨1, ([.int .i64 (x0), .int .i64 (x1), .int .i64 (x2), .int .i64 (x3), .int .i64 (x4), .int .i64 (x5), .int .i64 (x6)] : List AV)⟩, some ⟨1, ([.int .i64 (x0), .int .i64 (x1), .int .i64 (x2), .int .i64 (x3), .int .i64 (x4), .int .i64 (x5), .int .i64 (x6)] : List AV)⟩]) ∧
      (decide ((IntKind.wrap .i64 (getI cs (257) - x5) : Int) < w) = false →
        Q .ret [.ptr (.rw 3) (0), .ptr (.rw 4) (0), .func 46 [.ptr (.rw 5) (0)], .agg ([.int .i64 (x0), .int .i64 (x1), .int .i64 (x2), .int .i64 (x3), .int .i64 (x4), .int .i64 (x5), .int .i64 (x6)] : List AV), .ptr (.rw 7) (0)] [some ⟨1, cs⟩, some ⟨1, ([.ptr (.rw 0) (0)] : List AV)⟩, some ⟨1, ([.int .i64 (w)] : List AV)⟩, some ⟨1, ([.func 31 [.ptr (.rw 2) (0), .ptr (.rw 1) (0)]] : List AV)⟩, some ⟨1, ([.bool (false)] : List AV)⟩, some ⟨1, ([.ptr (.rw 0) (0)] : List AV)⟩, some ⟨4294967291, rc⟩, some ⟨1, ([.int .i64 (x0), .int .i64 (x1), .int .i64 (x2), .int .i64 (x3), .int .i64 (x4), .int .i64 (x5), .int .i64 (x6)] : List AV)⟩, some ⟨1, ([.int .i64 (x0), .int .i64 (x1), .int .i64 (x2), .int .i64 (x3), .int .i64 (x4), .int .i64 (x5), .int .i64 (x6)] : List AV)⟩])) ∧
    (decide ((x6 : Int) ≤ w) = false →
      Q .ret [.ptr (.rw 3) (0), .ptr (.rw 4) (0), .func 46 [.ptr (.rw 5) (0)], .agg ([.int .i64 (x0), .int .i64 (x1), .int .i64 (x2), .int .i64 (x3), .int .i64 (x4), .int .i64 (x5), .int .i64 (x6)] : List AV), .ptr (.rw 7) (0)] [some ⟨1, cs⟩, some ⟨1, ([.ptr (.rw 0) (0)] : List AV)⟩, some ⟨1, ([.int .i64 (w)] : List AV)⟩, some ⟨1, ([.func 31 [.ptr (.rw 2) (0), .ptr (.rw 1) (0)]] : List AV)⟩, some ⟨1, ([.bool (false)] : List AV)⟩, some ⟨1, ([.ptr (.rw 0) (0)] : List AV)⟩, some ⟨4294967291, rc⟩, some ⟨1, ([.int .i64 (x0), .int .i64 (x1), .int .i64 (x2), .int .i64 (x3), .int .i64 (x4), .int .i64 (x5), .int .i64 (x6)] : List AV)⟩, some ⟨1, ([.int .i64 (x0), .int .i64 (x1), .int .i64 (x2), .int .i64 (x3), .int .i64 (x4), .int .i64 (x5), .int .i64 (x6)] : List AV)⟩])) := by kernel_rfl
theorem f_it (G : Nat → List AV) (rq : List AV → Bool) (cs rc rc2 : List AV) (w n : Int) (r : Bool) (Q : Ex → List AV → Hp → Prop) (R : AV → Hp → Prop) : vT G Q R (dloop (Dr Try.prog [26, 28] [] [] [] (yF rq (.var 25 rc2)) 0) 300 60 7 (loopN Try.f46 0) 22 [0, 1, 4] [.yld 6, .ptr (.rw 5) (.lit 0), .int .i64 (.var 6 n)] (HFd (.var 8 cs) (.var 20 w) (.var 23 r) (.var 24 rc))) = (
    (decide ((n : Int) < 32) = true →
      isB cs (0) = true ∧
      (getB cs (0) = true →
        (decide ((n : Int) ≥ 0) = true →
          decide ((n : Int) < 32) = true ∧
          decide ((0 : Int) ≤ n) = true ∧
          decide ((n : Int) < 32) = true ∧
          isB cs (Int.toNat (n) + 1) = true ∧
          (getB cs (Int.toNat (n) + 1) = true →
            decide ((0 : Int) ≤ n) = true ∧
            decide ((n : Int) < 32) = true ∧
            leB ((Int.toNat (n)) * 7 + 40) (List.length cs) = true ∧
            rq [.agg rc] = true ∧
            ok7U [.agg (subL cs ((Int.toNat (n)) * 7 + 33) (7))] = true ∧
            okSU [.agg cs] = true ∧
            (fBU [.agg cs, .agg (subL cs ((Int.toNat (n)) * 7 + 33) (7)), .int .i64 (w)] = true →
              Q .normal [.yld 6, .ptr (.rw 5) (0), .int .i64 (IntKind.wrap .i64 (n + 1))] [some ⟨1, cs⟩, some ⟨1, ([.ptr (.rw 0) (0)] : List AV)⟩, some ⟨1, ([.int .i64 (w)] : List AV)⟩, some ⟨1, ([.func 31 [.ptr (.rw 2) (0), .ptr (.rw 1) (0)]] : List AV)⟩, some ⟨1, ([.bool (r)] : List AV)⟩, some ⟨1, ([.ptr (.rw 0) (0)] : List AV)⟩, some ⟨4294967291, rc⟩]) ∧
            (fBU [.agg cs, .agg (subL cs ((Int.toNat (n)) * 7 + 33) (7)), .int .i64 (w)] = false →
              Q .ret [.yld 6, .ptr (.rw 5) (0), .int .i64 (n)] [some ⟨1, cs⟩, some ⟨1, ([.ptr (.rw 0) (0)] : List AV)⟩, some ⟨1, ([.int .i64 (w)] : List AV)⟩, some ⟨1, ([.func 31 [.ptr (.rw 2) (0), .ptr (.rw 1) (0)]] : List AV)⟩, some ⟨1, ([.bool (false)] : List AV)⟩, some ⟨1, ([.ptr (.rw 0) (0)] : List AV)⟩, some ⟨4294967291, rc2⟩])) ∧
          (getB cs (Int.toNat (n) + 1) = false →
            Q .normal [.yld 6, .ptr (.rw 5) (0), .int .i64 (IntKind.wrap .i64 (n + 1))] [some ⟨1, cs⟩, some ⟨1, ([.ptr (.rw 0) (0)] : List AV)⟩, some ⟨1, ([.int .i64 (w)] : List AV)⟩, some ⟨1, ([.func 31 [.ptr (.rw 2) (0), .ptr (.rw 1) (0)]] : List AV)⟩, some ⟨1, ([.bool (r)] : List AV)⟩, some ⟨1, ([.ptr (.rw 0) (0)] : List AV)⟩, some ⟨4294967291, rc⟩])) ∧
        (decide ((n : Int) ≥ 0) = false →
          Q .normal [.yld 6, .ptr (.rw 5) (0), .int .i64 (IntKind.wrap .i64 (n + 1))] [some ⟨1, cs⟩, some ⟨1, ([.ptr (.rw 0) (0)] : List AV)⟩, some ⟨1, ([.int .i64 (w)] : List AV)⟩, some ⟨1, ([.func 31 [.ptr (.rw 2) (0), .ptr (.rw 1) (0)]] : List AV)⟩, some ⟨1, ([.bool (r)] : List AV)⟩, some ⟨1, ([.ptr (.rw 0) (0)] : List AV)⟩, some ⟨4294967291, rc⟩])) ∧
      (getB cs (0) = false →
        Q .normal [.yld 6, .ptr (.rw 5) (0), .int .i64 (IntKind.wrap .i64 (n + 1))] [some ⟨1, cs⟩, some ⟨1, ([.ptr (.rw 0) (0)] : List AV)⟩, some ⟨1, ([.int .i64 (w)] : List AV)⟩, some ⟨1, ([.func 31 [.ptr (.rw 2) (0), .ptr (.rw 1) (0)]] : List AV)⟩, some ⟨1, ([.bool (r)] : List AV)⟩, some ⟨1, ([.ptr (.rw 0) (0)] : List AV)⟩, some ⟨4294967291, rc⟩])) ∧
    (decide ((n : Int) < 32) = false →
      Q (.exit 0) [.yld 6, .ptr (.rw 5) (0), .int .i64 (n)] [some ⟨1, cs⟩, some ⟨1, ([.ptr (.rw 0) (0)] : List AV)⟩, some ⟨1, ([.int .i64 (w)] : List AV)⟩, some ⟨1, ([.func 31 [.ptr (.rw 2) (0), .ptr (.rw 1) (0)]] : List AV)⟩, some ⟨1, ([.bool (r)] : List AV)⟩, some ⟨1, ([.ptr (.rw 0) (0)] : List AV)⟩, some ⟨4294967291, rc⟩])) := by kernel_rfl
def F0f : Fr := fl 13 [3, 4, 7] [.ptr (.rw 3) 0, .ptr (.rw 4) 0, .func 46 [.ptr (.rw 5) 0]]
noncomputable def rcF (p : Nat) : List AV := rcA (loopN Try.f29 0) p F0f
theorem rcF_ok : bnds 7 (rcF 0) = true := by kernel_rfl
theorem rcF_ok2 : bnds 7 (rcF 2) = true := by kernel_rfl
theorem isT_boxes2 : bnds 7 [AV.func 31 [.ptr (.rw 2) 0, .ptr (.rw 1) 0]] = true := by kernel_rfl
def HF6 (cs : List AV) (w : Int) (r : Bool) : DHp := [some ⟨1, .var 8 cs⟩, some ⟨1, .of [.ptr (.rw 0) (.lit 0)]⟩, some ⟨1, .of [.int .i64 (.var 20 w)]⟩, some ⟨1, .of [.func 31 [.ptr (.rw 2) (.lit 0), .ptr (.rw 1) (.lit 0)]]⟩, some ⟨1, .of [.bool (.var 23 r)]⟩, some ⟨1, .of [.ptr (.rw 0) (.lit 0)]⟩]
theorem HF6_b (G : Nat → List AV) {cs : List AV} (hs : okS cs = true) (w : Int) (r : Bool) : hpB 6 (vHp G (HF6 cs w r)) = true := by
  simp only [HF6, vHp, List.map_cons, List.map_nil, Option.map_some, vBlk, vL, vVs, vV, vR, vN, vI, vB, hpB, okS_flat hs, bnds, bnd, Bool.and_self, Bool.and_true]
  rfl
theorem HF_b (G : Nat → List AV) {cs rc : List AV} (hs : okS cs = true) (w : Int) (r : Bool) (hr : bnds 7 rc = true) : hpB 7 (vHp G (HFd (.var 8 cs) (.var 20 w) (.var 23 r) (.var 24 rc))) = true := by
  simp only [HFd, vHp, List.map_cons, List.map_nil, Option.map_some, vBlk, vL, vVs, vV, vR, vN, vI, vB, hpB, okS_flat hs, hr, isT_boxes2, bnds, bnd, Bool.and_self, Bool.and_true]
  rfl
theorem y_f (G : Nat → List AV) (B : Nat) (cs : List AV) (hs : okS cs = true) (x0 x1 x2 x3 x4 x5 x6 : Int) (w : Int) (r : Bool) : AYld (⟨Try.prog, G, B⟩ : Ctx) 6 [.agg (l7 x0 x1 x2 x3 x4 x5 x6)] (vHp G (HFd (.var 8 cs) (.var 20 w) (.var 23 r) (.var 24 (rcF 0)))) fun v H' => (fB cs (l7 x0 x1 x2 x3 x4 x5 x6) w = true → v = .bool true ∧ H' = vHp G (HFd (.var 8 cs) (.var 20 w) (.var 23 r) (.var 24 (rcF 0)))) ∧ (fB cs (l7 x0 x1 x2 x3 x4 x5 x6) w = false → v = .bool false ∧ H' = vHp G (HFd (.var 8 cs) (.var 20 w) (.var 23 false) (.var 24 (rcF 2)))) := by
  refine AYld.dx (C := (⟨Try.prog, G, B⟩ : Ctx)) (K := (Dc Try.prog [31] [] [] 0)) (f1 := 200) (f2 := 300) (n1 := 60) (n2 := 60) (N := 13) (live := [3, 4, 7, 8, 5]) (i := 6) (e := 4294967291) (ps := rgP (loopN Try.f29 0)) (ac := rgA (loopN Try.f29 0)) (bd := rgB (loopN Try.f29 0)) (F0 := F0f)
    (vs := [.ptr (.rw 3) (.lit 0), .ptr (.rw 4) (.lit 0), .func 46 [.ptr (.rw 5) (.lit 0)], .agg (.of (E7 (.var 11 x0) (.var 12 x1) (.var 13 x2) (.var 14 x3) (.var 15 x4) (.var 16 x5) (.var 17 x6))), .undef]) (vs1 := [.ptr (.rw 3) (.lit 0), .ptr (.rw 4) (.lit 0), .func 46 [.ptr (.rw 5) (.lit 0)], .agg (.of (E7 (.var 11 x0) (.var 12 x1) (.var 13 x2) (.var 14 x3) (.var 15 x4) (.var 16 x5) (.var 17 x6))), .ptr (.rw 7) (.lit 0)])
    (H := (HFd (.var 8 cs) (.var 20 w) (.var 23 r) (.var 24 (rcF 0)))) (H1 := (HFd (.var 8 cs) (.var 20 w) (.var 23 r) (.var 24 (rcF 0))) ++ [some ⟨1, (.of (E7 (.var 11 x0) (.var 12 x1) (.var 13 x2) (.var 14 x3) (.var 15 x4) (.var 16 x5) (.var 17 x6)))⟩]) (H2 := (HFd (.var 8 cs) (.var 20 w) (.var 23 r) (.var 24 (rcF 1))) ++ [some ⟨1, (.of (E7 (.var 11 x0) (.var 12 x1) (.var 13 x2) (.var 14 x3) (.var 15 x4) (.var 16 x5) (.var 17 x6)))⟩])
    (dgNo G B (by kernel_rfl) (by kernel_rfl)) (dgNo G B (by kernel_rfl) (by kernel_rfl)) rfl rfl rfl (by kernel_rfl) (by kernel_rfl) rfl ?_ rfl (by simp [HFd]) rfl ?_
  · have := f_as G cs (rcF 0) w r x0 x1 x2 x3 x4 x5 x6 (fun ex ws H' => ex = .normal ∧ ws = vVs G [.ptr (.rw 3) (.lit 0), .ptr (.rw 4) (.lit 0), .func 46 [.ptr (.rw 5) (.lit 0)], .agg (.of (E7 (.var 11 x0) (.var 12 x1) (.var 13 x2) (.var 14 x3) (.var 15 x4) (.var 16 x5) (.var 17 x6))), .ptr (.rw 7) (.lit 0)] ∧ H' = vHp G ((HFd (.var 8 cs) (.var 20 w) (.var 23 r) (.var 24 (rcF 0))) ++ [some ⟨1, (.of (E7 (.var 11 x0) (.var 12 x1) (.var 13 x2) (.var 14 x3) (.var 15 x4) (.var 16 x5) (.var 17 x6)))⟩])) (fun _ _ => False)
    refine Eq.mpr this ⟨rfl, rfl, rfl⟩
  · have := f_bd G cs (rcF 1) w r x0 x1 x2 x3 x4 x5 x6 (fun ex _ H' => H'[6]? = some (some ⟨4294967291, .rcd 1 (rgP (loopN Try.f29 0)) (rgA (loopN Try.f29 0)) (rgB (loopN Try.f29 0)) :: F0f⟩) ∧ ∃ H'' Gx, H'.set 6 (some ⟨4294967291, .rcd (stEx ex) (rgP (loopN Try.f29 0)) (rgA (loopN Try.f29 0)) (rgB (loopN Try.f29 0)) :: F0f⟩) = H'' ++ Gx ∧ (HFd (.var 8 cs) (.var 20 w) (.var 23 r) (.var 24 (rcF 0))).length ≤ H''.length ∧ hpB H''.length H'' = true ∧ ((fB cs (l7 x0 x1 x2 x3 x4 x5 x6) w = true → AV.bool (isNormal ex) = .bool true ∧ H'' = vHp G (HFd (.var 8 cs) (.var 20 w) (.var 23 r) (.var 24 (rcF 0)))) ∧ (fB cs (l7 x0 x1 x2 x3 x4 x5 x6) w = false → AV.bool (isNormal ex) = .bool false ∧ H'' = vHp G (HFd (.var 8 cs) (.var 20 w) (.var 23 false) (.var 24 (rcF 2)))))) (fun _ _ => False)
    have ef : fB cs (l7 x0 x1 x2 x3 x4 x5 x6) w = (decide (x6 ≤ w) && decide (w64 (tk cs - x5) < w)) := rfl
    refine Eq.mpr this ⟨fun h6 => ⟨okS_tick hs, fun hd => ?_, fun hd => ?_⟩, fun h6 => ?_⟩
    · have e : fB cs (l7 x0 x1 x2 x3 x4 x5 x6) w = true := by rw [ef, h6, show decide (w64 (tk cs - x5) < w) = true from hd]; rfl
      exact ⟨rfl, vHp G (HFd (.var 8 cs) (.var 20 w) (.var 23 r) (.var 24 (rcF 0))), [_, _], rfl, by simp [HFd, vHp], HF_b G hs w r rcF_ok, ⟨fun _ => ⟨rfl, rfl⟩, fun h => by rw [e] at h; cases h⟩⟩
    · have e : fB cs (l7 x0 x1 x2 x3 x4 x5 x6) w = false := by rw [ef, h6, show decide (w64 (tk cs - x5) < w) = false from hd]; rfl
      exact ⟨rfl, vHp G (HFd (.var 8 cs) (.var 20 w) (.var 23 false) (.var 24 (rcF 2))), [_, _], rfl, by simp [HFd, vHp], HF_b G hs w false rcF_ok2, ⟨fun h => (by rw [e] at h; cases h), fun _ => ⟨rfl, rfl⟩⟩⟩
    · have e : fB cs (l7 x0 x1 x2 x3 x4 x5 x6) w = false := by rw [ef, h6]; rfl
      exact ⟨rfl, vHp G (HFd (.var 8 cs) (.var 20 w) (.var 23 false) (.var 24 (rcF 2))), [_, _], rfl, by simp [HFd, vHp], HF_b G hs w false rcF_ok2, ⟨fun h => (by rw [e] at h; cases h), fun _ => ⟨rfl, rfl⟩⟩⟩
theorem yF_ok (G : Nat → List AV) (B : Nat) : DYsumOk (⟨Try.prog, G, B⟩ : Ctx) (yF (isRc (rcF 0)) (.var 25 (rcF 2))) := by
  intro i args H oo ho
  unfold yF at ho
  split at ho
  · rename_i hi8
    have := Nat.eq_of_beq_eq_true hi8
    subst this
    split at ho
    · rename_i x l w rb rc
      simp only [Option.some.injEq] at ho
      subst ho
      intro h1 h2 h3
      simp only [vB, vVs, vV] at h1 h2 h3
      have e1 := isRc_iff.1 h1
      have ex := ok7_cells h2
      have key := y_f G B (vL G l) h3 (getI (vL G x) 0) (getI (vL G x) 1) (getI (vL G x) 2) (getI (vL G x) 3) (getI (vL G x) 4) (getI (vL G x) 5) (getI (vL G x) 6) (vI G w) (vB G rb)
      rw [← ex] at key
      simp only [vVs, vV, HFd, vHp, List.map_cons, List.map_nil, Option.map_some, vBlk, vL, vR, vN, vI, vB, ← e1] at key
      refine ⟨fun hb => ?_, fun hb => ?_⟩
      · simp only [vB, vVs, vV, fBU] at hb
        unfold DYld
        simp only [vVs, vV, vHp, List.map_cons, List.map_nil, Option.map_some, vBlk, vL, vR, vN, vI, vB]
        refine key.mono ?_
        rintro v H' ⟨g, _⟩
        exact g hb
      · simp only [vB, vVs, vV, fBU] at hb
        unfold DYld
        simp only [vVs, vV, vHp, List.map_cons, List.map_nil, Option.map_some, vBlk, vL, vR, vN, vI, vB]
        refine key.mono ?_
        rintro v H' ⟨_, g⟩
        exact g hb
    · simp at ho
  · simp at ho
theorem dgYF (G : Nat → List AV) (B : Nat) : DGood (⟨Try.prog, G, B⟩ : Ctx) (Dr Try.prog [26, 28] [] [] [] (yF (isRc (rcF 0)) (.var 25 (rcF 2))) 0) [] := dgoodr (mix G B) (by kernel_rfl) .nil .nil .none (yF_ok G B)
def IF (G : Nat → List AV) (cs : List AV) (w : Int) (r : Bool) (j : Nat) (vs : List AV) (H : Hp) : Prop := ∃ n : Nat, n ≤ 32 ∧ j = 32 - n ∧ vs = [.yld 6, .ptr (.rw 5) 0, .int .i64 (n : Int)] ∧ fairF cs w n = true ∧ H = vHp G (HFd (.var 8 cs) (.var 20 w) (.var 23 r) (.var 24 (rcF 0)))
theorem f_loop (G : Nat → List AV) (B : Nat) (cs : List AV) (hs : okS cs = true) (w : Int) (r : Bool) :
    AWp (⟨Try.prog, G, B⟩ : Ctx) 7 (.loop (loopN Try.f46 0)) (fl 22 [0, 1, 4] [.yld 6, .ptr (.rw 5) 0, .int .i64 0]) (vHp G (HFd (.var 8 cs) (.var 20 w) (.var 23 r) (.var 24 (rcF 0))))
      (lv 22 [0, 1, 4] fun e vs H => wk [.undef, .undef, .undef] vs ∧ (fairF cs w 32 = true → e = .exit 0 ∧ H = vHp G (HFd (.var 8 cs) (.var 20 w) (.var 23 r) (.var 24 (rcF 0)))) ∧ (fairF cs w 32 = false → e = .ret ∧ H = vHp G (HFd (.var 8 cs) (.var 20 w) (.var 23 false) (.var 24 (rcF 2))))) := by
  refine aloop_lv (IF G cs w r) 32 ⟨0, by omega, rfl, rfl, rfl, rfl⟩ ?_
  rintro j vs H ⟨n, hn, rfl, rfl, hf, rfl⟩
  refine dloop_ok (C := (⟨Try.prog, G, B⟩ : Ctx)) (dgYF G B) (fuel := 300) (n0 := 60) (m := 7) (c := loopN Try.f46 0) (vs := [.yld 6, .ptr (.rw 5) (.lit 0), .int .i64 (.var 6 (n : Int))]) (H := (HFd (.var 8 cs) (.var 20 w) (.var 23 r) (.var 24 (rcF 0)))) (by simp [HFd]) ?_
  rw [f_it (rc2 := rcF 2)]
  have hl := okS_len hs
  have nx : n < 32 → fairF cs w (n + 1) = true → ∃ k', k' < 32 - n ∧ (IF G cs w r k' [.yld 6, .ptr (.rw 5) 0, .int .i64 (IntKind.wrap .i64 ((n : Int) + 1))] (vHp G (HFd (.var 8 cs) (.var 20 w) (.var 23 r) (.var 24 (rcF 0)))) ∨ ∃ vs'' H'', IF G cs w r k' vs'' H'' ∧ View 7 vs'' H'' [.yld 6, .ptr (.rw 5) 0, .int .i64 (IntKind.wrap .i64 ((n : Int) + 1))] (vHp G (HFd (.var 8 cs) (.var 20 w) (.var 23 r) (.var 24 (rcF 0))))) := fun h e =>
    ⟨32 - (n + 1), by omega, .inl ⟨n + 1, by omega, rfl, by rw [i64_in (by omega)]; rfl, e, rfl⟩⟩
  refine ⟨fun h => ⟨okS_0 hs, fun _ => ⟨fun h0 => ⟨h, decide_eq_true (by omega), h, ?_, fun ho => ⟨decide_eq_true (by omega), h, leB_iff.2 ?_, isRc_iff.2 rfl, ?_, hs, fun hb => ?_, fun hb => ?_⟩, fun ho => ?_⟩, fun h0 => ?_⟩, fun h0 => ?_⟩, fun h => ⟨by simp [wk], ?_, ?_⟩⟩
  · have := of_decide_eq_true h
    rw [Int.toNat_natCast]; exact okS_open hs (by omega)
  · have := of_decide_eq_true h
    rw [Int.toNat_natCast]; omega
  · have := of_decide_eq_true h
    rw [Int.toNat_natCast]; exact sub_ok7 hs (by omega)
  · have h32 := of_decide_eq_true h
    rw [Int.toNat_natCast] at hb
    refine nx (by omega) ?_
    simp only [fairF, hf, show fB cs (subL cs (n * 7 + 33) 7) w = true from hb, Bool.or_true, Bool.and_self]
  · have h32 := of_decide_eq_true h
    rw [Int.toNat_natCast] at hb ho
    have e : fairF cs w (n + 1) = false := by simp only [fairF, hf, show fB cs (subL cs (n * 7 + 33) 7) w = false from hb, show sO cs n = true from ho, Bool.not_true, Bool.or_self, Bool.and_false]
    have e32 := fairF_false e (32 - (n + 1))
    rw [show n + 1 + (32 - (n + 1)) = 32 by omega] at e32
    exact ⟨by simp [wk], fun q => (by rw [e32] at q; cases q), fun _ => ⟨rfl, rfl⟩⟩
  · have h32 := of_decide_eq_true h
    rw [Int.toNat_natCast] at ho
    refine nx (by omega) ?_
    simp only [fairF, hf, show sO cs n = false from ho, Bool.not_false, Bool.true_or, Bool.and_self]
  · exact absurd (of_decide_eq_false h0) (by omega)
  · rw [okS_made hs] at h0; cases h0
  · intro _; exact ⟨rfl, rfl⟩
  · intro q
    have : n = 32 := by have := of_decide_eq_false h; omega
    subst this
    rw [hf] at q; cases q
def iF (rq : List AV → Bool) (rc2 : EL) : DL := ⟨0, 22, [0, 1, 4], fun vs H => match vs, H with
  | [.yld 6, .ptr (.rw 5) (.lit 0), .int .i64 (.lit 0)], [some ⟨1, l⟩, some ⟨1, .of [.ptr (.rw 0) (.lit 0)]⟩, some ⟨1, .of [.int .i64 w]⟩, some ⟨1, .of [.func 31 [.ptr (.rw 2) (.lit 0), .ptr (.rw 1) (.lit 0)]]⟩, some ⟨1, .of [.bool r]⟩, some ⟨1, .of [.ptr (.rw 0) (.lit 0)]⟩, some ⟨4294967291, rc⟩] =>
    some (.chk (.uf 1400 rq [.agg rc]) (.chk (.uf 1300 okSU [.agg l]) (.tst (.uf 1411 fairU [.agg l, .int .i64 w]) (.one (.exit 0) [.undef, .undef, .undef] (HFd l w r rc)) (.one .ret [.undef, .undef, .undef] (HFd l w (.lit false) rc2)))))
  | _, _ => none⟩
theorem iF_ok (G : Nat → List AV) (B : Nat) : DLoopOk (⟨Try.prog, G, B⟩ : Ctx) 7 (loopN Try.f46 0) (iF (isRc (rcF 0)) (.var 25 (rcF 2))) := by
  refine .of fun vs H o ho n Q hQ => ?_
  simp only [iF] at ho
  split at ho
  · rename_i l w r rc
    simp only [Option.some.injEq] at ho
    subst ho
    obtain ⟨h1, h2, h3, h4⟩ := hQ
    simp only [vB, vVs, vV] at h1 h2
    have e1 := isRc_iff.1 h1
    simp only [iF, vVs, vV, vR, vN, vI, vB, vHp, List.map_cons, List.map_nil, Option.map_some, vBlk, vL]
    have key := f_loop G B (vL G l) h2 (vI G w) (vB G r)
    simp only [HFd, vVs, vV, vR, vN, vI, vB, vHp, List.map_cons, List.map_nil, Option.map_some, vBlk, vL, ← e1] at key
    refine key.lmono ?_
    rintro e vs'' H'' ⟨g2, g3, g4⟩
    cases hf : fairF (vL G l) (vI G w) 32 with
    | true =>
      obtain ⟨rfl, rfl⟩ := g3 hf
      refine .inl ⟨_, g2, ?_⟩
      have := h3 (by simp only [vB, vVs, vV, fairU]; exact hf)
      simp only [lHolds, HFd, vVs, vV, vR, vN, vI, vB, vL, vHp, List.map_cons, List.map_nil, Option.map_some, vBlk] at this
      exact this
    | false =>
      obtain ⟨rfl, rfl⟩ := g4 hf
      refine .inl ⟨_, g2, ?_⟩
      have := h4 (by simp only [vB, vVs, vV, fairU]; exact hf)
      simp only [lHolds, HFd, vVs, vV, vR, vN, vI, vB, vL, vHp, List.map_cons, List.map_nil, Option.map_some, vBlk] at this
      exact this
  · simp at ho
theorem f_c46 (G : Nat → List AV) (rq : List AV → Bool) (cs rc rc2 : List AV) (w : Int) (r : Bool) (Q : Ex → List AV → Hp → Prop) (R : AV → Hp → Prop) : vT G Q R (dcall (Dr Try.prog [] [] [iF rq (.var 25 rc2)] [] noY 7) 100 60 Try.f46 [.yld 6, .ptr (.rw 5) (.lit 0)] (HFd (.var 8 cs) (.var 20 w) (.var 23 r) (.var 24 rc)) 7) = (
    rq [.agg rc] = true ∧
    okSU [.agg cs] = true ∧
    (fairU [.agg cs, .int .i64 (w)] = true →
      R (.tup []) [some ⟨1, cs⟩, some ⟨1, ([.ptr (.rw 0) (0)] : List AV)⟩, some ⟨1, ([.int .i64 (w)] : List AV)⟩, some ⟨1, ([.func 31 [.ptr (.rw 2) (0), .ptr (.rw 1) (0)]] : List AV)⟩, some ⟨1, ([.bool (r)] : List AV)⟩, some ⟨1, ([.ptr (.rw 0) (0)] : List AV)⟩, some ⟨4294967291, rc⟩]) ∧
    (fairU [.agg cs, .int .i64 (w)] = false →
      R (.tup []) [some ⟨1, cs⟩, some ⟨1, ([.ptr (.rw 0) (0)] : List AV)⟩, some ⟨1, ([.int .i64 (w)] : List AV)⟩, some ⟨1, ([.func 31 [.ptr (.rw 2) (0), .ptr (.rw 1) (0)]] : List AV)⟩, some ⟨1, ([.bool (false)] : List AV)⟩, some ⟨1, ([.ptr (.rw 0) (0)] : List AV)⟩, some ⟨4294967291, rc2⟩])) := by kernel_rfl
theorem dgf46 (G : Nat → List AV) (B : Nat) : DGood (⟨Try.prog, G, B⟩ : Ctx) (Dr Try.prog [] [] [iF (isRc (rcF 0)) (.var 25 (rcF 2))] [] noY 7) (loopsOf (bodyOf Try.f46)) :=
  dgoodr (mix G B) (by kernel_rfl) .nil (.cast (.cons (i := 0) (by kernel_rfl) rfl (iF_ok G B) .nil) (by kernel_rfl)) .none noY_ok
theorem f46t (G : Nat → List AV) (B : Nat) (cs : List AV) (hs : okS cs = true) (w : Int) (r : Bool) (hf : fairF cs w 32 = true) : ACalls (⟨Try.prog, G, B⟩ : Ctx) 46 [.yld 6, .ptr (.rw 5) 0] (vHp G (HF6 cs w r) ++ [some ⟨4294967291, rcF 0⟩]) fun v H => v = .tup [] ∧ H = (vHp G (HF6 cs w r) ++ [some ⟨4294967291, rcF 0⟩]) := by
  have := dcall_ok (C := (⟨Try.prog, G, B⟩ : Ctx)) (fuel := 100) (n0 := 60) (f := 46) (fn := Try.f46) (args := [.yld 6, .ptr (.rw 5) (.lit 0)]) (H := (HFd (.var 8 cs) (.var 20 w) (.var 23 r) (.var 24 (rcF 0)))) (keep := 7)
    (R := fun v H => v = .tup [] ∧ H = (vHp G (HF6 cs w r) ++ [some ⟨4294967291, rcF 0⟩])) (dgf46 G B) (by kernel_rfl) (by kernel_rfl) (by kernel_rfl) (by
    have := f_c46 G (isRc (rcF 0)) cs (rcF 0) (rcF 2) w r (fun _ _ _ => False) (fun v H => v = .tup [] ∧ H = (vHp G (HF6 cs w r) ++ [some ⟨4294967291, rcF 0⟩]))
    exact Eq.mpr this ⟨isRc_iff.2 rfl, hs, fun _ => ⟨rfl, rfl⟩, fun h => (by rw [show fairU [.agg cs, .int .i64 w] = fairF cs w 32 from rfl, hf] at h; cases h)⟩)
  refine ACalls.keep (k := 7) ?_ (by simp [HF6, vHp]) (HF_b G hs _ _ rcF_ok) rfl (by simp)
  exact this
theorem f46f (G : Nat → List AV) (B : Nat) (cs : List AV) (hs : okS cs = true) (w : Int) (r : Bool) (hf : fairF cs w 32 = false) : ACalls (⟨Try.prog, G, B⟩ : Ctx) 46 [.yld 6, .ptr (.rw 5) 0] (vHp G (HF6 cs w r) ++ [some ⟨4294967291, rcF 0⟩]) fun v H => v = .tup [] ∧ H = (vHp G (HF6 cs w false) ++ [some ⟨4294967291, rcF 2⟩]) := by
  have := dcall_ok (C := (⟨Try.prog, G, B⟩ : Ctx)) (fuel := 100) (n0 := 60) (f := 46) (fn := Try.f46) (args := [.yld 6, .ptr (.rw 5) (.lit 0)]) (H := (HFd (.var 8 cs) (.var 20 w) (.var 23 r) (.var 24 (rcF 0)))) (keep := 7)
    (R := fun v H => v = .tup [] ∧ H = (vHp G (HF6 cs w false) ++ [some ⟨4294967291, rcF 2⟩])) (dgf46 G B) (by kernel_rfl) (by kernel_rfl) (by kernel_rfl) (by
    have := f_c46 G (isRc (rcF 0)) cs (rcF 0) (rcF 2) w r (fun _ _ _ => False) (fun v H => v = .tup [] ∧ H = (vHp G (HF6 cs w false) ++ [some ⟨4294967291, rcF 2⟩]))
    exact Eq.mpr this ⟨isRc_iff.2 rfl, hs, fun h => (by rw [show fairU [.agg cs, .int .i64 w] = fairF cs w 32 from rfl, hf] at h; cases h), fun _ => ⟨rfl, rfl⟩⟩)
  refine ACalls.keep (k := 7) ?_ (by simp [HF6, vHp]) (HF_b G hs w false rcF_ok2) rfl (by simp)
  exact this
theorem f_rng (G : Nat → List AV) (B : Nat) (cs : List AV) (hs : okS cs = true) (w : Int) (r : Bool) : AWp (⟨Try.prog, G, B⟩ : Ctx) 6 (loopN Try.f29 0) F0f (vHp G (HF6 cs w r))
    (lv 13 [3, 4, 7] fun e vs H => vs = [.ptr (.rw 3) 0, .ptr (.rw 4) 0, .func 46 [.ptr (.rw 5) 0]] ∧ (fairF cs w 32 = true → e = .normal ∧ H = vHp G (HF6 cs w r) ++ [none]) ∧ (fairF cs w 32 = false → e = .ret ∧ H = vHp G (HF6 cs w false) ++ [none])) := by
  rw [N29_eq]
  refine AWp.rng (f := 46) (cap := [.ptr (.rw 5) 0]) (by simp [HF6, vHp]) (by kernel_rfl) ?_
  cases hf : fairF cs w 32 with
  | true =>
    refine (f46t G B cs hs w r hf).monoK ?_
    rintro v H ⟨rfl, rfl⟩
    exact ⟨rfl, fun _ => ⟨rfl, rfl⟩, fun h => (by cases h)⟩
  | false =>
    refine (f46f G B cs hs w r hf).monoK ?_
    rintro v H ⟨rfl, rfl⟩
    exact ⟨rfl, fun h => (by cases h), fun _ => ⟨rfl, rfl⟩⟩
def fR : DL := ⟨8, 13, [3, 4, 7], fun vs H => match vs, H with
  | [.ptr (.rw 3) (.lit 0), .ptr (.rw 4) (.lit 0), .func 46 [.ptr (.rw 5) (.lit 0)]], [some ⟨1, l⟩, some ⟨1, .of [.ptr (.rw 0) (.lit 0)]⟩, some ⟨1, .of [.int .i64 w]⟩, some ⟨1, .of [.func 31 [.ptr (.rw 2) (.lit 0), .ptr (.rw 1) (.lit 0)]]⟩, some ⟨1, .of [.bool r]⟩, some ⟨1, .of [.ptr (.rw 0) (.lit 0)]⟩] =>
    some (.chk (.uf 1300 okSU [.agg l]) (.tst (.uf 1411 fairU [.agg l, .int .i64 w]) (.one .normal [.ptr (.rw 3) (.lit 0), .ptr (.rw 4) (.lit 0), .func 46 [.ptr (.rw 5) (.lit 0)]] [some ⟨1, l⟩, some ⟨1, .of [.ptr (.rw 0) (.lit 0)]⟩, some ⟨1, .of [.int .i64 w]⟩, some ⟨1, .of [.func 31 [.ptr (.rw 2) (.lit 0), .ptr (.rw 1) (.lit 0)]]⟩, some ⟨1, .of [.bool r]⟩, some ⟨1, .of [.ptr (.rw 0) (.lit 0)]⟩])
      (.one .ret [.ptr (.rw 3) (.lit 0), .ptr (.rw 4) (.lit 0), .func 46 [.ptr (.rw 5) (.lit 0)]] [some ⟨1, l⟩, some ⟨1, .of [.ptr (.rw 0) (.lit 0)]⟩, some ⟨1, .of [.int .i64 w]⟩, some ⟨1, .of [.func 31 [.ptr (.rw 2) (.lit 0), .ptr (.rw 1) (.lit 0)]]⟩, some ⟨1, .of [.bool (.lit false)]⟩, some ⟨1, .of [.ptr (.rw 0) (.lit 0)]⟩])))
  | _, _ => none⟩
theorem fR_ok (G : Nat → List AV) (B : Nat) : DCodeOk (⟨Try.prog, G, B⟩ : Ctx) 3 (loopN Try.f29 0) fR := by
  intro m vs H o hm ho n Q hQ
  simp only [fR] at ho
  split at ho
  · rename_i l w r
    simp only [Option.some.injEq] at ho
    subst ho
    obtain ⟨h1, h2, h3⟩ := hQ
    simp only [vB, vVs, vV] at h1
    have key := f_rng G B (vL G l) h1 (vI G w) (vB G r)
    have key := key.pin (m' := m) (by omega)
    simp only [fR, HF6, vVs, vV, vR, vN, vI, vB, vHp, List.map_cons, List.map_nil, Option.map_some, vBlk, vL] at key ⊢
    refine key.lmono ?_
    rintro e vs'' H'' ⟨rfl, g1, g2⟩
    cases hf : fairF (vL G l) (vI G w) 32 with
    | true =>
      obtain ⟨rfl, rfl⟩ := g1 hf
      have := h2 (by simp only [vB, vVs, vV, fairU]; exact hf)
      simp only [lHolds, vVs, vV, vR, vN, vI, vB, vL, vHp, List.map_cons, List.map_nil, Option.map_some, vBlk] at this
      refine .inr ⟨_, _, ?_, this⟩
      refine View.same (by simp; omega) ?_ ⟨⟨rfl, rfl⟩, ⟨rfl, rfl⟩, ⟨rfl, rfl⟩, trivial⟩
      have := HF6_b G h1 (vI G w) (vB G r)
      simp only [HF6, vVs, vV, vR, vN, vI, vB, vHp, List.map_cons, List.map_nil, Option.map_some, vBlk, vL] at this
      exact this
    | false =>
      obtain ⟨rfl, rfl⟩ := g2 hf
      have := h3 (by simp only [vB, vVs, vV, fairU]; exact hf)
      simp only [lHolds, vVs, vV, vR, vN, vI, vB, vL, vHp, List.map_cons, List.map_nil, Option.map_some, vBlk] at this
      refine .inr ⟨_, _, ?_, this⟩
      refine View.same (by simp; omega) ?_ ⟨⟨rfl, rfl⟩, ⟨rfl, rfl⟩, ⟨rfl, rfl⟩, trivial⟩
      have := HF6_b G h1 (vI G w) false
      simp only [HF6, vVs, vV, vR, vN, vI, vB, vHp, List.map_cons, List.map_nil, Option.map_some, vBlk, vL] at this
      exact this
  · simp at ho
theorem dg29f (G : Nat → List AV) (B : Nat) : DGood (⟨Try.prog, G, B⟩ : Ctx) (Dr Try.prog [43] [] [] [fR] noY 3) (loopsOf (bodyOf Try.f29)) := by
  rw [show loopsOf (bodyOf Try.f29) = [loopN Try.f29 0] by kernel_rfl]
  exact dgoodr (mix G B) (by kernel_rfl) .nil (.skip (by kernel_rfl) .nil) (.cons (i := 8) (by kernel_rfl) rfl (fR_ok G B) .nil) noY_ok
theorem f_ev (G : Nat → List AV) (cs : List AV) (w : Int) (Q : Ex → List AV → Hp → Prop) (R : AV → Hp → Prop) : vT G Q R (dcall (Dr Try.prog [43] [] [] [fR] noY 3) 200 60 Try.f29 [.ptr (.rw 0) (.lit 0), .func 31 [.ptr (.rw 2) (.lit 0), .ptr (.rw 1) (.lit 0)]] [some ⟨1, .var 8 cs⟩, some ⟨1, .of [.ptr (.rw 0) (.lit 0)]⟩, some ⟨1, .of [.int .i64 (.var 20 w)]⟩] 3) = (
    okSU [.agg cs] = true ∧
    (fairU [.agg cs, .int .i64 (w)] = true →
      R (.bool (true)) [some ⟨1, cs⟩, some ⟨1, ([.ptr (.rw 0) (0)] : List AV)⟩, some ⟨1, ([.int .i64 (w)] : List AV)⟩]) ∧
    (fairU [.agg cs, .int .i64 (w)] = false →
      R (.bool (false)) [some ⟨1, cs⟩, some ⟨1, ([.ptr (.rw 0) (0)] : List AV)⟩, some ⟨1, ([.int .i64 (w)] : List AV)⟩])) := by kernel_rfl
theorem f29c (G : Nat → List AV) (B : Nat) (cs : List AV) (hs : okS cs = true) (w : Int) : ACalls (⟨Try.prog, G, B⟩ : Ctx) 29 [.ptr (.rw 0) 0, .func 31 [.ptr (.rw 2) 0, .ptr (.rw 1) 0]] (vHp G [some ⟨1, .var 8 cs⟩, some ⟨1, .of [.ptr (.rw 0) (.lit 0)]⟩, some ⟨1, .of [.int .i64 (.var 20 w)]⟩])
    fun v H => v = .bool (fairF cs w 32) ∧ H = vHp G [some ⟨1, .var 8 cs⟩, some ⟨1, .of [.ptr (.rw 0) (.lit 0)]⟩, some ⟨1, .of [.int .i64 (.var 20 w)]⟩] := by
  have := dcall_ok (C := (⟨Try.prog, G, B⟩ : Ctx)) (fuel := 200) (n0 := 60) (f := 29) (fn := Try.f29) (args := [.ptr (.rw 0) (.lit 0), .func 31 [.ptr (.rw 2) (.lit 0), .ptr (.rw 1) (.lit 0)]]) (H := [some ⟨1, .var 8 cs⟩, some ⟨1, .of [.ptr (.rw 0) (.lit 0)]⟩, some ⟨1, .of [.int .i64 (.var 20 w)]⟩]) (keep := 3)
    (R := fun v H => v = .bool (fairF cs w 32) ∧ H = vHp G [some ⟨1, .var 8 cs⟩, some ⟨1, .of [.ptr (.rw 0) (.lit 0)]⟩, some ⟨1, .of [.int .i64 (.var 20 w)]⟩]) (dg29f G B) (by kernel_rfl) (by kernel_rfl) (by kernel_rfl) (by
    rw [f_ev, show fairU [.agg cs, .int .i64 w] = fairF cs w 32 from rfl]
    exact ⟨hs, fun h => ⟨by rw [h], rfl⟩, fun h => ⟨by rw [h], rfl⟩⟩)
  refine ACalls.keep (k := 3) this (by simp [vHp]) ?_ rfl (by simp)
  simp only [vHp, List.map_cons, List.map_nil, Option.map_some, vBlk, vL, vVs, vV, vR, vN, vI, vB, hpB, okS_flat hs, bnds, bnd, Bool.and_self, Bool.and_true]
  rfl
def everyF : DSum := fun args H => match args, H with
  | [.ptr (.rw 0) (.lit 0), .func 31 [.ptr (.rw 2) (.lit 0), .ptr (.rw 1) (.lit 0)]], [some ⟨1, l⟩, some ⟨1, .of [.ptr (.rw 0) (.lit 0)]⟩, some ⟨1, .of [.int .i64 w]⟩] =>
    some (.chk (.uf 1300 okSU [.agg l]) (.one (.bool (.uf 1411 fairU [.agg l, .int .i64 w])) []))
  | _, _ => none
theorem everyF_ok (G : Nat → List AV) (B : Nat) : DSumOk (⟨Try.prog, G, B⟩ : Ctx) 29 everyF := by
  intro args H o ho
  unfold everyF at ho
  split at ho
  · rename_i l w
    simp only [Option.some.injEq] at ho
    subst ho
    intro h1
    simp only [vB, vVs, vV] at h1
    have key := f29c G B (vL G l) h1 (vI G w)
    unfold DOut
    simp only [vVs, vV, vR, vN, vHp, List.map_cons, List.map_nil, Option.map_some, vBlk, vL, vI, vB] at key ⊢
    refine key.monoK ?_
    rintro v H' ⟨rfl, rfl⟩
    exact ⟨rfl, rfl⟩
  · simp at ho
theorem f_fr (G : Nat → List AV) (cs : List AV) (w : Int) (Q : Ex → List AV → Hp → Prop) (R : AV → Hp → Prop) : vT G Q R (dcall (Dc Try.prog [26] [(29, everyF)] [] 0) 200 60 Try.f18 [.ptr (.rw 0) (.lit 0), .int .i64 (.var 20 w)] [some ⟨1, .var 8 cs⟩] 1) = (
    isB cs (0) = true ∧
    (getB cs (0) = true →
      okSU [.agg cs] = true ∧
      R (.bool (fairU [.agg cs, .int .i64 (w)])) [some ⟨1, cs⟩]) ∧
    (getB cs (0) = false →
      R (.bool (false)) [some ⟨1, cs⟩])) := by kernel_rfl
theorem p_fair (G : Nat → List AV) (B : Nat) (cs : List AV) (w : Int) (hs : okS cs = true) : ACalls (⟨Try.prog, G, B⟩ : Ctx) 18 [.ptr (.rw 0) 0, .int .i64 w] [some ⟨1, cs⟩] fun v H => v = .bool (fairF cs w 32) ∧ H.take 1 = [some ⟨1, cs⟩] := by
  have := dcall_ok (C := (⟨Try.prog, G, B⟩ : Ctx)) (fuel := 200) (n0 := 60) (f := 18) (fn := Try.f18) (args := [.ptr (.rw 0) (.lit 0), .int .i64 (.var 20 w)]) (H := [some ⟨1, .var 8 cs⟩]) (keep := 1)
    (R := fun v H => v = .bool (fairF cs w 32) ∧ H = [some ⟨1, cs⟩]) (by rw [show loopsOf (bodyOf Try.f18) = [] by kernel_rfl]; exact dgood (inl := [26]) (ls := []) (M := 0) (mix G B) (by kernel_rfl) (.cons (everyF_ok G B) .nil) .nil) (by kernel_rfl) (by kernel_rfl) (by kernel_rfl) (by
    rw [f_fr]
    repeat' first | refine And.intro ?_ ?_ | intro _
    all_goals first | exact okS_0 hs | exact hs | rfl | (rename_i h; rw [okS_made hs] at h; cases h))
  simp only [vVs, vV, vR, vN, vI, vHp, List.map_cons, List.map_nil, Option.map_some, vBlk, vL] at this
  exact this
def fairS : DSum := fun args H => match args with
  | [.ptr (.rw i) (.lit 0), .int .i64 w] => match H[i]? with
    | some (some ⟨1, l⟩) => some (.chk (.uf 1300 okSU [.agg l]) (.one (.bool (.uf 1411 fairU [.agg l, .int .i64 w])) []))
    | _ => none
  | _ => none
theorem fairS_ok (G : Nat → List AV) (B : Nat) : DSumOk (⟨Try.prog, G, B⟩ : Ctx) 18 fairS := by
  intro args H o ho
  unfold fairS at ho
  split at ho
  · rename_i i w
    split at ho
    · rename_i l hi
      simp only [Option.some.injEq] at ho
      subst ho
      intro h1
      simp only [vB, vVs, vV, okSU] at h1
      have key := p_fair G B (vL G l) (vI G w) h1
      refine DOut.get1 (C := (⟨Try.prog, G, B⟩ : Ctx)) hi ?_ (okS_flat h1 0) (by simp [vVs, vV, bnds, bnd]) (by simp [vV, bnd]) (by simp [vV])
      simp only [vVs, vV, vI, vB, fairU]
      exact key
    · simp at ho
  · simp at ho
def progR : List (Nat × DSum) := (17, waitsS) :: (18, fairS) :: progT
theorem progR_ok (G : Nat → List AV) (B : Nat) : DSumsOk (⟨Try.prog, G, B⟩ : Ctx) progR := .cons (waitsS_ok G B) (.cons (fairS_ok G B) (progT_ok G B))
end Go.Am
