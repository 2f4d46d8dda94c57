/-
  Slices: Waits, by the loop over the open slots.
-/
import Derived.Test.YtfalglcagngbnaaSlF
import Derived.Test.YtfalglcagngbnaaSlH
import Derived.Test.YtfalglcagngbnaaBase6
import Derived.Test.YtfalglcagngbnaaProg
namespace Go.Am
open Go.Proofs
set_option maxRecDepth 100000
def ok7 (xs : List AV) : Bool := Nat.beq xs.length 7 && (List.range 7).all fun i => isI .i64 xs i
def ok7U : List AV → Bool := fun ys => match ys with
  | [.agg xs] => ok7 xs
  | _ => false
def l7 (a b c d e f g : Int) : List AV := [.int .i64 a, .int .i64 b, .int .i64 c, .int .i64 d, .int .i64 e, .int .i64 f, .int .i64 g]
theorem ok7_cells {xs : List AV} (h : ok7 xs = true) : xs = l7 (getI xs 0) (getI xs 1) (getI xs 2) (getI xs 3) (getI xs 4) (getI xs 5) (getI xs 6) := by
  simp only [ok7, Bool.and_eq_true, List.all_eq_true, List.mem_range] at h
  have hl := Nat.eq_of_beq_eq_true h.1
  apply List.ext_getElem?
  intro i
  by_cases hi : i < 7
  · rw [isI_cell (h.2 i hi)]
    match i, hi with
    | 0, _ | 1, _ | 2, _ | 3, _ | 4, _ | 5, _ | 6, _ => rfl
  · rw [List.getElem?_eq_none (by omega), List.getElem?_eq_none (by simp [l7]; omega)]
def E7 (a b c d e f g : EI) : List EV := [.int .i64 a, .int .i64 b, .int .i64 c, .int .i64 d, .int .i64 e, .int .i64 f, .int .i64 g]
/-- the slot that waits, told slot by slot -/
def wStep (cs xs : List AV) (p : Int × Int × Bool) : Int × Int × Bool :=
  if !p.2.2 || decide (w64 (tk cs - getI xs 5) > p.2.1) then (getI xs 0, w64 (tk cs - getI xs 5), true) else p
def wA : List AV → List AV × List AV × (Int × Int × Bool) := fun ys => match ys with
  | [.agg cs, .agg xs, .int _ s, .int _ t, .bool o] => (cs, xs, (s, t, o))
  | _ => ([], [], (0, 0, false))
def wSU (ys : List AV) : Int := (wStep (wA ys).1 (wA ys).2.1 (wA ys).2.2).1
def wTU (ys : List AV) : Int := (wStep (wA ys).1 (wA ys).2.1 (wA ys).2.2).2.1
def wOU (ys : List AV) : Bool := (wStep (wA ys).1 (wA ys).2.1 (wA ys).2.2).2.2
def HWd (l : EL) (s t : EI) (o r : EB) (rc : EL) : DHp := [some ⟨1, l⟩, some ⟨1, .of [.ptr (.rw 0) (.lit 0)]⟩, some ⟨1, .of [.int .i64 s]⟩, some ⟨1, .of [.int .i64 t]⟩, some ⟨1, .of [.bool o]⟩, some ⟨1, .of [.func 30 [.ptr (.rw 1) (.lit 0), .ptr (.rw 4) (.lit 0), .ptr (.rw 3) (.lit 0), .ptr (.rw 2) (.lit 0)]]⟩, some ⟨1, .of [.bool r]⟩, some ⟨1, .of [.ptr (.rw 0) (.lit 0)]⟩, some ⟨4294967291, rc⟩]
def yW (rq : List AV → Bool) : DYsum := fun i args H => match Nat.beq i 8 with
  | true => match args, H with
    | [.agg x], [some ⟨1, l⟩, some ⟨1, .of [.ptr (.rw 0) (.lit 0)]⟩, some ⟨1, .of [.int .i64 s]⟩, some ⟨1, .of [.int .i64 t]⟩, some ⟨1, .of [.bool o]⟩, some ⟨1, .of [.func 30 [.ptr (.rw 1) (.lit 0), .ptr (.rw 4) (.lit 0), .ptr (.rw 3) (.lit 0), .ptr (.rw 2) (.lit 0)]]⟩, some ⟨1, .of [.bool _]⟩, some ⟨1, .of [.ptr (.rw 0) (.lit 0)]⟩, some ⟨4294967291, rc⟩] =>
      some (.chk (.uf 1400 rq [.agg rc]) (.chk (.uf 1401 ok7U [.agg x]) (.chk (.uf 1300 okSU [.agg l]) (.one (.bool (.lit true)) [.set 2 ⟨1, .of [.int .i64 (.uf 1402 wSU [.agg l, .agg x, .int .i64 s, .int .i64 t, .bool o])]⟩, .set 3 ⟨1, .of [.int .i64 (.uf 1403 wTU [.agg l, .agg x, .int .i64 s, .int .i64 t, .bool o])]⟩, .set 4 ⟨1, .of [.bool (.uf 1404 wOU [.agg l, .agg x, .int .i64 s, .int .i64 t, .bool o])]⟩]))))
    | _, _ => none
  | false => none
theorem w_as (G : Nat → List AV) (cs rc : List AV) (s t : Int) (o r : Bool) (x0 x1 x2 x3 x4 x5 x6 : Int) (Q : Ex → List AV → Hp → Prop) (R : AV → Hp → Prop) : vT G Q R (dloop (Dc Try.prog [30] [] [] 0) 200 60 9 (rgA (loopN Try.f29 0)) 13 [3, 4, 7, 8, 5] [.ptr (.rw 5) (.lit 0), .ptr (.rw 6) (.lit 0), .func 46 [.ptr (.rw 7) (.lit 0)], .agg (.of (E7 (.var 11 x0) (.var 12 x1) (.var 13 x2) (.var 14 x3) (.var 15 x4) (.var 16 x5) (.var 17 x6))), .undef] (HWd (.var 8 cs) (.var 20 s) (.var 21 t) (.var 22 o) (.var 23 r) (.var 24 rc))) = (
    Q .normal [.ptr (.rw 5) (0), .ptr (.rw 6) (0), .func 46 [.ptr (.rw 7) (0)], .agg ([.int .i64 (x0), .int .i64 (x1), .int .i64 (x2), .int .i64 (x3), .int .i64 (x4), .int .i64 (x5), .int .i64 (x6)] : List AV), .ptr (.rw 9) (0)] [some ⟨1, cs⟩, some ⟨1, ([.ptr (.rw 0) (0)] : List AV)⟩, some ⟨1, ([.int .i64 (s)] : List AV)⟩, some ⟨1, ([.int .i64 (t)] : List AV)⟩, some ⟨1, ([.bool (o)] : List AV)⟩, some ⟨1, ([.func 30 [.ptr (.rw 1) (0), .ptr (.rw 4) (0), .ptr (.rw 3) (0), .ptr (.rw 2) (0)]] : List AV)⟩, some ⟨1, ([.bool (r)] : List AV)⟩, some ⟨1, ([.ptr (.rw 0) (0)] : List AV)⟩, some ⟨4294967291, rc⟩, some ⟨1, ([.int .i64 (x0), .int .i64 (x1), .int .i64 (x2), .int .i64 (x3), .int .i64 (x4), .int .i64 (x5), .int .i64 (x6)] : List AV)⟩]) := by kernel_rfl
theorem w_bd (G : Nat → List AV) (cs rc : List AV) (s t : Int) (o r : Bool) (x0 x1 x2 x3 x4 x5 x6 : Int) (Q : Ex → List AV → Hp → Prop) (R : AV → Hp → Prop) : vT G Q R (dloop (Dc Try.prog [30] [] [] 0) 300 60 9 (rgB (loopN Try.f29 0)) 13 [3, 4, 7, 8, 5] [.ptr (.rw 5) (.lit 0), .ptr (.rw 6) (.lit 0), .func 46 [.ptr (.rw 7) (.lit 0)], .agg (.of (E7 (.var 11 x0) (.var 12 x1) (.var 13 x2) (.var 14 x3) (.var 15 x4) (.var 16 x5) (.var 17 x6))), .ptr (.rw 9) (.lit 0)] ((HWd (.var 8 cs) (.var 20 s) (.var 21 t) (.var 22 o) (.var 23 r) (.var 24 rc)) ++ [some ⟨1, (.of (E7 (.var 11 x0) (.var 12 x1) (.var 13 x2) (.var 14 x3) (.var 15 x4) (.var 16 x5) (.var 17 x6)))⟩])) = (
    isI .i64 cs (257) = true ∧
    (o = true →
      (decide ((IntKind.wrap .i64 (getI cs (257) - x5) : Int) > t) = true →
        Q .normal [.ptr (.rw 5) (0), .ptr (.rw 6) (0), .func 46 [.ptr (.rw 7) (0)], .agg ([.int .i64 (x0), .int .i64 (x1), .int .i64 (x2), .int .i64 (x3), .int .i64 (x4), .int .i64 (x5), .int .i64 (x6)] : List AV), .ptr (.rw 9) (0)] [some ⟨1, cs⟩, some ⟨1, ([.ptr (.rw 0) (0)] : List AV)⟩, some ⟨1, ([.int .i64 (x0)] : List AV)⟩, some ⟨1, ([.int .i64 (IntKind.wrap .i64 (getI cs (257) - x5))] : List AV)⟩, some ⟨1, ([.bool (true)] : List AV)⟩, some ⟨1, ([.func 30 [.ptr (.rw 1) (0), .ptr (.rw 4) (0), .ptr (.rw 3) (0), .ptr (.rw 2) (0)]] : List AV)⟩, some ⟨1, ([.bool (r)] : List AV)⟩, some ⟨1, ([.ptr (.rw 0) (0)] : List AV)⟩, some ⟨4294967291, rc⟩, some ⟨1, ([.int .i64 (x0), .int .i64 (x1), .int .i64 (x2), .int .i64 (x3), .int .i64 (x4), .int .i64 (x5), .int .i64 (x6)] : List AV)⟩, some ⟨1, ([.int .i64 (x0), .int .i64 (x1), .int .i64 (x2), .int .i64 (x3), .int .i64 (x4), .int .i64 (x5), .int .i64 (x6)] : List AV)⟩]) ∧
      (decide ((IntKind.wrap .i64 (getI cs (257) - x5) : Int) > t) = false →
        Q .normal [.ptr (.rw 5) (0), .ptr (.rw 6) (0), .func 46 [.ptr (.rw 7) (0)], .agg ([.int .i64 (x0), .int .i64 (x1), .int .i64 (x2), .int .i64 (x3), .int .i64 (x4), .int .i64 (x5), .int .i64 (x6)] : List AV), .ptr (.rw 9) (0)] [some ⟨1, cs⟩, some ⟨1, ([.ptr (.rw 0) (0)] : List AV)⟩, some ⟨1, ([.int .i64 (s)] : List AV)⟩, some ⟨1, ([.int .i64 (t)] : List AV)⟩, some ⟨1, ([.bool (o)] : List AV)⟩, some ⟨1, ([.func 30 [.ptr (.rw 1) (0), .ptr (.rw 4) (0), .ptr (.rw 3) (0), .ptr (.rw 2) (0)]] : List AV)⟩, some ⟨1, ([.bool (r)] : List AV)⟩, some ⟨1, ([.ptr (.rw 0) (0)] : List AV)⟩, some ⟨4294967291, rc⟩, some ⟨1, ([.int .i64 (x0), .int .i64 (x1), .int .i64 (x2), .int .i64 (x3), .int .i64 (x4), .int .i64 (x5), .int .i64 (x6)] : List AV)⟩, some ⟨1, ([.int .i64 (x0), .int .i64 (x1), .int .i64 (x2), .int .i64 (x3), .int .i64 (x4), .int .i64 (x5), .int .i64 (x6)] : List AV)⟩])) ∧
    (o = false →
      Q .normal [.ptr (.rw 5) (0), .ptr (.rw 6) (0), .func 46 [.ptr (.rw 7) (0)], .agg ([.int .i64 (x0), .int .i64 (x1), .int .i64 (x2), .int .i64 (x3), .int .i64 (x4), .int .i64 (x5), .int .i64 (x6)] : List AV), .ptr (.rw 9) (0)] [some ⟨1, cs⟩, some ⟨1, ([.ptr (.rw 0) (0)] : List AV)⟩, some ⟨1, ([.int .i64 (x0)] : List AV)⟩, some ⟨1, ([.int .i64 (IntKind.wrap .i64 (getI cs (257) - x5))] : List AV)⟩, some ⟨1, ([.bool (true)] : List AV)⟩, some ⟨1, ([.func 30 [.ptr (.rw 1) (0), .ptr (.rw 4) (0), .ptr (.rw 3) (0), .ptr (.rw 2) (0)]] : List AV)⟩, some ⟨1, ([.bool (r)] : List AV)⟩, some ⟨1, ([.ptr (.rw 0) (0)] : List AV)⟩, some ⟨4294967291, rc⟩, some ⟨1, ([.int .i64 (x0), .int .i64 (x1), .int .i64 (x2), .int .i64 (x3), .int .i64 (x4), .int .i64 (x5), .int .i64 (x6)] : List AV)⟩, some ⟨1, ([.int .i64 (x0), .int .i64 (x1), .int .i64 (x2), .int .i64 (x3), .int .i64 (x4), .int .i64 (x5), .int .i64 (x6)] : List AV)⟩])) := by kernel_rfl
theorem w_it (G : Nat → List AV) (rq : List AV → Bool) (cs rc : List AV) (s t n : Int) (o r : Bool) (Q : Ex → List AV → Hp → Prop) (R : AV → Hp → Prop) : vT G Q R (dloop (Dr Try.prog [26, 28] [] [] [] (yW rq) 0) 300 60 9 (loopN Try.f46 0) 22 [0, 1, 4] [.yld 8, .ptr (.rw 7) (.lit 0), .int .i64 (.var 6 n)] (HWd (.var 8 cs) (.var 20 s) (.var 21 t) (.var 22 o) (.var 23 r) (.var 24 rc))) = (
    (decide ((n : Int) < 32) = true →
      isB cs (0) = true ∧
      (getB cs (0) = true →
        (decide ((n : Int) ≥ 0) = true →
          decide ((n : Int) < 32) = true ∧
          decide ((0 : Int) ≤ n) = true ∧
          decide ((n : Int) < 32) = true ∧
          isB cs (Int.toNat (n) + 1) = true ∧
          (getB cs (Int.toNat (n) + 1) = true →
            decide ((0 : Int) ≤ n) = true ∧
            decide ((n : Int) < 32) = true ∧
            leB ((Int.toNat (n)) * 7 + 40) (List.length cs) = true ∧
            rq [.agg rc] = true ∧
            ok7U [.agg (subL cs ((Int.toNat (n)) * 7 + 33) (7))] = true ∧
            okSU [.agg cs] = true ∧
            Q .normal [.yld 8, .ptr (.rw 7) (0), .int .i64 (IntKind.wrap .i64 (n + 1))] [some ⟨1, cs⟩, some ⟨1, ([.ptr (.rw 0) (0)] : List AV)⟩, some ⟨1, ([.int .i64 (wSU [.agg cs, .agg (subL cs ((Int.toNat (n)) * 7 + 33) (7)), .int .i64 (s), .int .i64 (t), .bool (o)])] : List AV)⟩, some ⟨1, ([.int .i64 (wTU [.agg cs, .agg (subL cs ((Int.toNat (n)) * 7 + 33) (7)), .int .i64 (s), .int .i64 (t), .bool (o)])] : List AV)⟩, some ⟨1, ([.bool (wOU [.agg cs, .agg (subL cs ((Int.toNat (n)) * 7 + 33) (7)), .int .i64 (s), .int .i64 (t), .bool (o)])] : List AV)⟩, some ⟨1, ([.func 30 [.ptr (.rw 1) (0), .ptr (.rw 4) (0), .ptr (.rw 3) (0), .ptr (.rw 2) (0)]] : List AV)⟩, some ⟨1, ([.bool (r)] : List AV)⟩, some ⟨1, ([.ptr (.rw 0) (0)] : List AV)⟩, some ⟨4294967291, rc⟩]) ∧
          (getB cs (Int.toNat (n) + 1) = false →
            Q .normal [.yld 8, .ptr (.rw 7) (0), .int .i64 (IntKind.wrap .i64 (n + 1))] [some ⟨1, cs⟩, some ⟨1, ([.ptr (.rw 0) (0)] : List AV)⟩, some ⟨1, ([.int .i64 (s)] : List AV)⟩, some ⟨1, ([.int .i64 (t)] : List AV)⟩, some ⟨1, ([.bool (o)] : List AV)⟩, some ⟨1, ([.func 30 [.ptr (.rw 1) (0), .ptr (.rw 4) (0), .ptr (.rw 3) (0), .ptr (.rw 2) (0)]] : List AV)⟩, some ⟨1, ([.bool (r)] : List AV)⟩, some ⟨1, ([.ptr (.rw 0) (0)] : List AV)⟩, some ⟨4294967291, rc⟩])) ∧
        (decide ((n : Int) ≥ 0) = false →
          Q .normal [.yld 8, .ptr (.rw 7) (0), .int .i64 (IntKind.wrap .i64 (n + 1))] [some ⟨1, cs⟩, some ⟨1, ([.ptr (.rw 0) (0)] : List AV)⟩, some ⟨1, ([.int .i64 (s)] : List AV)⟩, some ⟨1, ([.int .i64 (t)] : List AV)⟩, some ⟨1, ([.bool (o)] : List AV)⟩, some ⟨1, ([.func 30 [.ptr (.rw 1) (0), .ptr (.rw 4) (0), .ptr (.rw 3) (0), .ptr (.rw 2) (0)]] : List AV)⟩, some ⟨1, ([.bool (r)] : List AV)⟩, some ⟨1, ([.ptr (.rw 0) (0)] : List AV)⟩, some ⟨4294967291, rc⟩])) ∧
      (getB cs (0) = false →
        Q .normal [.yld 8, .ptr (.rw 7) (0), .int .i64 (IntKind.wrap .i64 (n + 1))] [some ⟨1, cs⟩, some ⟨1, ([.ptr (.rw 0) (0)] : List AV)⟩, some ⟨1, ([.int .i64 (s)] : List AV)⟩, some ⟨1, ([.int .i64 (t)] : List AV)⟩, some ⟨1, ([.bool (o)] : List AV)⟩, some ⟨1, ([.func 30 [.ptr (.rw 1) (0), .ptr (.rw 4) (0), .ptr (.rw 3) (0), .ptr (.rw 2) (0)]] : List AV)⟩, some ⟨1, ([.bool (r)] : List AV)⟩, some ⟨1, ([.ptr (.rw 0) (0)] : List AV)⟩, some ⟨4294967291, rc⟩])) ∧
    (decide ((n : Int) < 32) = false →
      Q (.exit 0) [.yld 8, .ptr (.rw 7) (0), .int .i64 (n)] [some ⟨1, cs⟩, some ⟨1, ([.ptr (.rw 0) (0)] : List AV)⟩, some ⟨1, ([.int .i64 (s)] : List AV)⟩, some ⟨1, ([.int .i64 (t)] : List AV)⟩, some ⟨1, ([.bool (o)] : List AV)⟩, some ⟨1, ([.func 30 [.ptr (.rw 1) (0), .ptr (.rw 4) (0), .ptr (.rw 3) (0), .ptr (.rw 2) (0)]] : List AV)⟩, some ⟨1, ([.bool (r)] : List AV)⟩, some ⟨1, ([.ptr (.rw 0) (0)] : List AV)⟩, some ⟨4294967291, rc⟩])) := by kernel_rfl
def F0w : Fr := fl 13 [3, 4, 7] [.ptr (.rw 5) 0, .ptr (.rw 6) 0, .func 46 [.ptr (.rw 7) 0]]
noncomputable def rcW (p : Nat) : List AV := rcA (loopN Try.f29 0) p F0w
theorem N29_eq : loopN Try.f29 0 = .rangeFunc (rgG (loopN Try.f29 0)) (rgP (loopN Try.f29 0)) (rgA (loopN Try.f29 0)) (rgB (loopN Try.f29 0)) := by kernel_rfl
theorem rcW_ok : bnds 9 (rcW 0) = true := by kernel_rfl
theorem dgNo (G : Nat → List AV) (B : Nat) {inl : List Nat} (hp : plainFs Try.prog inl = true) {c : Code} (hc : loopsOf c = []) : DGood (⟨Try.prog, G, B⟩ : Ctx) (Dc Try.prog inl [] [] 0) (loopsOf c) := by rw [hc]; exact dgood (mix G B) hp .nil .nil
theorem isT_boxes : bnds 9 [AV.func 30 [.ptr (.rw 1) 0, .ptr (.rw 4) 0, .ptr (.rw 3) 0, .ptr (.rw 2) 0]] = true := by kernel_rfl
theorem HW_b (G : Nat → List AV) {cs : List AV} (hs : okS cs = true) (s t : Int) (o r : Bool) : hpB 9 (vHp G (HWd (.var 8 cs) (.var 20 s) (.var 21 t) (.var 22 o) (.var 23 r) (.var 24 (rcW 0)))) = true := by
  simp only [HWd, vHp, List.map_cons, List.map_nil, Option.map_some, vBlk, vL, vVs, vV, vR, vN, vI, vB, hpB, okS_flat hs, rcW_ok, isT_boxes, bnds, bnd, Bool.and_self, Bool.and_true]
  rfl
theorem y_w (G : Nat → List AV) (B : Nat) (cs : List AV) (hs : okS cs = true) (x0 x1 x2 x3 x4 x5 x6 : Int) (s t : Int) (o r : Bool) : AYld (⟨Try.prog, G, B⟩ : Ctx) 8 [.agg (l7 x0 x1 x2 x3 x4 x5 x6)] (vHp G (HWd (.var 8 cs) (.var 20 s) (.var 21 t) (.var 22 o) (.var 23 r) (.var 24 (rcW 0)))) fun v H' => v = .bool true ∧ H' = vHp G (HWd (.var 8 cs) (.var 20 (wStep cs (l7 x0 x1 x2 x3 x4 x5 x6) (s, t, o)).1) (.var 21 (wStep cs (l7 x0 x1 x2 x3 x4 x5 x6) (s, t, o)).2.1) (.var 22 (wStep cs (l7 x0 x1 x2 x3 x4 x5 x6) (s, t, o)).2.2) (.var 23 r) (.var 24 (rcW 0))) := by
  refine AYld.dx (C := (⟨Try.prog, G, B⟩ : Ctx)) (K := (Dc Try.prog [30] [] [] 0)) (f1 := 200) (f2 := 300) (n1 := 60) (n2 := 60) (N := 13) (live := [3, 4, 7, 8, 5]) (i := 8) (e := 4294967291) (ps := rgP (loopN Try.f29 0)) (ac := rgA (loopN Try.f29 0)) (bd := rgB (loopN Try.f29 0)) (F0 := F0w)
    (vs := [.ptr (.rw 5) (.lit 0), .ptr (.rw 6) (.lit 0), .func 46 [.ptr (.rw 7) (.lit 0)], .agg (.of (E7 (.var 11 x0) (.var 12 x1) (.var 13 x2) (.var 14 x3) (.var 15 x4) (.var 16 x5) (.var 17 x6))), .undef]) (vs1 := [.ptr (.rw 5) (.lit 0), .ptr (.rw 6) (.lit 0), .func 46 [.ptr (.rw 7) (.lit 0)], .agg (.of (E7 (.var 11 x0) (.var 12 x1) (.var 13 x2) (.var 14 x3) (.var 15 x4) (.var 16 x5) (.var 17 x6))), .ptr (.rw 9) (.lit 0)])
    (H := (HWd (.var 8 cs) (.var 20 s) (.var 21 t) (.var 22 o) (.var 23 r) (.var 24 (rcW 0)))) (H1 := (HWd (.var 8 cs) (.var 20 s) (.var 21 t) (.var 22 o) (.var 23 r) (.var 24 (rcW 0))) ++ [some ⟨1, (.of (E7 (.var 11 x0) (.var 12 x1) (.var 13 x2) (.var 14 x3) (.var 15 x4) (.var 16 x5) (.var 17 x6)))⟩]) (H2 := (HWd (.var 8 cs) (.var 20 s) (.var 21 t) (.var 22 o) (.var 23 r) (.var 24 (rcW 1))) ++ [some ⟨1, (.of (E7 (.var 11 x0) (.var 12 x1) (.var 13 x2) (.var 14 x3) (.var 15 x4) (.var 16 x5) (.var 17 x6)))⟩])
    (dgNo G B (by kernel_rfl) (by kernel_rfl)) (dgNo G B (by kernel_rfl) (by kernel_rfl)) rfl rfl rfl (by kernel_rfl) (by kernel_rfl) rfl ?_ rfl (by simp [HWd]) rfl ?_
  · have := w_as G cs (rcW 0) s t o r x0 x1 x2 x3 x4 x5 x6 (fun ex ws H' => ex = .normal ∧ ws = vVs G [.ptr (.rw 5) (.lit 0), .ptr (.rw 6) (.lit 0), .func 46 [.ptr (.rw 7) (.lit 0)], .agg (.of (E7 (.var 11 x0) (.var 12 x1) (.var 13 x2) (.var 14 x3) (.var 15 x4) (.var 16 x5) (.var 17 x6))), .ptr (.rw 9) (.lit 0)] ∧ H' = vHp G ((HWd (.var 8 cs) (.var 20 s) (.var 21 t) (.var 22 o) (.var 23 r) (.var 24 (rcW 0))) ++ [some ⟨1, (.of (E7 (.var 11 x0) (.var 12 x1) (.var 13 x2) (.var 14 x3) (.var 15 x4) (.var 16 x5) (.var 17 x6)))⟩])) (fun _ _ => False)
    refine Eq.mpr this ⟨rfl, rfl, rfl⟩
  · have := w_bd G cs (rcW 1) s t o r x0 x1 x2 x3 x4 x5 x6 (fun ex _ H' => H'[8]? = some (some ⟨4294967291, .rcd 1 (rgP (loopN Try.f29 0)) (rgA (loopN Try.f29 0)) (rgB (loopN Try.f29 0)) :: F0w⟩) ∧ ∃ H'' Gx, H'.set 8 (some ⟨4294967291, .rcd (stEx ex) (rgP (loopN Try.f29 0)) (rgA (loopN Try.f29 0)) (rgB (loopN Try.f29 0)) :: F0w⟩) = H'' ++ Gx ∧ (HWd (.var 8 cs) (.var 20 s) (.var 21 t) (.var 22 o) (.var 23 r) (.var 24 (rcW 0))).length ≤ H''.length ∧ hpB H''.length H'' = true ∧ (AV.bool (isNormal ex) = .bool true ∧ H'' = vHp G (HWd (.var 8 cs) (.var 20 (wStep cs (l7 x0 x1 x2 x3 x4 x5 x6) (s, t, o)).1) (.var 21 (wStep cs (l7 x0 x1 x2 x3 x4 x5 x6) (s, t, o)).2.1) (.var 22 (wStep cs (l7 x0 x1 x2 x3 x4 x5 x6) (s, t, o)).2.2) (.var 23 r) (.var 24 (rcW 0))))) (fun _ _ => False)
    refine Eq.mpr this ⟨okS_tick hs, fun ho => ⟨fun hd => ?_, fun hd => ?_⟩, fun ho => ?_⟩
    · have e : wStep cs (l7 x0 x1 x2 x3 x4 x5 x6) (s, t, o) = (x0, w64 (tk cs - x5), true) := by
        have hd' : decide (w64 (tk cs - x5) > t) = true := hd
        simp only [wStep, show getI (l7 x0 x1 x2 x3 x4 x5 x6) 5 = x5 from rfl, show getI (l7 x0 x1 x2 x3 x4 x5 x6) 0 = x0 from rfl, hd', Bool.or_true, if_true]
      rw [e]
      exact ⟨rfl, vHp G (HWd (.var 8 cs) (.var 20 x0) (.var 21 (w64 (tk cs - x5))) (.var 22 true) (.var 23 r) (.var 24 (rcW 0))), [_, _], rfl, by simp [HWd, vHp], HW_b G hs x0 (w64 (tk cs - x5)) true r, rfl, rfl⟩
    · have e : wStep cs (l7 x0 x1 x2 x3 x4 x5 x6) (s, t, o) = (s, t, o) := by
        have hd' : decide (w64 (tk cs - x5) > t) = false := hd
        simp only [wStep, show getI (l7 x0 x1 x2 x3 x4 x5 x6) 5 = x5 from rfl, show getI (l7 x0 x1 x2 x3 x4 x5 x6) 0 = x0 from rfl, hd', ho, Bool.not_true, Bool.or_self, Bool.false_eq_true, if_false]
      rw [e]
      exact ⟨rfl, vHp G (HWd (.var 8 cs) (.var 20 s) (.var 21 t) (.var 22 o) (.var 23 r) (.var 24 (rcW 0))), [_, _], rfl, by simp [HWd, vHp], HW_b G hs s t o r, rfl, rfl⟩
    · have e : wStep cs (l7 x0 x1 x2 x3 x4 x5 x6) (s, t, o) = (x0, w64 (tk cs - x5), true) := by
        simp only [wStep, show getI (l7 x0 x1 x2 x3 x4 x5 x6) 5 = x5 from rfl, show getI (l7 x0 x1 x2 x3 x4 x5 x6) 0 = x0 from rfl, ho, Bool.not_false, Bool.true_or, if_true]
      rw [e]
      exact ⟨rfl, vHp G (HWd (.var 8 cs) (.var 20 x0) (.var 21 (w64 (tk cs - x5))) (.var 22 true) (.var 23 r) (.var 24 (rcW 0))), [_, _], rfl, by simp [HWd, vHp], HW_b G hs x0 (w64 (tk cs - x5)) true r, rfl, rfl⟩
theorem yW_ok (G : Nat → List AV) (B : Nat) : DYsumOk (⟨Try.prog, G, B⟩ : Ctx) (yW (isRc (rcW 0))) := by
  intro i args H oo ho
  unfold yW at ho
  split at ho
  · rename_i hi8
    have := Nat.eq_of_beq_eq_true hi8
    subst this
    split at ho
    · rename_i x l s t ob rb rc
      simp only [Option.some.injEq] at ho
      subst ho
      intro h1 h2 h3
      simp only [vB, vVs, vV] at h1 h2 h3
      have e1 := isRc_iff.1 h1
      have ex := ok7_cells h2
      have key := y_w G B (vL G l) h3 (getI (vL G x) 0) (getI (vL G x) 1) (getI (vL G x) 2) (getI (vL G x) 3) (getI (vL G x) 4) (getI (vL G x) 5) (getI (vL G x) 6) (vI G s) (vI G t) (vB G ob) (vB G rb)
      rw [← ex] at key
      unfold DYld
      simp only [vVs, vV, HWd, vHp, List.map_cons, List.map_nil, Option.map_some, vBlk, vL, vR, vN, vI, vB, ← e1] at key ⊢
      refine key.mono ?_
      rintro v H' ⟨rfl, rfl⟩
      exact ⟨rfl, rfl⟩
    · simp at ho
  · simp at ho
/-- what waits longest among the first n slots -/
def wF (cs : List AV) : Nat → Int × Int × Bool
  | 0 => (0, 0, false)
  | n + 1 => if sO cs n then wStep cs (subL cs (n * 7 + 33) 7) (wF cs n) else wF cs n
theorem sub_ok7 {cs : List AV} (hs : okS cs = true) {n : Nat} (hn : n < 32) : ok7 (subL cs (n * 7 + 33) 7) = true := by
  have hl := okS_len hs
  have h7 : (subL cs (n * 7 + 33) 7).length = 7 := subL_len (by omega)
  simp only [ok7, Bool.and_eq_true, List.all_eq_true, List.mem_range]
  refine ⟨by rw [h7]; rfl, fun i hi => ?_⟩
  have := okS_isF hs (o := n * 7 + 33 + i) (by omega) (by omega)
  unfold isI at *
  have e : (subL cs (n * 7 + 33) 7)[i]? = cs[n * 7 + 33 + i]? := by unfold subL; rw [List.getElem?_take, if_pos hi, List.getElem?_drop]
  rw [e]; exact this
theorem dgY (G : Nat → List AV) (B : Nat) : DGood (⟨Try.prog, G, B⟩ : Ctx) (Dr Try.prog [26, 28] [] [] [] (yW (isRc (rcW 0))) 0) [] := dgoodr (mix G B) (by kernel_rfl) .nil .nil .none (yW_ok G B)
def IW (G : Nat → List AV) (cs : List AV) (r : Bool) (j : Nat) (vs : List AV) (H : Hp) : Prop := ∃ n : Nat, n ≤ 32 ∧ j = 32 - n ∧ vs = [.yld 8, .ptr (.rw 7) 0, .int .i64 (n : Int)] ∧ H = vHp G (HWd (.var 8 cs) (.var 20 (wF cs n).1) (.var 21 (wF cs n).2.1) (.var 22 (wF cs n).2.2) (.var 23 r) (.var 24 (rcW 0)))
theorem w_loop (G : Nat → List AV) (B : Nat) (cs : List AV) (hs : okS cs = true) (r : Bool) :
    AWp (⟨Try.prog, G, B⟩ : Ctx) 9 (.loop (loopN Try.f46 0)) (fl 22 [0, 1, 4] [.yld 8, .ptr (.rw 7) 0, .int .i64 0]) (vHp G (HWd (.var 8 cs) (.var 20 0) (.var 21 0) (.var 22 false) (.var 23 r) (.var 24 (rcW 0))))
      (lv 22 [0, 1, 4] fun e vs H => e = .exit 0 ∧ wk [.undef, .undef, .undef] vs ∧ H = vHp G (HWd (.var 8 cs) (.var 20 (wF cs 32).1) (.var 21 (wF cs 32).2.1) (.var 22 (wF cs 32).2.2) (.var 23 r) (.var 24 (rcW 0)))) := by
  refine aloop_lv (IW G cs r) 32 ⟨0, by omega, rfl, rfl, rfl⟩ ?_
  rintro j vs H ⟨n, hn, rfl, rfl, rfl⟩
  refine dloop_ok (C := (⟨Try.prog, G, B⟩ : Ctx)) (dgY G B) (fuel := 300) (n0 := 60) (m := 9) (c := loopN Try.f46 0) (vs := [.yld 8, .ptr (.rw 7) (.lit 0), .int .i64 (.var 6 (n : Int))]) (H := (HWd (.var 8 cs) (.var 20 (wF cs n).1) (.var 21 (wF cs n).2.1) (.var 22 (wF cs n).2.2) (.var 23 r) (.var 24 (rcW 0)))) (by simp [HWd]) ?_
  rw [w_it]
  have hl := okS_len hs
  have nx : n < 32 → ∀ H', H' = vHp G (HWd (.var 8 cs) (.var 20 (wF cs (n + 1)).1) (.var 21 (wF cs (n + 1)).2.1) (.var 22 (wF cs (n + 1)).2.2) (.var 23 r) (.var 24 (rcW 0))) → ∃ k', k' < 32 - n ∧ (IW G cs r k' [.yld 8, .ptr (.rw 7) 0, .int .i64 (IntKind.wrap .i64 ((n : Int) + 1))] H' ∨ ∃ vs'' H'', IW G cs r k' vs'' H'' ∧ View 9 vs'' H'' [.yld 8, .ptr (.rw 7) 0, .int .i64 (IntKind.wrap .i64 ((n : Int) + 1))] H') := fun h H' e =>
    ⟨32 - (n + 1), by omega, .inl ⟨n + 1, by omega, rfl, by rw [i64_in (by omega)]; rfl, e⟩⟩
  refine ⟨fun h => ⟨okS_0 hs, fun _ => ⟨fun h0 => ⟨h, decide_eq_true (by omega), h, ?_, fun ho => ⟨decide_eq_true (by omega), h, leB_iff.2 ?_, isRc_iff.2 rfl, ?_, hs, ?_⟩, fun ho => ?_⟩, fun h0 => ?_⟩, fun h0 => ?_⟩, fun h => ⟨rfl, by simp [wk], ?_⟩⟩
  · have := of_decide_eq_true h
    rw [Int.toNat_natCast]; exact okS_open hs (by omega)
  · have := of_decide_eq_true h
    rw [Int.toNat_natCast]; omega
  · have := of_decide_eq_true h
    rw [Int.toNat_natCast]; exact sub_ok7 hs (by omega)
  · have h32 := of_decide_eq_true h
    rw [Int.toNat_natCast] at ho ⊢
    refine nx (by omega) _ ?_
    have e : wF cs (n + 1) = wStep cs (subL cs (n * 7 + 33) 7) (wF cs n) := by simp only [wF, show sO cs n = true from ho, if_true]
    rw [e]; rfl
  · have h32 := of_decide_eq_true h
    rw [Int.toNat_natCast] at ho
    refine nx (by omega) _ ?_
    have e : wF cs (n + 1) = wF cs n := by simp only [wF, show sO cs n = false from ho, Bool.false_eq_true, if_false]
    rw [e]; rfl
  · exact absurd (of_decide_eq_false h0) (by omega)
  · rw [okS_made hs] at h0; cases h0
  · have : n = 32 := by have := of_decide_eq_false h; omega
    subst this; rfl
def wS32 : List AV → Int := fun ys => match ys with
  | [.agg cs] => (wF cs 32).1
  | _ => 0
def wT32 : List AV → Int := fun ys => match ys with
  | [.agg cs] => (wF cs 32).2.1
  | _ => 0
def wO32 : List AV → Bool := fun ys => match ys with
  | [.agg cs] => (wF cs 32).2.2
  | _ => false
def HWe (l : EL) (r : EB) (rc : EL) : DHp := HWd l (.uf 1405 wS32 [.agg l]) (.uf 1406 wT32 [.agg l]) (.uf 1407 wO32 [.agg l]) r rc
def i46 (rq : List AV → Bool) : DL := ⟨0, 22, [0, 1, 4], fun vs H => match vs, H with
  | [.yld 8, .ptr (.rw 7) (.lit 0), .int .i64 (.lit 0)], [some ⟨1, l⟩, some ⟨1, .of [.ptr (.rw 0) (.lit 0)]⟩, some ⟨1, .of [.int .i64 (.lit 0)]⟩, some ⟨1, .of [.int .i64 (.lit 0)]⟩, some ⟨1, .of [.bool (.lit false)]⟩, some ⟨1, .of [.func 30 [.ptr (.rw 1) (.lit 0), .ptr (.rw 4) (.lit 0), .ptr (.rw 3) (.lit 0), .ptr (.rw 2) (.lit 0)]]⟩, some ⟨1, .of [.bool r]⟩, some ⟨1, .of [.ptr (.rw 0) (.lit 0)]⟩, some ⟨4294967291, rc⟩] =>
    some (.chk (.uf 1400 rq [.agg rc]) (.chk (.uf 1300 okSU [.agg l]) (.one (.exit 0) [.undef, .undef, .undef] (HWe l r rc))))
  | _, _ => none⟩
theorem i46_ok (G : Nat → List AV) (B : Nat) : DLoopOk (⟨Try.prog, G, B⟩ : Ctx) 9 (loopN Try.f46 0) (i46 (isRc (rcW 0))) := by
  refine .of fun vs H o ho n Q hQ => ?_
  simp only [i46] at ho
  split at ho
  · rename_i l r rc
    simp only [Option.some.injEq] at ho
    subst ho
    obtain ⟨h1, h2, h3⟩ := hQ
    simp only [vB, vVs, vV] at h1 h2
    have e1 := isRc_iff.1 h1
    simp only [i46, vVs, vV, vR, vN, vI, vB, vHp, List.map_cons, List.map_nil, Option.map_some, vBlk, vL]
    have key := w_loop G B (vL G l) h2 (vB G r)
    simp only [HWd, vVs, vV, vR, vN, vI, vB, vHp, List.map_cons, List.map_nil, Option.map_some, vBlk, vL, ← e1] at key
    refine key.lmono ?_
    rintro e vs'' H'' ⟨rfl, g2, rfl⟩
    refine .inl ⟨_, g2, ?_⟩
    simp only [lHolds, HWe, HWd, vVs, vV, vR, vN, vI, vB, vL, vHp, List.map_cons, List.map_nil, Option.map_some, vBlk] at h3
    exact h3
  · simp at ho
theorem w_c46 (G : Nat → List AV) (rq : List AV → Bool) (cs rc : List AV) (r : Bool) (Q : Ex → List AV → Hp → Prop) (R : AV → Hp → Prop) : vT G Q R (dcall (Dr Try.prog [] [] [i46 rq] [] noY 9) 100 60 Try.f46 [.yld 8, .ptr (.rw 7) (.lit 0)] (HWd (.var 8 cs) (.lit 0) (.lit 0) (.lit false) (.var 23 r) (.var 24 rc)) 9) = (
    rq [.agg rc] = true ∧
    okSU [.agg cs] = true ∧
    R (.tup []) [some ⟨1, cs⟩, some ⟨1, ([.ptr (.rw 0) (0)] : List AV)⟩, some ⟨1, ([.int .i64 (wS32 [.agg cs])] : List AV)⟩, some ⟨1, ([.int .i64 (wT32 [.agg cs])] : List AV)⟩, some ⟨1, ([.bool (wO32 [.agg cs])] : List AV)⟩, some ⟨1, ([.func 30 [.ptr (.rw 1) (0), .ptr (.rw 4) (0), .ptr (.rw 3) (0), .ptr (.rw 2) (0)]] : List AV)⟩, some ⟨1, ([.bool (r)] : List AV)⟩, some ⟨1, ([.ptr (.rw 0) (0)] : List AV)⟩, some ⟨4294967291, rc⟩]) := by kernel_rfl
theorem dg46 (G : Nat → List AV) (B : Nat) : DGood (⟨Try.prog, G, B⟩ : Ctx) (Dr Try.prog [] [] [i46 (isRc (rcW 0))] [] noY 9) (loopsOf (bodyOf Try.f46)) :=
  dgoodr (mix G B) (by kernel_rfl) .nil (.cast (.cons (i := 0) (by kernel_rfl) rfl (i46_ok G B) .nil) (by kernel_rfl)) .none noY_ok
/-- behind the loop over the slots -/
def HW8 (cs : List AV) (s t : Int) (o r : Bool) : DHp := [some ⟨1, .var 8 cs⟩, some ⟨1, .of [.ptr (.rw 0) (.lit 0)]⟩, some ⟨1, .of [.int .i64 (.var 20 s)]⟩, some ⟨1, .of [.int .i64 (.var 21 t)]⟩, some ⟨1, .of [.bool (.var 22 o)]⟩, some ⟨1, .of [.func 30 [.ptr (.rw 1) (.lit 0), .ptr (.rw 4) (.lit 0), .ptr (.rw 3) (.lit 0), .ptr (.rw 2) (.lit 0)]]⟩, some ⟨1, .of [.bool (.var 23 r)]⟩, some ⟨1, .of [.ptr (.rw 0) (.lit 0)]⟩]
theorem w46 (G : Nat → List AV) (B : Nat) (cs : List AV) (hs : okS cs = true) (r : Bool) : ACalls (⟨Try.prog, G, B⟩ : Ctx) 46 [.yld 8, .ptr (.rw 7) 0] (vHp G (HW8 cs 0 0 false r) ++ [some ⟨4294967291, rcW 0⟩]) fun v H => v = .tup [] ∧ H = vHp G (HW8 cs (wF cs 32).1 (wF cs 32).2.1 (wF cs 32).2.2 r) ++ [some ⟨4294967291, rcW 0⟩] := by
  have := dcall_ok (C := (⟨Try.prog, G, B⟩ : Ctx)) (fuel := 100) (n0 := 60) (f := 46) (fn := Try.f46) (args := [.yld 8, .ptr (.rw 7) (.lit 0)]) (H := HWd (.var 8 cs) (.lit 0) (.lit 0) (.lit false) (.var 23 r) (.var 24 (rcW 0))) (keep := 9)
    (R := fun v H => v = .tup [] ∧ H = vHp G (HW8 cs (wF cs 32).1 (wF cs 32).2.1 (wF cs 32).2.2 r) ++ [some ⟨4294967291, rcW 0⟩]) (dg46 G B) (by kernel_rfl) (by kernel_rfl) (by kernel_rfl) (by
    have := w_c46 G (isRc (rcW 0)) cs (rcW 0) r (fun _ _ _ => False) (fun v H => v = .tup [] ∧ H = vHp G (HW8 cs (wF cs 32).1 (wF cs 32).2.1 (wF cs 32).2.2 r) ++ [some ⟨4294967291, rcW 0⟩])
    exact Eq.mpr this ⟨isRc_iff.2 rfl, hs, rfl, rfl⟩)
  refine ACalls.keep (k := 9) ?_ (by simp [HW8, vHp]) (HW_b G hs _ _ _ _) rfl (by simp)
  exact this
theorem w_rng (G : Nat → List AV) (B : Nat) (cs : List AV) (hs : okS cs = true) (r : Bool) : AWp (⟨Try.prog, G, B⟩ : Ctx) 8 (loopN Try.f29 0) F0w (vHp G (HW8 cs 0 0 false r))
    (lv 13 [3, 4, 7] fun e vs H => e = .normal ∧ vs = [.ptr (.rw 5) 0, .ptr (.rw 6) 0, .func 46 [.ptr (.rw 7) 0]] ∧ H = vHp G (HW8 cs (wF cs 32).1 (wF cs 32).2.1 (wF cs 32).2.2 r) ++ [none]) := by
  rw [N29_eq]
  refine AWp.rng (f := 46) (cap := [.ptr (.rw 7) 0]) (by simp [HW8, vHp]) (by kernel_rfl) ?_
  refine (w46 G B cs hs r).monoK ?_
  rintro v H ⟨rfl, rfl⟩
  exact ⟨rfl, rfl, rfl⟩
def wR : DL := ⟨8, 13, [3, 4, 7], fun vs H => match vs, H with
  | [.ptr (.rw 5) (.lit 0), .ptr (.rw 6) (.lit 0), .func 46 [.ptr (.rw 7) (.lit 0)]], [some ⟨1, l⟩, some ⟨1, .of [.ptr (.rw 0) (.lit 0)]⟩, some ⟨1, .of [.int .i64 (.lit 0)]⟩, some ⟨1, .of [.int .i64 (.lit 0)]⟩, some ⟨1, .of [.bool (.lit false)]⟩, some ⟨1, .of [.func 30 [.ptr (.rw 1) (.lit 0), .ptr (.rw 4) (.lit 0), .ptr (.rw 3) (.lit 0), .ptr (.rw 2) (.lit 0)]]⟩, some ⟨1, .of [.bool r]⟩, some ⟨1, .of [.ptr (.rw 0) (.lit 0)]⟩] =>
    some (.chk (.uf 1300 okSU [.agg l]) (.one .normal [.ptr (.rw 5) (.lit 0), .ptr (.rw 6) (.lit 0), .func 46 [.ptr (.rw 7) (.lit 0)]] [some ⟨1, l⟩, some ⟨1, .of [.ptr (.rw 0) (.lit 0)]⟩, some ⟨1, .of [.int .i64 (.uf 1405 wS32 [.agg l])]⟩, some ⟨1, .of [.int .i64 (.uf 1406 wT32 [.agg l])]⟩, some ⟨1, .of [.bool (.uf 1407 wO32 [.agg l])]⟩, some ⟨1, .of [.func 30 [.ptr (.rw 1) (.lit 0), .ptr (.rw 4) (.lit 0), .ptr (.rw 3) (.lit 0), .ptr (.rw 2) (.lit 0)]]⟩, some ⟨1, .of [.bool r]⟩, some ⟨1, .of [.ptr (.rw 0) (.lit 0)]⟩]))
  | _, _ => none⟩
theorem hpB_mono {n m : Nat} (h : n ≤ m) : ∀ {H : Hp}, hpB n H = true → hpB m H = true
  | [], _ => rfl
  | none :: H, hb => by simp only [hpB] at hb ⊢; exact hpB_mono h hb
  | some b :: H, hb => by simp only [hpB, Bool.and_eq_true] at hb ⊢; exact ⟨bnds_mono h _ hb.1, hpB_mono h hb.2⟩
theorem HW8_b (G : Nat → List AV) {cs : List AV} (hs : okS cs = true) (s t : Int) (o r : Bool) : hpB 8 (vHp G (HW8 cs s t o r)) = true := by
  simp only [HW8, vHp, List.map_cons, List.map_nil, Option.map_some, vBlk, vL, vVs, vV, vR, vN, vI, vB, hpB, okS_flat hs, bnds, bnd, Bool.and_self, Bool.and_true]
  rfl
theorem wR_ok (G : Nat → List AV) (B : Nat) : DCodeOk (⟨Try.prog, G, B⟩ : Ctx) 5 (loopN Try.f29 0) wR := by
  intro m vs H o hm ho n Q hQ
  simp only [wR] at ho
  split at ho
  · rename_i l r
    simp only [Option.some.injEq] at ho
    subst ho
    obtain ⟨h1, h2⟩ := hQ
    simp only [vB, vVs, vV] at h1
    have key := w_rng G B (vL G l) h1 (vB G r)
    have key := key.pin (m' := m) (by omega)
    simp only [wR, HW8, vVs, vV, vR, vN, vI, vB, vHp, List.map_cons, List.map_nil, Option.map_some, vBlk, vL] at key ⊢
    refine key.lmono ?_
    rintro e vs'' H'' ⟨rfl, rfl, rfl⟩
    simp only [wS32, wT32, wO32, vVs, vV, vR, vN, vI, vB, vL, vHp, List.map_cons, List.map_nil, Option.map_some, vBlk] at h2
    refine .inr ⟨_, _, ?_, h2⟩
    refine View.same (by simp; omega) ?_ ⟨⟨rfl, rfl⟩, ⟨rfl, rfl⟩, ⟨rfl, rfl⟩, trivial⟩
    have := HW8_b G h1 (wF (vL G l) 32).1 (wF (vL G l) 32).2.1 (wF (vL G l) 32).2.2 (vB G r)
    simp only [HW8, vVs, vV, vR, vN, vI, vB, vHp, List.map_cons, List.map_nil, Option.map_some, vBlk, vL] at this
    exact this
  · simp at ho
end Go.Am
