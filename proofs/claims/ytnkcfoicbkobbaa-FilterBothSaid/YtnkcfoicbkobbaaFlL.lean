/-
  Filters: two lists one behind the other.
-/
import Derived.Test.YtnkcfoicbkobbaaFlK
namespace Go.Am
open Go.Proofs
set_option maxRecDepth 100000
theorem ca_0 (G : Nat → List AV) (k n k2 m : Nat) (Q : Ex → List AV → Hp → Prop) (R : AV → Hp → Prop) : vT G Q R (dloop (Dc Try.prog [] [] [] 1) 300 20 1 (loopN Try.f32 0) 36 [0, 2, 3, 9, 10, 11] [.slice false (.rw 0) (.lit 0) (.lit 2), .nils, .int .i64 (.lit 0), .slice false (.rw 0) (.lit 0) (.lit 2), .int .i64 (.lit 2), .int .i64 (.lit 0)] [some ⟨1, .of [.slice true (.ro (.var 1 k)) (.lit 0) (.var 2 n), .slice true (.ro (.var 3 k2)) (.lit 0) (.var 4 m)]⟩]) = (
    (decide ((IntKind.wrap .i64 (0 + ((n : Nat) : Int)) : Int) < 0) = true →
      False) ∧
    (decide ((IntKind.wrap .i64 (0 + ((n : Nat) : Int)) : Int) < 0) = false →
      Q .normal [.slice false (.rw 0) (0) (2), .nils, .int .i64 (IntKind.wrap .i64 (0 + ((n : Nat) : Int))), .slice false (.rw 0) (0) (2), .int .i64 (2), .int .i64 (1)] [some ⟨1, ([.slice true (.ro (k)) (0) (n), .slice true (.ro (k2)) (0) (m)] : List AV)⟩])) := by kernel_rfl
theorem ca_1 (G : Nat → List AV) (k n k2 m x : Nat) (Q : Ex → List AV → Hp → Prop) (R : AV → Hp → Prop) : vT G Q R (dloop (Dc Try.prog [] [] [] 1) 300 20 1 (loopN Try.f32 0) 36 [0, 2, 3, 9, 10, 11] [.slice false (.rw 0) (.lit 0) (.lit 2), .nils, .int .i64 (.ofN (.var 5 x)), .slice false (.rw 0) (.lit 0) (.lit 2), .int .i64 (.lit 2), .int .i64 (.lit 1)] [some ⟨1, .of [.slice true (.ro (.var 1 k)) (.lit 0) (.var 2 n), .slice true (.ro (.var 3 k2)) (.lit 0) (.var 4 m)]⟩]) = (
    (decide ((IntKind.wrap .i64 (((x : Nat) : Int) + ((m : Nat) : Int)) : Int) < 0) = true →
      False) ∧
    (decide ((IntKind.wrap .i64 (((x : Nat) : Int) + ((m : Nat) : Int)) : Int) < 0) = false →
      Q .normal [.slice false (.rw 0) (0) (2), .nils, .int .i64 (IntKind.wrap .i64 (((x : Nat) : Int) + ((m : Nat) : Int))), .slice false (.rw 0) (0) (2), .int .i64 (2), .int .i64 (2)] [some ⟨1, ([.slice true (.ro (k)) (0) (n), .slice true (.ro (k2)) (0) (m)] : List AV)⟩])) := by kernel_rfl
theorem ca_2 (G : Nat → List AV) (k n k2 m x : Nat) (Q : Ex → List AV → Hp → Prop) (R : AV → Hp → Prop) : vT G Q R (dloop (Dc Try.prog [] [] [] 1) 300 20 1 (loopN Try.f32 0) 36 [0, 2, 3, 9, 10, 11] [.slice false (.rw 0) (.lit 0) (.lit 2), .nils, .int .i64 (.ofN (.var 5 x)), .slice false (.rw 0) (.lit 0) (.lit 2), .int .i64 (.lit 2), .int .i64 (.lit 2)] [some ⟨1, .of [.slice true (.ro (.var 1 k)) (.lit 0) (.var 2 n), .slice true (.ro (.var 3 k2)) (.lit 0) (.var 4 m)]⟩]) = (
    Q (.exit 0) [.slice false (.rw 0) (0) (2), .nils, .int .i64 (((x : Nat) : Int)), .slice false (.rw 0) (0) (2), .int .i64 (2), .int .i64 (2)] [some ⟨1, ([.slice true (.ro (k)) (0) (n), .slice true (.ro (k2)) (0) (m)] : List AV)⟩]) := by kernel_rfl
theorem cb_0 (G : Nat → List AV) (k n k2 m : Nat) (z : List AV) (Q : Ex → List AV → Hp → Prop) (R : AV → Hp → Prop) : vT G Q R (dloop (Dc Try.prog [] [] [] 1) 300 20 1 (loopN Try.f32 1) 36 [2, 6, 25, 26, 27] [.nils, .slice true (.rw 1) (.lit 0) (.lit 0), .slice false (.rw 0) (.lit 0) (.lit 2), .int .i64 (.lit 2), .int .i64 (.lit 0)] [some ⟨1, .of [.slice true (.ro (.var 1 k)) (.lit 0) (.var 2 n), .slice true (.ro (.var 3 k2)) (.lit 0) (.var 4 m)]⟩, some ⟨3, .var 8 z⟩]) = (
    leB ((n) * 3) (List.length (G (k))) = true ∧
    cellsB (subL (G (k)) (0) ((n) * 3)) = true ∧
    leB ((n) * 24) (140737488355328) = true ∧
    Q .normal [.nils, .slice true (.rw 2) (0) (n), .slice false (.rw 0) (0) (2), .int .i64 (2), .int .i64 (1)] [some ⟨1, ([.slice true (.ro (k)) (0) (n), .slice true (.ro (k2)) (0) (m)] : List AV)⟩, none, some ⟨3, (subL (G (k)) (0) ((n) * 3))⟩]) := by kernel_rfl
theorem cb_1 (G : Nat → List AV) (k n k2 m x : Nat) (z : List AV) (Q : Ex → List AV → Hp → Prop) (R : AV → Hp → Prop) : vT G Q R (dloop (Dc Try.prog [] [] [] 1) 300 20 1 (loopN Try.f32 1) 36 [2, 6, 25, 26, 27] [.nils, .slice true (.rw 1) (.lit 0) (.var 5 x), .slice false (.rw 0) (.lit 0) (.lit 2), .int .i64 (.lit 2), .int .i64 (.lit 1)] [some ⟨1, .of [.slice true (.ro (.var 1 k)) (.lit 0) (.var 2 n), .slice true (.ro (.var 3 k2)) (.lit 0) (.var 4 m)]⟩, some ⟨3, .var 8 z⟩]) = (
    leB ((m) * 3) (List.length (G (k2))) = true ∧
    cellsB (subL (G (k2)) (0) ((m) * 3)) = true ∧
    leB ((x + m) * 24) (140737488355328) = true ∧
    Nat.beq (List.length z) ((x) * 3) = true ∧
    Q .normal [.nils, .slice true (.rw 2) (0) (x + m), .slice false (.rw 0) (0) (2), .int .i64 (2), .int .i64 (2)] [some ⟨1, ([.slice true (.ro (k)) (0) (n), .slice true (.ro (k2)) (0) (m)] : List AV)⟩, none, some ⟨3, (z ++ (subL (G (k2)) (0) ((m) * 3)))⟩]) := by kernel_rfl
theorem cb_2 (G : Nat → List AV) (k n k2 m x : Nat) (z : List AV) (Q : Ex → List AV → Hp → Prop) (R : AV → Hp → Prop) : vT G Q R (dloop (Dc Try.prog [] [] [] 1) 300 20 1 (loopN Try.f32 1) 36 [2, 6, 25, 26, 27] [.nils, .slice true (.rw 1) (.lit 0) (.var 5 x), .slice false (.rw 0) (.lit 0) (.lit 2), .int .i64 (.lit 2), .int .i64 (.lit 2)] [some ⟨1, .of [.slice true (.ro (.var 1 k)) (.lit 0) (.var 2 n), .slice true (.ro (.var 3 k2)) (.lit 0) (.var 4 m)]⟩, some ⟨3, .var 8 z⟩]) = (
    Q (.exit 2) [.nils, .slice true (.rw 1) (0) (x), .slice false (.rw 0) (0) (2), .int .i64 (2), .int .i64 (2)] [some ⟨1, ([.slice true (.ro (k)) (0) (n), .slice true (.ro (k2)) (0) (m)] : List AV)⟩, some ⟨3, z⟩]) := by kernel_rfl
theorem subL_ct (cs : List AV) (n : Nat) : subL cs 0 (n * 3) = ctT cs n := rfl
theorem ct_ints {cs : List AV} {n : Nat} (h : okI .i64 cs 0 (n * 3) = true) : (ctT cs n).all isI64V = true ∧ (ctT cs n).length = n * 3 := by
  have hl := okI_len h
  refine ⟨?_, by unfold ctT; rw [List.length_take]; omega⟩
  rw [List.all_eq_true]
  intro v hv
  obtain ⟨j, hj, e⟩ := List.getElem_of_mem hv
  have hj' : j < n * 3 := by unfold ctT at hj; rw [List.length_take] at hj; omega
  have := okI_get h (j := j) hj'
  rw [Nat.zero_add] at this
  unfold isI at this
  have e2 : cs[j]? = some v := by
    have : (ctT cs n)[j]? = some v := by rw [List.getElem?_eq_getElem hj, e]
    unfold ctT at this
    rw [List.getElem?_take, if_pos hj'] at this
    exact this
  rw [e2] at this
  cases v with
  | int k n => have := of_decide_eq_true this; subst this; rfl
  | _ => simp at this
theorem ints_cells {l : List AV} (h : l.all isI64V = true) : cellsB l = true := by
  unfold cellsB
  rw [List.all_eq_true] at *
  intro v hv
  have := h v hv
  cases v with
  | int k n => rfl
  | _ => simp [isI64V] at this
def caC (G : Nat → List AV) (k n k2 m : Nat) : Bool := okI .i64 (G k) 0 (n * 3) && (okI .i64 (G k2) 0 (m * 3) && (Nat.ble n 1000000 && Nat.ble m 1000000))
theorem caC_iff {G : Nat → List AV} {k n k2 m : Nat} : caC G k n k2 m = true ↔ okI .i64 (G k) 0 (n * 3) = true ∧ okI .i64 (G k2) 0 (m * 3) = true ∧ n ≤ 1000000 ∧ m ≤ 1000000 := by
  simp only [caC, Bool.and_eq_true]
  exact ⟨fun ⟨h1, h2, h3, h4⟩ => ⟨h1, h2, Nat.le_of_ble_eq_true h3, Nat.le_of_ble_eq_true h4⟩, fun ⟨h1, h2, h3, h4⟩ => ⟨h1, h2, Nat.ble_eq_true_of_le h3, Nat.ble_eq_true_of_le h4⟩⟩
def caQ (G : Nat → List AV) (k n k2 m : Nat) : List AV → Bool := stQ (caC G k n k2 m) [.slice false (.rw 0) 0 2, .nils, .int .i64 0, .slice false (.rw 0) 0 2, .int .i64 2, .int .i64 0] [some ⟨1, [.slice true (.ro k) 0 n, .slice true (.ro k2) 0 m]⟩]
def caO (n m k k2 : Nat) : LOut := .one (.exit 0) [.slice false (.rw 0) (.lit 0) (.lit 2), .nils, .int .i64 (.ofN (.add (.var 2 n) (.var 4 m))), .undef, .undef, .undef] [some ⟨1, .of [.slice true (.ro (.var 1 k)) (.lit 0) (.var 2 n), .slice true (.ro (.var 3 k2)) (.lit 0) (.var 4 m)]⟩]
theorem caL_ok (G : Nat → List AV) (B : Nat) (k n k2 m : Nat) : DLoopOk (⟨Try.prog, G, B⟩ : Ctx) 1 (loopN Try.f32 0) (DLat 1643 (caQ G k n k2 m) 0 36 [0, 2, 3, 9, 10, 11] (caO n m k k2)) := by
  refine DLat_ok rfl fun h => ?_
  obtain ⟨hk, hk2, hn, hm⟩ := caC_iff.1 h
  refine scan 2 (fun i => match i with | 0 => [.slice false (.rw 0) 0 2, .nils, .int .i64 0, .slice false (.rw 0) 0 2, .int .i64 2, .int .i64 0] | 1 => [.slice false (.rw 0) 0 2, .nils, .int .i64 (n : Int), .slice false (.rw 0) 0 2, .int .i64 2, .int .i64 1] | _ => [.slice false (.rw 0) 0 2, .nils, .int .i64 ((n + m : Nat) : Int), .slice false (.rw 0) 0 2, .int .i64 2, .int .i64 2]) (fun _ => [some ⟨1, [.slice true (.ro k) 0 n, .slice true (.ro k2) 0 m]⟩]) fun i hi => ?_
  match i, hi with
  | 0, _ =>
    refine dloop_ok (C := (⟨Try.prog, G, B⟩ : Ctx)) (dgM G B 1) (fuel := 300) (n0 := 20) (m := 1) (c := loopN Try.f32 0) (vs := [.slice false (.rw 0) (.lit 0) (.lit 2), .nils, .int .i64 (.lit 0), .slice false (.rw 0) (.lit 0) (.lit 2), .int .i64 (.lit 2), .int .i64 (.lit 0)]) (H := [some ⟨1, .of [.slice true (.ro (.var 1 k)) (.lit 0) (.var 2 n), .slice true (.ro (.var 3 k2)) (.lit 0) (.var 4 m)]⟩]) (by simp) ?_
    rw [ca_0, i64_in (by omega)]
    exact ⟨fun h => by have := of_decide_eq_true h; omega, fun h => ⟨by omega, .inl ⟨by rw [Int.zero_add]; rfl, rfl⟩⟩⟩
  | 1, _ =>
    refine dloop_ok (C := (⟨Try.prog, G, B⟩ : Ctx)) (dgM G B 1) (fuel := 300) (n0 := 20) (m := 1) (c := loopN Try.f32 0) (vs := [.slice false (.rw 0) (.lit 0) (.lit 2), .nils, .int .i64 (.ofN (.var 5 n)), .slice false (.rw 0) (.lit 0) (.lit 2), .int .i64 (.lit 2), .int .i64 (.lit 1)]) (H := [some ⟨1, .of [.slice true (.ro (.var 1 k)) (.lit 0) (.var 2 n), .slice true (.ro (.var 3 k2)) (.lit 0) (.var 4 m)]⟩]) (by simp) ?_
    rw [ca_1, i64_in (by omega)]
    exact ⟨fun h => by have := of_decide_eq_true h; omega, fun h => ⟨by omega, .inl ⟨rfl, rfl⟩⟩⟩
  | 2, _ =>
    refine dloop_ok (C := (⟨Try.prog, G, B⟩ : Ctx)) (dgM G B 1) (fuel := 300) (n0 := 20) (m := 1) (c := loopN Try.f32 0) (vs := [.slice false (.rw 0) (.lit 0) (.lit 2), .nils, .int .i64 (.ofN (.var 5 (n + m))), .slice false (.rw 0) (.lit 0) (.lit 2), .int .i64 (.lit 2), .int .i64 (.lit 2)]) (H := [some ⟨1, .of [.slice true (.ro (.var 1 k)) (.lit 0) (.var 2 n), .slice true (.ro (.var 3 k2)) (.lit 0) (.var 4 m)]⟩]) (by simp) ?_
    rw [ca_2]
    exact ⟨rfl, .inl ⟨by simp [vVs, vV, vI, vN, vR, wk], rfl⟩⟩
  | i + 3, hi => omega
theorem cb_go (G : Nat → List AV) (B : Nat) (k n k2 m : Nat) (h : caC G k n k2 m = true) (z : List AV) (hz : bnds 0 z = true) : AWp (⟨Try.prog, G, B⟩ : Ctx) 1 (.loop (loopN Try.f32 1)) (fl 36 [2, 6, 25, 26, 27] [.nils, .slice true (.rw 1) 0 0, .slice false (.rw 0) 0 2, .int .i64 2, .int .i64 0]) [some ⟨1, [.slice true (.ro k) 0 n, .slice true (.ro k2) 0 m]⟩, some ⟨3, z⟩]
    (lv 36 [2, 6, 25, 26, 27] fun e vs H => e = .exit 2 ∧ vs = [.nils, .slice true (.rw 1) 0 (n + m), .slice false (.rw 0) 0 2, .int .i64 2, .int .i64 2] ∧ H = [some ⟨1, [.slice true (.ro k) 0 n, .slice true (.ro k2) 0 m]⟩, some ⟨3, ctT (G k) n ++ ctT (G k2) m⟩]) := by
  obtain ⟨hk, hk2, hn, hm⟩ := caC_iff.1 h
  obtain ⟨i1, l1⟩ := ct_ints hk
  obtain ⟨i2, l2⟩ := ct_ints hk2
  obtain ⟨b1, _⟩ := ints_flat i1
  have i3 : (ctT (G k) n ++ ctT (G k2) m).all isI64V = true := by rw [List.all_append, i1, i2]; rfl
  obtain ⟨b3, _⟩ := ints_flat i3
  have o1 := okI_len hk
  have o2 := okI_len hk2
  refine scan 2 (fun i => match i with | 0 => [.nils, .slice true (.rw 1) 0 0, .slice false (.rw 0) 0 2, .int .i64 2, .int .i64 0] | 1 => [.nils, .slice true (.rw 1) 0 n, .slice false (.rw 0) 0 2, .int .i64 2, .int .i64 1] | _ => [.nils, .slice true (.rw 1) 0 (n + m), .slice false (.rw 0) 0 2, .int .i64 2, .int .i64 2]) (fun i => match i with | 0 => [some ⟨1, [.slice true (.ro k) 0 n, .slice true (.ro k2) 0 m]⟩, some ⟨3, z⟩] | 1 => [some ⟨1, [.slice true (.ro k) 0 n, .slice true (.ro k2) 0 m]⟩, some ⟨3, ctT (G k) n⟩] | _ => [some ⟨1, [.slice true (.ro k) 0 n, .slice true (.ro k2) 0 m]⟩, some ⟨3, ctT (G k) n ++ ctT (G k2) m⟩]) fun i hi => ?_
  match i, hi with
  | 0, _ =>
    refine dloop_ok (C := (⟨Try.prog, G, B⟩ : Ctx)) (dgM G B 1) (fuel := 300) (n0 := 20) (m := 1) (c := loopN Try.f32 1) (vs := [.nils, .slice true (.rw 1) (.lit 0) (.lit 0), .slice false (.rw 0) (.lit 0) (.lit 2), .int .i64 (.lit 2), .int .i64 (.lit 0)]) (H := [some ⟨1, .of [.slice true (.ro (.var 1 k)) (.lit 0) (.var 2 n), .slice true (.ro (.var 3 k2)) (.lit 0) (.var 4 m)]⟩, some ⟨3, .var 8 z⟩]) (by simp) ?_
    rw [cb_0, subL_ct]
    refine ⟨leB_iff.2 o1, ints_cells i1, leB_iff.2 (by omega), by omega, .inr ?_⟩
    exact View.renM (θ := [0, 2]) (by simp) (fun i hi => by match i, hi with | 0, _ => rfl) (by decide) ⟨⟨by simp [bnds, bnd], by simp [rens, ren]⟩, ⟨bnds_mono (Nat.zero_le _) _ b1, by rw [rens_flat _ _ b1]; rfl⟩, trivial⟩ (by simp [bnds, bnd]) (by simp [rens, ren, wk])
  | 1, _ =>
    refine dloop_ok (C := (⟨Try.prog, G, B⟩ : Ctx)) (dgM G B 1) (fuel := 300) (n0 := 20) (m := 1) (c := loopN Try.f32 1) (vs := [.nils, .slice true (.rw 1) (.lit 0) (.var 5 n), .slice false (.rw 0) (.lit 0) (.lit 2), .int .i64 (.lit 2), .int .i64 (.lit 1)]) (H := [some ⟨1, .of [.slice true (.ro (.var 1 k)) (.lit 0) (.var 2 n), .slice true (.ro (.var 3 k2)) (.lit 0) (.var 4 m)]⟩, some ⟨3, .var 8 (ctT (G k) n)⟩]) (by simp) ?_
    rw [cb_1, subL_ct]
    refine ⟨leB_iff.2 o2, ints_cells i2, leB_iff.2 (by omega), by rw [l1]; exact Nat.beq_refl _, by omega, .inr ?_⟩
    exact View.renM (θ := [0, 2]) (by simp) (fun i hi => by match i, hi with | 0, _ => rfl) (by decide) ⟨⟨by simp [bnds, bnd], by simp [rens, ren]⟩, ⟨bnds_mono (Nat.zero_le _) _ b3, by rw [rens_flat _ _ b3]; rfl⟩, trivial⟩ (by simp [bnds, bnd]) (by simp [rens, ren, wk])
  | 2, _ =>
    refine dloop_ok (C := (⟨Try.prog, G, B⟩ : Ctx)) (dgM G B 1) (fuel := 300) (n0 := 20) (m := 1) (c := loopN Try.f32 1) (vs := [.nils, .slice true (.rw 1) (.lit 0) (.var 5 (n + m)), .slice false (.rw 0) (.lit 0) (.lit 2), .int .i64 (.lit 2), .int .i64 (.lit 2)]) (H := [some ⟨1, .of [.slice true (.ro (.var 1 k)) (.lit 0) (.var 2 n), .slice true (.ro (.var 3 k2)) (.lit 0) (.var 4 m)]⟩, some ⟨3, .var 8 (ctT (G k) n ++ ctT (G k2) m)⟩]) (by simp) ?_
    rw [cb_2]
    exact ⟨rfl, rfl, rfl⟩
  | i + 3, hi => omega
/-- ... from an empty list that was made, or from nil -/
def cbQ (G : Nat → List AV) (k n k2 m : Nat) (e : Bool) : List AV → Bool := bif e then stQ (caC G k n k2 m) [.nils, .nils, .slice false (.rw 0) 0 2, .int .i64 2, .int .i64 0] [some ⟨1, [.slice true (.ro k) 0 n, .slice true (.ro k2) 0 m]⟩] else stQ (caC G k n k2 m) [.nils, .slice true (.rw 1) 0 0, .slice false (.rw 0) 0 2, .int .i64 2, .int .i64 0] [some ⟨1, [.slice true (.ro k) 0 n, .slice true (.ro k2) 0 m]⟩, some ⟨3, repL (n + m) [.int .i64 0, .int .i64 0, .int .i64 0]⟩]
def cbO (k n k2 m : Nat) : LOut := .one (.exit 2) [.nils, .slice true (.rw 1) (.lit 0) (.add (.var 2 n) (.var 4 m)), .undef, .undef, .undef] [some ⟨1, .of [.slice true (.ro (.var 1 k)) (.lit 0) (.var 2 n), .slice true (.ro (.var 3 k2)) (.lit 0) (.var 4 m)]⟩, some ⟨3, .app (.sub (.ro (.var 1 k)) (.lit 0) (.mul (.var 2 n) 3)) (.sub (.ro (.var 3 k2)) (.lit 0) (.mul (.var 4 m) 3))⟩]
theorem repL_flat (n : Nat) : (repL n [.int .i64 0, .int .i64 0, .int .i64 0]).all isI64V = true := by
  unfold repL
  rw [List.all_eq_true]
  intro v hv
  simp only [List.mem_flatten, List.mem_replicate] at hv
  obtain ⟨l, ⟨_, rfl⟩, hv⟩ := hv
  simp at hv; subst hv; rfl
theorem cbL_ok (G : Nat → List AV) (B : Nat) (k n k2 m : Nat) (e : Bool) : DLoopOk (⟨Try.prog, G, B⟩ : Ctx) 1 (loopN Try.f32 1) (DLat 1644 (cbQ G k n k2 m e) 2 36 [2, 6, 25, 26, 27] (cbO k n k2 m)) := by
  have fin : ∀ {vs : List AV} {H : Hp}, AWp (⟨Try.prog, G, B⟩ : Ctx) 1 (.loop (loopN Try.f32 1)) (fl 36 [2, 6, 25, 26, 27] vs) H (lv 36 [2, 6, 25, 26, 27] fun e vs H => e = .exit 2 ∧ vs = [.nils, .slice true (.rw 1) 0 (n + m), .slice false (.rw 0) 0 2, .int .i64 2, .int .i64 2] ∧ H = [some ⟨1, [.slice true (.ro k) 0 n, .slice true (.ro k2) 0 m]⟩, some ⟨3, ctT (G k) n ++ ctT (G k2) m⟩]) → AWp (⟨Try.prog, G, B⟩ : Ctx) 1 (.loop (loopN Try.f32 1)) (fl 36 [2, 6, 25, 26, 27] vs) H (lv 36 [2, 6, 25, 26, 27] ((cbO k n k2 m).post G 1)) := fun h => h.lmono fun e vs H ⟨h1, h2, h3⟩ => by
    subst h1; subst h2; subst h3
    exact ⟨rfl, .inl ⟨by simp [vVs, vV, vI, vN, vR, wk], rfl⟩⟩
  cases e with
  | false => exact DLat_ok rfl fun h => fin (cb_go G B k n k2 m h _ (ints_flat (repL_flat _)).1)
  | true =>
    refine DLat_ok rfl fun h => ?_
    refine AWp.nilL [.nils, .slice true (.rw 1) 0 0, .slice false (.rw 0) 0 2, .int .i64 2, .int .i64 0] 3 (by simp) ⟨.inl rfl, .inr ⟨rfl, rfl⟩, .inl rfl, .inl rfl, .inl rfl, trivial⟩ ?_
    exact fin (cb_go G B k n k2 m h [] rfl)
theorem t32 (G : Nat → List AV) (k n k2 m : Nat) (e : Bool) (Q : Ex → List AV → Hp → Prop) (R : AV → Hp → Prop) : vT G Q R (dcall (Dc Try.prog [40] [] [(DLat 1643 (caQ G k n k2 m) 0 36 [0, 2, 3, 9, 10, 11] (caO n m k k2)), (DLat 1644 (cbQ G k n k2 m e) 2 36 [2, 6, 25, 26, 27] (cbO k n k2 m))] 1) 300 20 Try.f32 [.slice false (.rw 0) (.lit 0) (.lit 2)] [some ⟨1, .of [.slice true (.ro (.var 1 k)) (.lit 0) (.var 2 n), .slice true (.ro (.var 3 k2)) (.lit 0) (.var 4 m)]⟩] 9) = (
    (caQ G k n k2 m) [.agg ([.slice false (.rw 0) (0) (2), .nils, .int .i64 (0), .slice false (.rw 0) (0) (2), .int .i64 (2), .int .i64 (0)] : List AV), .agg ([.tup [.int .i64 (1), .agg ([.slice true (.ro (k)) (0) (n), .slice true (.ro (k2)) (0) (m)] : List AV)]] : List AV)] = true ∧
    (!(decide ((((n + m : Nat) : Int) : Int) < 0))) = true ∧
    (decide ((IntKind.wrap .i64 (((n + m : Nat) : Int) - 0) : Int) > 0) = true →
      decide ((0 : Int) ≤ IntKind.wrap .i64 (((n + m : Nat) : Int) - 0)) = true ∧
      decide ((bigF 24 [.int .i64 (IntKind.wrap .i64 (((n + m : Nat) : Int) - 0))] : Int) ≤ 140737488355328) = true ∧
      decide ((0 : Int) ≤ ((Int.toNat (IntKind.wrap .i64 (((n + m : Nat) : Int) - 0)) : Nat) : Int)) = true ∧
      (cbQ G k n k2 m e) [.agg ([.nils, .slice true (.rw 1) (0) (0), .slice false (.rw 0) (0) (2), .int .i64 (2), .int .i64 (0)] : List AV), .agg ([.tup [.int .i64 (1), .agg ([.slice true (.ro (k)) (0) (n), .slice true (.ro (k2)) (0) (m)] : List AV)], .tup [.int .i64 (3), .agg (repL (Int.toNat (IntKind.wrap .i64 (((n + m : Nat) : Int) - 0))) ([.int .i64 (0), .int .i64 (0), .int .i64 (0)] : List AV))]] : List AV)] = true ∧
      R (.slice true (.rw 1) (0) (n + m)) [some ⟨1, ([.slice true (.ro (k)) (0) (n), .slice true (.ro (k2)) (0) (m)] : List AV)⟩, some ⟨3, ((subL (G (k)) (0) ((n) * 3)) ++ (subL (G (k2)) (0) ((m) * 3)))⟩]) ∧
    (decide ((IntKind.wrap .i64 (((n + m : Nat) : Int) - 0) : Int) > 0) = false →
      (cbQ G k n k2 m e) [.agg ([.nils, .nils, .slice false (.rw 0) (0) (2), .int .i64 (2), .int .i64 (0)] : List AV), .agg ([.tup [.int .i64 (1), .agg ([.slice true (.ro (k)) (0) (n), .slice true (.ro (k2)) (0) (m)] : List AV)]] : List AV)] = true ∧
      R (.slice true (.rw 1) (0) (n + m)) [some ⟨1, ([.slice true (.ro (k)) (0) (n), .slice true (.ro (k2)) (0) (m)] : List AV)⟩, some ⟨3, ((subL (G (k)) (0) ((n) * 3)) ++ (subL (G (k2)) (0) ((m) * 3)))⟩])) := by kernel_rfl
theorem ca_call (G : Nat → List AV) (B : Nat) (k n k2 m : Nat) (h : caC G k n k2 m = true) : ACalls (⟨Try.prog, G, B⟩ : Ctx) 32 [.slice false (.rw 0) 0 2] [some ⟨1, [.slice true (.ro k) 0 n, .slice true (.ro k2) 0 m]⟩] fun v H => v = .slice true (.rw 1) 0 (n + m) ∧ H.take 2 = [some ⟨1, [.slice true (.ro k) 0 n, .slice true (.ro k2) 0 m]⟩, some ⟨3, ctT (G k) n ++ ctT (G k2) m⟩] := by
  obtain ⟨hk, hk2, hn, hm⟩ := caC_iff.1 h
  have := dcall_ok (C := (⟨Try.prog, G, B⟩ : Ctx)) (fuel := 300) (n0 := 20) (f := 32) (fn := Try.f32) (args := [.slice false (.rw 0) (.lit 0) (.lit 2)]) (H := [some ⟨1, .of [.slice true (.ro (.var 1 k)) (.lit 0) (.var 2 n), .slice true (.ro (.var 3 k2)) (.lit 0) (.var 4 m)]⟩]) (keep := 9)
    (R := fun v H => v = .slice true (.rw 1) 0 (n + m) ∧ H = [some ⟨1, [.slice true (.ro k) 0 n, .slice true (.ro k2) 0 m]⟩, some ⟨3, ctT (G k) n ++ ctT (G k2) m⟩]) (dgood (inl := [40]) (ls := [(DLat 1643 (caQ G k n k2 m) 0 36 [0, 2, 3, 9, 10, 11] (caO n m k k2)), DLat 1644 (cbQ G k n k2 m (decide (n + m = 0))) 2 36 [2, 6, 25, 26, 27] (cbO k n k2 m)]) (M := 1) (mixF G B) (by kernel_rfl) .nil (.cast (.cons (i := 0) (by kernel_rfl) rfl (caL_ok G B k n k2 m) (.cons (i := 2) (by kernel_rfl) rfl (cbL_ok G B k n k2 m _) .nil)) (by kernel_rfl))) (by kernel_rfl) (by kernel_rfl) (by kernel_rfl) (by
    rw [t32, Int.sub_zero, i64_in (by omega), int_nat, subL_ct, subL_ct]
    refine ⟨stQ_refl h rfl rfl, by rw [decide_eq_false (by omega)]; rfl, fun e => ?_, fun e => ?_⟩
    · have e := of_decide_eq_true e
      refine ⟨decide_eq_true (by omega), decide_eq_true (by show ((n + m : Nat) : Int) * ((24 : Nat) : Int) ≤ _; omega), decide_eq_true (by omega), ?_, rfl, rfl⟩
      rw [decide_eq_false (by omega)]
      exact stQ_refl h rfl (by simp only [encHB, List.map_cons, List.map_nil, noRcds, noRcd, (ints_flat (repL_flat (n + m))).2.2.1]; rfl)
    · have e := of_decide_eq_false e
      rw [decide_eq_true (by omega)]
      exact ⟨stQ_refl h rfl rfl, rfl, rfl⟩)
  refine this.monoK ?_
  rintro v H ⟨rfl, hH⟩
  refine ⟨rfl, ?_⟩
  have := congrArg (List.take 2) hH
  rw [List.take_take] at this
  exact this
def okN6 : List AV → Bool := fun xs => match xs with
  | [.int _ n] => decide (n ≤ 1000000)
  | _ => false
def caS : DSum := fun args H => match args with
  | [.slice false (.rw i) (.lit 0) (.lit 2)] => match H[i]? with
    | some (some ⟨1, .of [.slice true (.ro k) (.lit 0) n, .slice true (.ro k2) (.lit 0) m]⟩) =>
      some (.chk (.uf 1601 rowsU [.agg (.ro k), .int .i64 (.ofN n)]) (.chk (.uf 1601 rowsU [.agg (.ro k2), .int .i64 (.ofN m)]) (.chk (.leN n (.lit 1000000)) (.chk (.leN m (.lit 1000000))
        (.one (.slice true (.rw H.length) (.lit 0) (.add n m)) [.new ⟨3, .app (.sub (.ro k) (.lit 0) (.mul n 3)) (.sub (.ro k2) (.lit 0) (.mul m 3))⟩])))))
    | _ => none
  | _ => none
theorem caS_ok (G : Nat → List AV) (B : Nat) : DSumOk (⟨Try.prog, G, B⟩ : Ctx) 32 caS := by
  intro args H o ho
  unfold caS at ho
  split at ho
  · rename_i i
    split at ho
    · rename_i k n k2 m hi
      simp only [Option.some.injEq] at ho
      subst ho
      intro h1 h2 h3 h4
      have h1 : okI .i64 (G (vN G k)) 0 (vN G n * 3) = true := h1
      have h2 : okI .i64 (G (vN G k2)) 0 (vN G m * 3) = true := h2
      have h3 : vN G n ≤ 1000000 := leB_iff.1 h3
      have h4 : vN G m ≤ 1000000 := leB_iff.1 h4
      have key := ca_call G B (vN G k) (vN G n) (vN G k2) (vN G m) (caC_iff.2 ⟨h1, h2, h3, h4⟩)
      have hfl : bnds 0 (ctT (G (vN G k)) (vN G n) ++ ctT (G (vN G k2)) (vN G m)) = true := (ints_flat (by rw [List.all_append, (ct_ints h1).1, (ct_ints h2).1]; rfl)).1
      have key := key.keep (by simp) (by simp [hpB, bnds, bnd, bnds_mono (Nat.zero_le 2) _ hfl]) (by simp [bnd]) (by simp)
      refine DOut.newN (C := (⟨Try.prog, G, B⟩ : Ctx)) (θ := [i]) (H0 := [some ⟨1, [.slice true (.ro (vN G k)) 0 (vN G n), .slice true (.ro (vN G k2)) 0 (vN G m)]⟩]) (b := ⟨3, .app (.sub (.ro k) (.lit 0) (.mul n 3)) (.sub (.ro k2) (.lit 0) (.mul m 3))⟩) (args0 := [.slice false (.rw 0) 0 2]) (v0 := .slice true (.rw 1) 0 (vN G n + vN G m)) (by simp) rfl (fun j b hb => ?_) (by simp [bnds, bnd]) (by simp [vVs, vV, vR, vN, rens, ren]) key hfl (by simp [bnd]) (by simp [vV, vR, vN, ren, wide, List.getD])
      match j, hb with
      | 0, hb =>
        simp at hb; subst hb
        exact ⟨_, rfl, by simp [bnds, bnd], by simpa [renB, rens, ren, vBlk, vL, vVs, vV, vR, vN] using vHp_some (G := G) hi⟩
      | j + 1, hb => simp at hb
    · simp at ho
  · simp at ho
end Go.Am
