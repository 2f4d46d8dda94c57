/-
  Images: which are the same: the loops' laws, the functions.
-/
import Derived.Test.YthejjolnlngahaaImK
namespace Go.Am
open Go.Proofs
set_option maxRecDepth 100000
theorem rs_e (G : Nat → List AV) (s sv : Int) (k k2 n nv kp kp2 m m2 i : Nat) (Q : Ex → List AV → Hp → Prop) (R : AV → Hp → Prop) : vT G Q R (dloop (Dc Try.prog [] [] [] 2) 300 20 2 (loopN Try.f15 1) 95 [2, 3, 4, 8] [.ptr (.rw 0) (.lit 0), .ptr (.rw 1) (.lit 0), .undef, .int .i64 (.ofN (.var 8 i))] [some ⟨1, .of [.int .i64 (.var 4 s), .slice true (.ro (.var 1 k)) (.lit 0) (.var 2 n), .slice true (.ro (.var 5 kp)) (.lit 0) (.var 6 m)]⟩, some ⟨1, .of [.int .i64 (.var 10 sv), .slice true (.ro (.var 3 k2)) (.lit 0) (.var 9 nv), .slice true (.ro (.var 7 kp2)) (.lit 0) (.var 31 m2)]⟩]) = (
    (decide ((((i : Nat) : Int) : Int) < ((m : Nat) : Int)) = true →
      decide ((0 : Int) ≤ ((i : Nat) : Int)) = true ∧
      decide ((((i : Nat) : Int) : Int) < ((m : Nat) : Int)) = true ∧
      leafsOk (G (kp)) ((i) * 2) [.int .i64, .bool] = true ∧
      decide ((0 : Int) ≤ ((i : Nat) : Int)) = true ∧
      decide ((((i : Nat) : Int) : Int) < ((m2 : Nat) : Int)) = true ∧
      leafsOk (G (kp2)) ((i) * 2) [.int .i64, .bool] = true ∧
      (((getI (G (kp)) ((i) * 2) : Int) == getI (G (kp2)) ((i) * 2)) = true →
        (getB (G (kp)) ((i) * 2 + 1) = true →
          (getB (G (kp2)) ((i) * 2 + 1) = true →
            Q .normal [.ptr (.rw 0) (0), .ptr (.rw 1) (0), .undef, .int .i64 (IntKind.wrap .i64 (((i : Nat) : Int) + 1))] [some ⟨1, ([.int .i64 (s), .slice true (.ro (k)) (0) (n), .slice true (.ro (kp)) (0) (m)] : List AV)⟩, some ⟨1, ([.int .i64 (sv), .slice true (.ro (k2)) (0) (nv), .slice true (.ro (kp2)) (0) (m2)] : List AV)⟩]) ∧
          (getB (G (kp2)) ((i) * 2 + 1) = false →
            Q .ret [.ptr (.rw 0) (0), .ptr (.rw 1) (0), .bool (false), .int .i64 (((i : Nat) : Int))] [some ⟨1, ([.int .i64 (s), .slice true (.ro (k)) (0) (n), .slice true (.ro (kp)) (0) (m)] : List AV)⟩, some ⟨1, ([.int .i64 (sv), .slice true (.ro (k2)) (0) (nv), .slice true (.ro (kp2)) (0) (m2)] : List AV)⟩])) ∧
        (getB (G (kp)) ((i) * 2 + 1) = false →
          (getB (G (kp2)) ((i) * 2 + 1) = true →
            Q .ret [.ptr (.rw 0) (0), .ptr (.rw 1) (0), .bool (false), .int .i64 (((i : Nat) : Int))] [some ⟨1, ([.int .i64 (s), .slice true (.ro (k)) (0) (n), .slice true (.ro (kp)) (0) (m)] : List AV)⟩, some ⟨1, ([.int .i64 (sv), .slice true (.ro (k2)) (0) (nv), .slice true (.ro (kp2)) (0) (m2)] : List AV)⟩]) ∧
          (getB (G (kp2)) ((i) * 2 + 1) = false →
            Q .normal [.ptr (.rw 0) (0), .ptr (.rw 1) (0), .undef, .int .i64 (IntKind.wrap .i64 (((i : Nat) : Int) + 1))] [some ⟨1, ([.int .i64 (s), .slice true (.ro (k)) (0) (n), .slice true (.ro (kp)) (0) (m)] : List AV)⟩, some ⟨1, ([.int .i64 (sv), .slice true (.ro (k2)) (0) (nv), .slice true (.ro (kp2)) (0) (m2)] : List AV)⟩]))) ∧
      (((getI (G (kp)) ((i) * 2) : Int) == getI (G (kp2)) ((i) * 2)) = false →
        Q .ret [.ptr (.rw 0) (0), .ptr (.rw 1) (0), .bool (false), .int .i64 (((i : Nat) : Int))] [some ⟨1, ([.int .i64 (s), .slice true (.ro (k)) (0) (n), .slice true (.ro (kp)) (0) (m)] : List AV)⟩, some ⟨1, ([.int .i64 (sv), .slice true (.ro (k2)) (0) (nv), .slice true (.ro (kp2)) (0) (m2)] : List AV)⟩])) ∧
    (decide ((((i : Nat) : Int) : Int) < ((m : Nat) : Int)) = false →
      Q (.exit 2) [.ptr (.rw 0) (0), .ptr (.rw 1) (0), .undef, .int .i64 (((i : Nat) : Int))] [some ⟨1, ([.int .i64 (s), .slice true (.ro (k)) (0) (n), .slice true (.ro (kp)) (0) (m)] : List AV)⟩, some ⟨1, ([.int .i64 (sv), .slice true (.ro (k2)) (0) (nv), .slice true (.ro (kp2)) (0) (m2)] : List AV)⟩])) := by kernel_rfl
theorem plEq_1 {ps ps2 : List AV} {j : Nat} (h1 : (getI ps (j * 2) == getI ps2 (j * 2)) = true) (h2 : getB ps (j * 2 + 1) = getB ps2 (j * 2 + 1)) : plEq ps ps2 j = true := by unfold plEq xP hP; rw [h1, h2]; simp
theorem plEq_2 {ps ps2 : List AV} {j : Nat} (h2 : getB ps (j * 2 + 1) ≠ getB ps2 (j * 2 + 1)) : plEq ps ps2 j = false := by unfold plEq xP hP; rw [beq_eq_false_iff_ne.2 h2, Bool.and_false]
theorem plEq_3 {ps ps2 : List AV} {j : Nat} (h1 : (getI ps (j * 2) == getI ps2 (j * 2)) = false) : plEq ps ps2 j = false := by unfold plEq xP hP; rw [h1, Bool.false_and]
theorem eqL_ok (G : Nat → List AV) (B : Nat) (k k2 n nv : Nat) : DLoopOk (⟨Try.prog, G, B⟩ : Ctx) 0 (loopN Try.f39 0) (DLat 1725 (ePQ G k k2 n nv) 0 26 [0, 1, 4, 12, 13] (ePO k k2 n nv)) := by
  refine DLat_ok rfl fun hc => ?_
  obtain ⟨rfl, hn, hp, hp2⟩ := condP_iff.1 hc
  refine scan (fstF (fun j => !plEq (G k) (G k2) j) n) (fun i => [.slice true (.ro k) 0 n, .slice true (.ro k2) 0 n, .bool false, .int .i64 (n : Int), .int .i64 (i : Int)]) (fun _ => []) fun i hi => ?_
  refine dloop_ok (C := (⟨Try.prog, G, B⟩ : Ctx)) (by rw [show loopsOf (loopN Try.f39 0) = [] by kernel_rfl]; exact dgood (inl := []) (ls := []) (M := 0) (mixI G B) (by kernel_rfl) .nil .nil) (fuel := 300) (n0 := 20) (m := 0) (c := loopN Try.f39 0) (vs := [.slice true (.ro (.var 1 k)) (.lit 0) (.var 2 n), .slice true (.ro (.var 3 k2)) (.lit 0) (.var 9 n), .bool (.lit false), .int .i64 (.ofN (.var 2 n)), .int .i64 (.ofN (.var 8 i))]) (H := []) (by simp) ?_
  rw [eq_b]
  have hle : fstF (fun j => !plEq (G k) (G k2) j) n ≤ n := fstF_spec.1
  refine ⟨fun h1 => ?_, fun h1 => ?_⟩
  · have h1' := of_decide_eq_true h1
    have hin : i < n := by omega
    rw [i64_in (n := (i : Int) + 1) (by omega)]
    have no : plEq (G k) (G k2) i = false → plSU [.agg (G k), .agg (G k2), .int .i64 (n : Int)] = false := fun h => by rw [plSU_eq, allTo_false hin h]
    have yes : plEq (G k) (G k2) i = true → i < fstF (fun j => !plEq (G k) (G k2) j) n := fun h => fst_nx hi hin h
    refine ⟨decide_eq_true (by omega), h1, (plsOk_at hp hin).1, decide_eq_true (by omega), h1, (plsOk_at hp2 hin).1, fun h2 => ⟨fun h3 => ⟨fun h4 => ?_, fun h4 => ?_⟩, fun h3 => ⟨fun h4 => ?_, fun h4 => ?_⟩⟩, fun h2 => ?_⟩
    · exact ⟨yes (plEq_1 h2 (h3.trans h4.symm)), .inr (View.same (H := []) (by simp) rfl (by simp [fv, bnd, bnds]))⟩
    · exact .inr ⟨no (plEq_2 fun e => by have := h3.symm.trans (e.trans h4); simp at this), rfl, .inr (View.same (H := []) (by simp) rfl (by simp [fv, bnd, vVs, vV, vB]))⟩
    · exact .inr ⟨no (plEq_2 fun e => by have := h3.symm.trans (e.trans h4); simp at this), rfl, .inr (View.same (H := []) (by simp) rfl (by simp [fv, bnd, vVs, vV, vB]))⟩
    · exact ⟨yes (plEq_1 h2 (h3.trans h4.symm)), .inr (View.same (H := []) (by simp) rfl (by simp [fv, bnd, bnds]))⟩
    · exact .inr ⟨no (plEq_3 h2), rfl, .inr (View.same (H := []) (by simp) rfl (by simp [fv, bnd, vVs, vV, vB]))⟩
  · have h1' := of_decide_eq_false h1
    refine .inl ⟨?_, rfl, .inl ⟨by simp [vVs, vV, wk], rfl⟩⟩
    show plSU [.agg (G k), .agg (G k2), .int .i64 (n : Int)] = true
    rw [plSU_eq]; exact fst_all hi (by omega)
theorem datOk_at {G : Nat → List AV} {cs : List AV} {n i : Nat} (h : datsOk G cs n = true) (hi : i < n) : datOk G cs i = true := allTo_iff.1 h i hi
theorem efL_ok (G : Nat → List AV) (B : Nat) (k k2 n nv : Nat) : DLoopOk (⟨Try.prog, G, B⟩ : Ctx) 0 (loopN Try.f40 0) (DLat 1726 (efQ G k k2 n nv) 0 32 [1, 2, 6, 15, 16, 17] (efO G k k2 n nv)) := by
  refine DLat_ok rfl fun hc => ?_
  obtain ⟨rfl, hn, ⟨hs, hs2⟩, hd, hd2⟩ := condR_iff.1 hc
  refine scan (fstF (fun j => !secEq G (G k) (G k2) j) n) (fun i => [.slice true (.ro k2) 0 n, .func 41 [], .bool false, .slice true (.ro k) 0 n, .int .i64 (n : Int), .int .i64 (i : Int)]) (fun _ => []) fun i hi => ?_
  refine dloop_ok (C := (⟨Try.prog, G, B⟩ : Ctx)) (by rw [show loopsOf (loopN Try.f40 0) = [] by kernel_rfl]; exact dgood (inl := [41, 42]) (ls := []) (M := 0) (mixI G B) (by kernel_rfl) .nil .nil) (fuel := 300) (n0 := 20) (m := 0) (c := loopN Try.f40 0) (vs := [.slice true (.ro (.var 3 k2)) (.lit 0) (.var 9 n), .func 41 [], .bool (.lit false), .slice true (.ro (.var 1 k)) (.lit 0) (.var 2 n), .int .i64 (.ofN (.var 2 n)), .int .i64 (.ofN (.var 8 i))]) (H := []) (by simp) ?_
  rw [ef_b]
  have hle : fstF (fun j => !secEq G (G k) (G k2) j) n ≤ n := fstF_spec.1
  refine ⟨fun h1 => ?_, fun h1 => ?_⟩
  · have h1' := of_decide_eq_true h1
    have hin : i < n := by omega
    rw [i64_in (n := (i : Int) + 1) (by omega)]
    have no : secEq G (G k) (G k2) i = false → secSU G [.agg (G k), .agg (G k2), .int .i64 (n : Int)] = false := fun h => by rw [secSU_eq, allTo_false hin h]
    have d1 := datOk_at hd hin
    have d2 := datOk_at hd2 hin
    unfold datOk at d1 d2
    rw [Bool.and_eq_true] at d1 d2
    refine ⟨decide_eq_true (by omega), h1, secsOk_at hs hin, decide_eq_true (by omega), h1, secsOk_at hs2 hin, fun h2 => ⟨fun h3 => ⟨d1.1, d1.2, d2.1, d2.2, fun h4 => ⟨fun h5 => ?_, fun h5 => ?_⟩, fun h4 => ?_⟩, fun h3 => ?_⟩, fun h2 => ?_⟩
    · exact ⟨fst_nx hi hin (by unfold secEq sA sR sZ datL; rw [h2, h3, h4, h5]; rfl), .inr (View.same (H := []) (by simp) rfl (by simp [fv, bnd, bnds]))⟩
    · exact .inr ⟨no (by unfold secEq sA sR sZ datL; rw [h2, h3, h4, h5]; rfl), rfl, .inr (View.same (H := []) (by simp) rfl (by simp [fv, bnd, vVs, vV, vB]))⟩
    · exact .inr ⟨no (by unfold secEq sA sR sZ datL; rw [h2, h3, h4]; rfl), rfl, .inr (View.same (H := []) (by simp) rfl (by simp [fv, bnd, vVs, vV, vB]))⟩
    · exact .inr ⟨no (by unfold secEq sA sR sZ datL; rw [h2, h3]; rfl), rfl, .inr (View.same (H := []) (by simp) rfl (by simp [fv, bnd, vVs, vV, vB]))⟩
    · exact .inr ⟨no (by unfold secEq sA sR sZ datL; rw [h2]; rfl), rfl, .inr (View.same (H := []) (by simp) rfl (by simp [fv, bnd, vVs, vV, vB]))⟩
  · have h1' := of_decide_eq_false h1
    refine .inl ⟨?_, rfl, .inl ⟨by simp [vVs, vV, wk], rfl⟩⟩
    show secSU G [.agg (G k), .agg (G k2), .int .i64 (n : Int)] = true
    rw [secSU_eq]; exact fst_all hi (by omega)
theorem rsL_ok (G : Nat → List AV) (B : Nat) (s sv : Int) (k k2 n nv kp kp2 m m2 : Nat) : DLoopOk (⟨Try.prog, G, B⟩ : Ctx) 2 (loopN Try.f15 0) (DLat 1723 (rsQ G s sv k k2 n nv kp kp2 m m2) 0 95 [2, 3, 4, 5] (rsO G s sv k k2 n nv kp kp2 m m2)) := by
  refine DLat_ok rfl fun hc => ?_
  obtain ⟨hnn, hn, ⟨hs, hs2⟩, hd, hd2⟩ := condR_iff.1 hc
  refine scan (fstF (fun j => !secEq G (G k) (G k2) j) n) (fun i => [.ptr (.rw 0) 0, .ptr (.rw 1) 0, .bool false, .int .i64 (i : Int)]) (fun _ => [some ⟨1, [.int .i64 s, .slice true (.ro k) 0 n, .slice true (.ro kp) 0 m]⟩, some ⟨1, [.int .i64 sv, .slice true (.ro k2) 0 nv, .slice true (.ro kp2) 0 m2]⟩]) fun i hi => ?_
  have hle : fstF (fun j => !secEq G (G k) (G k2) j) n ≤ n := fstF_spec.1
  refine rs_round G B s sv k k2 n nv kp kp2 m m2 i hnn hn hs hs2 (fun h => datOk_at hd h) (fun h => datOk_at hd2 h) (fun hin he => ?_) (fun hin he X => ?_) fun hin => ?_
  · exact ⟨fst_nx hi hin he, .inl ⟨rfl, rfl⟩⟩
  · refine .inr ⟨?_, rfl, .inr (View.same (H := [some ⟨1, [.int .i64 s, .slice true (.ro k) 0 n, .slice true (.ro kp) 0 m]⟩, some ⟨1, [.int .i64 sv, .slice true (.ro k2) 0 nv, .slice true (.ro kp2) 0 m2]⟩]) (by simp) (by simp [hpB, bnds, bnd]) (by simp [fv, bnd, vVs, vV, vB]))⟩
    show secSU G [.agg (G k), .agg (G k2), .int .i64 (n : Int)] = false
    rw [secSU_eq, allTo_false hin he]
  · refine .inl ⟨?_, rfl, .inl ⟨by simp [vVs, vV, vR, vN, wk], rfl⟩⟩
    show secSU G [.agg (G k), .agg (G k2), .int .i64 (n : Int)] = true
    rw [secSU_eq]; exact fst_all hi (by omega)
theorem rdL_ok (G : Nat → List AV) (B : Nat) (s sv : Int) (k k2 n nv kp kp2 m m2 : Nat) : DLoopOk (⟨Try.prog, G, B⟩ : Ctx) 2 (loopN Try.f15 1) (DLat 1724 (rdQ G s sv k k2 n nv kp kp2 m m2) 2 95 [2, 3, 4, 8] (rdO s sv k k2 n nv kp kp2 m m2)) := by
  refine DLat_ok rfl fun hc => ?_
  obtain ⟨rfl, hn, hp, hp2⟩ := condP_iff.1 hc
  refine scan (fstF (fun j => !plEq (G kp) (G kp2) j) m) (fun i => [.ptr (.rw 0) 0, .ptr (.rw 1) 0, .undef, .int .i64 (i : Int)]) (fun _ => [some ⟨1, [.int .i64 s, .slice true (.ro k) 0 n, .slice true (.ro kp) 0 m]⟩, some ⟨1, [.int .i64 sv, .slice true (.ro k2) 0 nv, .slice true (.ro kp2) 0 m]⟩]) fun i hi => ?_
  refine dloop_ok (C := (⟨Try.prog, G, B⟩ : Ctx)) (dgR G B (by kernel_rfl)) (fuel := 300) (n0 := 20) (m := 2) (c := loopN Try.f15 1) (vs := [.ptr (.rw 0) (.lit 0), .ptr (.rw 1) (.lit 0), .undef, .int .i64 (.ofN (.var 8 i))]) (H := [some ⟨1, .of [.int .i64 (.var 4 s), .slice true (.ro (.var 1 k)) (.lit 0) (.var 2 n), .slice true (.ro (.var 5 kp)) (.lit 0) (.var 6 m)]⟩, some ⟨1, .of [.int .i64 (.var 10 sv), .slice true (.ro (.var 3 k2)) (.lit 0) (.var 9 nv), .slice true (.ro (.var 7 kp2)) (.lit 0) (.var 31 m)]⟩]) (by simp) ?_
  rw [rs_e]
  have hle : fstF (fun j => !plEq (G kp) (G kp2) j) m ≤ m := fstF_spec.1
  have fb : hpB 2 [some ⟨1, [.int .i64 s, .slice true (.ro k) 0 n, .slice true (.ro kp) 0 m]⟩, some ⟨1, [.int .i64 sv, .slice true (.ro k2) 0 nv, .slice true (.ro kp2) 0 m]⟩] = true := by simp [hpB, bnds, bnd]
  refine ⟨fun h1 => ?_, fun h1 => ?_⟩
  · have h1' := of_decide_eq_true h1
    have hin : i < m := by omega
    rw [i64_in (n := (i : Int) + 1) (by omega)]
    have no : plEq (G kp) (G kp2) i = false → plSU [.agg (G kp), .agg (G kp2), .int .i64 (m : Int)] = false := fun h => by rw [plSU_eq, allTo_false hin h]
    have yes : plEq (G kp) (G kp2) i = true → i < fstF (fun j => !plEq (G kp) (G kp2) j) m := fun h => fst_nx hi hin h
    refine ⟨decide_eq_true (by omega), h1, (plsOk_at hp hin).1, decide_eq_true (by omega), h1, (plsOk_at hp2 hin).1, fun h2 => ⟨fun h3 => ⟨fun h4 => ?_, fun h4 => ?_⟩, fun h3 => ⟨fun h4 => ?_, fun h4 => ?_⟩⟩, fun h2 => ?_⟩
    · exact ⟨yes (plEq_1 h2 (h3.trans h4.symm)), .inl ⟨rfl, rfl⟩⟩
    · exact .inr ⟨no (plEq_2 fun e => by have := h3.symm.trans (e.trans h4); simp at this), rfl, .inr (View.refl (H := [some ⟨1, [.int .i64 s, .slice true (.ro k) 0 n, .slice true (.ro kp) 0 m]⟩, some ⟨1, [.int .i64 sv, .slice true (.ro k2) 0 nv, .slice true (.ro kp2) 0 m]⟩]) (by simp) fb (by simp [fv, bnd, vVs, vV, vB]))⟩
    · exact .inr ⟨no (plEq_2 fun e => by have := h3.symm.trans (e.trans h4); simp at this), rfl, .inr (View.refl (H := [some ⟨1, [.int .i64 s, .slice true (.ro k) 0 n, .slice true (.ro kp) 0 m]⟩, some ⟨1, [.int .i64 sv, .slice true (.ro k2) 0 nv, .slice true (.ro kp2) 0 m]⟩]) (by simp) fb (by simp [fv, bnd, vVs, vV, vB]))⟩
    · exact ⟨yes (plEq_1 h2 (h3.trans h4.symm)), .inl ⟨rfl, rfl⟩⟩
    · exact .inr ⟨no (plEq_3 h2), rfl, .inr (View.refl (H := [some ⟨1, [.int .i64 s, .slice true (.ro k) 0 n, .slice true (.ro kp) 0 m]⟩, some ⟨1, [.int .i64 sv, .slice true (.ro k2) 0 nv, .slice true (.ro kp2) 0 m]⟩]) (by simp) fb (by simp [fv, bnd, vVs, vV, vB]))⟩
  · have h1' := of_decide_eq_false h1
    refine .inl ⟨?_, rfl, .inl ⟨by simp [vVs, vV, wk], rfl⟩⟩
    show plSU [.agg (G kp), .agg (G kp2), .int .i64 (m : Int)] = true
    rw [plSU_eq]; exact fst_all hi (by omega)
/-- are two lists of places, of sections the same? -/
def plsF (ps : List AV) (m : Nat) (ps2 : List AV) (m2 : Nat) : Bool := Nat.beq m m2 && allTo (plEq ps ps2) m
def secF (G : Nat → List AV) (cs : List AV) (n : Nat) (cs2 : List AV) (n2 : Nat) : Bool := Nat.beq n n2 && allTo (secEq G cs cs2) n
def plsOkB (ps : List AV) (m : Nat) : Bool := plsOk ps m && Nat.ble m 1000000
def secOkB (G : Nat → List AV) (cs : List AV) (n : Nat) : Bool := secsOk cs n && (datsOk G cs n && Nat.ble n 1000000)
def plsFU : List AV → Bool := fun xs => match xs with
  | [.agg ps, .int _ m, .agg ps2, .int _ m2] => plsF ps m.toNat ps2 m2.toNat
  | _ => false
def plsFOk : List AV → Bool := fun xs => match xs with
  | [.agg ps, .int _ m, .agg ps2, .int _ m2] => plsOkB ps m.toNat && plsOkB ps2 m2.toNat
  | _ => false
def secFU (G : Nat → List AV) : List AV → Bool := fun xs => match xs with
  | [.agg ps, .int _ m, .agg ps2, .int _ m2] => secF G ps m.toNat ps2 m2.toNat
  | _ => false
def secFOk (G : Nat → List AV) : List AV → Bool := fun xs => match xs with
  | [.agg ps, .int _ m, .agg ps2, .int _ m2] => secOkB G ps m.toNat && secOkB G ps2 m2.toNat
  | _ => false
theorem ieq {n m : Nat} : (((n : Nat) : Int) == (m : Int)) = Nat.beq n m := by
  rw [Bool.eq_iff_iff, beq_iff_eq]
  exact ⟨fun h => by rw [Int.ofNat_inj.1 h]; exact Nat.beq_refl _, fun h => by rw [Nat.eq_of_beq_eq_true h]⟩
theorem pls_call (G : Nat → List AV) (B : Nat) (k k2 n nv : Nat) (h1 : plsOkB (G k) n = true) (h2 : plsOkB (G k2) nv = true) : ACalls (⟨Try.prog, G, B⟩ : Ctx) 39 [.slice true (.ro k) 0 n, .slice true (.ro k2) 0 nv] [] fun v _ => v = .bool (plsF (G k) n (G k2) nv) := by
  unfold plsOkB at h1 h2
  rw [Bool.and_eq_true] at h1 h2
  have := dcall_ok (C := (⟨Try.prog, G, B⟩ : Ctx)) (fuel := 300) (n0 := 20) (f := 39) (fn := Try.f39) (args := [.slice true (.ro (.var 1 k)) (.lit 0) (.var 2 n), .slice true (.ro (.var 3 k2)) (.lit 0) (.var 9 nv)]) (H := []) (keep := 0)
    (R := fun v _ => v = .bool (plsF (G k) n (G k2) nv)) (dgood (inl := []) (ls := [(DLat 1725 (ePQ G k k2 n nv) 0 26 [0, 1, 4, 12, 13] (ePO k k2 n nv))]) (M := 0) (mixI G B) (by kernel_rfl) .nil (.cast (.cons (i := 0) (by kernel_rfl) rfl (eqL_ok G B k k2 n nv) .nil) (by kernel_rfl))) (by kernel_rfl) (by kernel_rfl) (by kernel_rfl) (by
    rw [t39, plSU_eq, ieq]
    refine ⟨fun e => ⟨stQ_refl (condP_iff.2 ⟨Nat.eq_of_beq_eq_true e, Nat.le_of_ble_eq_true h1.2, h1.1, by rw [Nat.eq_of_beq_eq_true e]; exact h2.1⟩) rfl rfl, fun e2 => ?_, fun e2 => ?_⟩, fun e => ?_⟩
    · unfold plsF; rw [e, e2]; rfl
    · unfold plsF; rw [e, e2]; rfl
    · unfold plsF; rw [e]; rfl)
  exact this.monoK fun v H h => h
theorem secs_call (G : Nat → List AV) (B : Nat) (k k2 n nv : Nat) (h1 : secOkB G (G k) n = true) (h2 : secOkB G (G k2) nv = true) : ACalls (⟨Try.prog, G, B⟩ : Ctx) 40 [.slice true (.ro k) 0 n, .slice true (.ro k2) 0 nv, .func 41 []] [] fun v _ => v = .bool (secF G (G k) n (G k2) nv) := by
  unfold secOkB at h1 h2
  rw [Bool.and_eq_true, Bool.and_eq_true] at h1 h2
  have := dcall_ok (C := (⟨Try.prog, G, B⟩ : Ctx)) (fuel := 300) (n0 := 20) (f := 40) (fn := Try.f40) (args := [.slice true (.ro (.var 1 k)) (.lit 0) (.var 2 n), .slice true (.ro (.var 3 k2)) (.lit 0) (.var 9 nv), .func 41 []]) (H := []) (keep := 0)
    (R := fun v _ => v = .bool (secF G (G k) n (G k2) nv)) (dgood (inl := [41, 42]) (ls := [(DLat 1726 (efQ G k k2 n nv) 0 32 [1, 2, 6, 15, 16, 17] (efO G k k2 n nv))]) (M := 0) (mixI G B) (by kernel_rfl) .nil (.cast (.cons (i := 0) (by kernel_rfl) rfl (efL_ok G B k k2 n nv) .nil) (by kernel_rfl))) (by kernel_rfl) (by kernel_rfl) (by kernel_rfl) (by
    rw [t40, secSU_eq, ieq]
    refine ⟨fun e => ⟨stQ_refl (condR_iff.2 ⟨Nat.eq_of_beq_eq_true e, Nat.le_of_ble_eq_true h1.2.2, ⟨h1.1, by rw [Nat.eq_of_beq_eq_true e]; exact h2.1⟩, h1.2.1, by rw [Nat.eq_of_beq_eq_true e]; exact h2.2.1⟩) rfl rfl, fun e2 => ?_, fun e2 => ?_⟩, fun e => ?_⟩
    · unfold secF; rw [e, e2]; rfl
    · unfold secF; rw [e, e2]; rfl
    · unfold secF; rw [e]; rfl)
  exact this.monoK fun v H h => h
/-- are two images the same? -/
def sameI (G : Nat → List AV) (s : Int) (cs : List AV) (n : Nat) (ps : List AV) (m : Nat) (s2 : Int) (cs2 : List AV) (n2 : Nat) (ps2 : List AV) (m2 : Nat) : Bool := (s == s2) && (plsF ps m ps2 m2 && secF G cs n cs2 n2)
theorem rsame_call (G : Nat → List AV) (B : Nat) (s sv : Int) (k k2 n nv kp kp2 m m2 : Nat) (h1 : secOkB G (G k) n = true) (h2 : secOkB G (G k2) nv = true) (h3 : plsOkB (G kp) m = true) (h4 : plsOkB (G kp2) m2 = true) : ACalls (⟨Try.prog, G, B⟩ : Ctx) 15 [.agg [.int .i64 s, .slice true (.ro k) 0 n, .slice true (.ro kp) 0 m], .agg [.int .i64 sv, .slice true (.ro k2) 0 nv, .slice true (.ro kp2) 0 m2]] [] fun v _ => v = .bool (sameI G s (G k) n (G kp) m sv (G k2) nv (G kp2) m2) := by
  unfold secOkB at h1 h2
  unfold plsOkB at h3 h4
  rw [Bool.and_eq_true, Bool.and_eq_true] at h1 h2
  rw [Bool.and_eq_true] at h3 h4
  have := dcall_ok (C := (⟨Try.prog, G, B⟩ : Ctx)) (fuel := 300) (n0 := 20) (f := 15) (fn := Try.f15) (args := [.agg (.of [.int .i64 (.var 4 s), .slice true (.ro (.var 1 k)) (.lit 0) (.var 2 n), .slice true (.ro (.var 5 kp)) (.lit 0) (.var 6 m)]), .agg (.of [.int .i64 (.var 10 sv), .slice true (.ro (.var 3 k2)) (.lit 0) (.var 9 nv), .slice true (.ro (.var 7 kp2)) (.lit 0) (.var 31 m2)])]) (H := []) (keep := 0)
    (R := fun v _ => v = .bool (sameI G s (G k) n (G kp) m sv (G k2) nv (G kp2) m2)) (dgood (inl := []) (ls := [(DLat 1723 (rsQ G s sv k k2 n nv kp kp2 m m2) 0 95 [2, 3, 4, 5] (rsO G s sv k k2 n nv kp kp2 m m2)), (DLat 1724 (rdQ G s sv k k2 n nv kp kp2 m m2) 2 95 [2, 3, 4, 8] (rdO s sv k k2 n nv kp kp2 m m2))]) (M := 2) (mixI G B) (by kernel_rfl) .nil (.cast (.cons (i := 0) (by kernel_rfl) rfl (rsL_ok G B s sv k k2 n nv kp kp2 m m2) (.cons (i := 2) (by kernel_rfl) rfl (rdL_ok G B s sv k k2 n nv kp kp2 m m2) .nil)) (by kernel_rfl))) (by kernel_rfl) (by kernel_rfl) (by kernel_rfl) (by
    rw [t15, secSU_eq, plSU_eq, ieq, ieq]
    refine ⟨fun e1 => ⟨fun e2 => ⟨fun e3 => ⟨stQ_refl (condR_iff.2 ⟨Nat.eq_of_beq_eq_true e2, Nat.le_of_ble_eq_true h1.2.2, ⟨h1.1, by rw [Nat.eq_of_beq_eq_true e2]; exact h2.1⟩, h1.2.1, by rw [Nat.eq_of_beq_eq_true e2]; exact h2.2.1⟩) rfl rfl, fun e4 => ⟨stQ_refl (condP_iff.2 ⟨Nat.eq_of_beq_eq_true e3, Nat.le_of_ble_eq_true h3.2, h3.1, by rw [Nat.eq_of_beq_eq_true e3]; exact h4.1⟩) rfl rfl, fun e5 => ?_, fun e5 => ?_⟩, fun e4 => ?_⟩, fun e3 => ?_⟩, fun e2 => ?_⟩, fun e1 => ?_⟩
    all_goals unfold sameI plsF secF
    · rw [e1, e2, e3, e4, e5]; rfl
    · rw [e3, e5]; simp
    · rw [e2, e4]; simp
    · rw [e3]; simp
    · rw [e2]; simp
    · rw [e1]; simp)
  exact this.monoK fun v H h => h
end Go.Am
