/-
  Slices: what the document tells; trees.
-/
import Derived.Test.YtfalglcagngbnaaSlW
namespace Go.Am
open Go.Proofs
set_option maxRecDepth 100000
theorem dgNN (G : Nat → List AV) (B : Nat) : DGood (⟨Try.prog, G, B⟩ : Ctx) (Dc Try.prog [] [] [] 0) [] := dgood (mix G B) (by kernel_rfl) .nil .nil
theorem rw_b (G : Nat → List AV) (ds xs ms : List AV) (c : Nat) (i : Int) (Q : Ex → List AV → Hp → Prop) (R : AV → Hp → Prop) : vT G Q R (dloop (Dc Try.prog [] [] [] 0) 200 10 1 (loopN Try.f41 0) 43 [0, 5, 6, 7] [.ptr (.rw 0) (.lit 0), .slice true (.rw 1) (.lit 0) (.var 4 c), .ptr (.rw 2) (.lit 0), .int .i64 (.var 6 i)] [some ⟨1, .var 8 ds⟩, some ⟨7, .var 9 xs⟩, some ⟨1, .var 10 ms⟩]) = (
    (decide ((i : Int) < ((c : Nat) : Int)) = true →
      decide ((0 : Int) ≤ i) = true ∧
      decide ((i : Int) < ((c : Nat) : Int)) = true ∧
      isI .i64 xs ((Int.toNat (i)) * 7 + 5) = true ∧
      isI .i64 ms (5) = true ∧
      (decide ((getI xs ((Int.toNat (i)) * 7 + 5) : Int) < getI ms (5)) = true →
        decide ((0 : Int) ≤ i) = true ∧
        decide ((i : Int) < ((c : Nat) : Int)) = true ∧
        leB ((Int.toNat (i)) * 7 + 7) (List.length xs) = true ∧
        cellsB (subL xs ((Int.toNat (i)) * 7) (7)) = true ∧
        Nat.beq (List.length (subL xs ((Int.toNat (i)) * 7) (7))) (7) = true ∧
        leB (7) (List.length ms) = true ∧
        Q .normal [.ptr (.rw 0) (0), .slice true (.rw 1) (0) (c), .ptr (.rw 2) (0), .int .i64 (IntKind.wrap .i64 (i + 1))] [some ⟨1, ds⟩, some ⟨7, xs⟩, some ⟨1, (setPart ms (0) (.agg (subL xs ((Int.toNat (i)) * 7) (7))))⟩]) ∧
      (decide ((getI xs ((Int.toNat (i)) * 7 + 5) : Int) < getI ms (5)) = false →
        Q .normal [.ptr (.rw 0) (0), .slice true (.rw 1) (0) (c), .ptr (.rw 2) (0), .int .i64 (IntKind.wrap .i64 (i + 1))] [some ⟨1, ds⟩, some ⟨7, xs⟩, some ⟨1, ms⟩])) ∧
    (decide ((i : Int) < ((c : Nat) : Int)) = false →
      Q (.exit 0) [.ptr (.rw 0) (0), .slice true (.rw 1) (0) (c), .ptr (.rw 2) (0), .int .i64 (i)] [some ⟨1, ds⟩, some ⟨7, xs⟩, some ⟨1, ms⟩])) := by kernel_rfl
theorem rf_b (G : Nat → List AV) (ds xs : List AV) (c : Nat) (w i : Int) (Q : Ex → List AV → Hp → Prop) (R : AV → Hp → Prop) : vT G Q R (dloop (Dc Try.prog [] [] [] 0) 200 10 1 (loopN Try.f42 0) 39 [0, 1, 5, 6, 4] [.ptr (.rw 0) (.lit 0), .int .i64 (.var 7 w), .slice true (.rw 1) (.lit 0) (.var 4 c), .int .i64 (.var 6 i), .bool (.lit false)] [some ⟨1, .var 8 ds⟩, some ⟨7, .var 9 xs⟩]) = (
    (decide ((i : Int) < ((c : Nat) : Int)) = true →
      decide ((0 : Int) ≤ i) = true ∧
      decide ((i : Int) < ((c : Nat) : Int)) = true ∧
      isI .i64 xs ((Int.toNat (i)) * 7 + 6) = true ∧
      (decide ((getI xs ((Int.toNat (i)) * 7 + 6) : Int) > w) = true →
        Q .ret [.ptr (.rw 0) (0), .int .i64 (w), .slice true (.rw 1) (0) (c), .int .i64 (i), .bool (false)] [some ⟨1, ds⟩, some ⟨7, xs⟩]) ∧
      (decide ((getI xs ((Int.toNat (i)) * 7 + 6) : Int) > w) = false →
        isI .i64 ds (256) = true ∧
        decide ((0 : Int) ≤ i) = true ∧
        decide ((i : Int) < ((c : Nat) : Int)) = true ∧
        isI .i64 xs ((Int.toNat (i)) * 7 + 5) = true ∧
        (decide ((IntKind.wrap .i64 (IntKind.wrap .i64 (getI ds (256) - getI xs ((Int.toNat (i)) * 7 + 5)) + 1) : Int) > w) = true →
          Q .ret [.ptr (.rw 0) (0), .int .i64 (w), .slice true (.rw 1) (0) (c), .int .i64 (i), .bool (false)] [some ⟨1, ds⟩, some ⟨7, xs⟩]) ∧
        (decide ((IntKind.wrap .i64 (IntKind.wrap .i64 (getI ds (256) - getI xs ((Int.toNat (i)) * 7 + 5)) + 1) : Int) > w) = false →
          Q .normal [.ptr (.rw 0) (0), .int .i64 (w), .slice true (.rw 1) (0) (c), .int .i64 (IntKind.wrap .i64 (i + 1)), .bool (false)] [some ⟨1, ds⟩, some ⟨7, xs⟩]))) ∧
    (decide ((i : Int) < ((c : Nat) : Int)) = false →
      Q (.exit 0) [.ptr (.rw 0) (0), .int .i64 (w), .slice true (.rw 1) (0) (c), .int .i64 (i), .bool (false)] [some ⟨1, ds⟩, some ⟨7, xs⟩])) := by kernel_rfl
theorem rof_b (G : Nat → List AV) (ds xs ys : List AV) (c d : Nat) (a i : Int) (Q : Ex → List AV → Hp → Prop) (R : AV → Hp → Prop) : vT G Q R (dloop (Dc Try.prog [] [] [] 0) 200 10 1 (loopN Try.f40 0) 32 [0, 1, 5, 6, 7] [.ptr (.rw 0) (.lit 0), .int .i64 (.var 7 a), .slice true (.rw 2) (.lit 0) (.var 5 d), .slice true (.rw 1) (.lit 0) (.var 4 c), .int .i64 (.var 6 i)] [some ⟨1, .var 8 ds⟩, some ⟨7, .var 9 xs⟩, some ⟨1, .var 10 ys⟩]) = (
    (decide ((i : Int) < ((c : Nat) : Int)) = true →
      decide ((0 : Int) ≤ i) = true ∧
      decide ((i : Int) < ((c : Nat) : Int)) = true ∧
      isI .i64 xs ((Int.toNat (i)) * 7 + 1) = true ∧
      (((getI xs ((Int.toNat (i)) * 7 + 1) : Int) == a) = true →
        decide ((0 : Int) ≤ i) = true ∧
        decide ((i : Int) < ((c : Nat) : Int)) = true ∧
        isI .i64 xs ((Int.toNat (i)) * 7) = true ∧
        leB ((d + 1) * 8) (140737488355328) = true ∧
        Nat.beq (List.length ys) (d) = true ∧
        Q .normal [.ptr (.rw 0) (0), .int .i64 (a), .slice true (.rw 4) (0) (d + 1), .slice true (.rw 1) (0) (c), .int .i64 (IntKind.wrap .i64 (i + 1))] [some ⟨1, ds⟩, some ⟨7, xs⟩, none, some ⟨1, ([.int .i64 (getI xs ((Int.toNat (i)) * 7))] : List AV)⟩, some ⟨1, (ys ++ ([.int .i64 (getI xs ((Int.toNat (i)) * 7))] : List AV))⟩]) ∧
      (((getI xs ((Int.toNat (i)) * 7 + 1) : Int) == a) = false →
        Q .normal [.ptr (.rw 0) (0), .int .i64 (a), .slice true (.rw 2) (0) (d), .slice true (.rw 1) (0) (c), .int .i64 (IntKind.wrap .i64 (i + 1))] [some ⟨1, ds⟩, some ⟨7, xs⟩, some ⟨1, ys⟩])) ∧
    (decide ((i : Int) < ((c : Nat) : Int)) = false →
      Q (.exit 0) [.ptr (.rw 0) (0), .int .i64 (a), .slice true (.rw 2) (0) (d), .slice true (.rw 1) (0) (c), .int .i64 (i)] [some ⟨1, ds⟩, some ⟨7, xs⟩, some ⟨1, ys⟩])) := by kernel_rfl
theorem si_b (G : Nat → List AV) (xs ys : List AV) (c d : Nat) (i : Int) (Q : Ex → List AV → Hp → Prop) (R : AV → Hp → Prop) : vT G Q R (dloop (Dc Try.prog [] [] [] 0) 200 10 2 (loopN Try.f38 0) 26 [0, 1, 5, 4] [.slice true (.rw 0) (.lit 0) (.var 4 c), .slice true (.rw 1) (.lit 0) (.var 5 d), .int .i64 (.var 6 i), .bool (.lit false)] [some ⟨1, .var 9 xs⟩, some ⟨1, .var 10 ys⟩]) = (
    (decide ((i : Int) < ((c : Nat) : Int)) = true →
      decide ((0 : Int) ≤ i) = true ∧
      decide ((i : Int) < ((c : Nat) : Int)) = true ∧
      isI .i64 xs (Int.toNat (i)) = true ∧
      decide ((0 : Int) ≤ i) = true ∧
      decide ((i : Int) < ((d : Nat) : Int)) = true ∧
      isI .i64 ys (Int.toNat (i)) = true ∧
      (((getI xs (Int.toNat (i)) : Int) == getI ys (Int.toNat (i))) = true →
        Q .normal [.slice true (.rw 0) (0) (c), .slice true (.rw 1) (0) (d), .int .i64 (IntKind.wrap .i64 (i + 1)), .bool (false)] [some ⟨1, xs⟩, some ⟨1, ys⟩]) ∧
      (((getI xs (Int.toNat (i)) : Int) == getI ys (Int.toNat (i))) = false →
        Q .ret [.slice true (.rw 0) (0) (c), .slice true (.rw 1) (0) (d), .int .i64 (i), .bool (false)] [some ⟨1, xs⟩, some ⟨1, ys⟩])) ∧
    (decide ((i : Int) < ((c : Nat) : Int)) = false →
      Q (.exit 0) [.slice true (.rw 0) (0) (c), .slice true (.rw 1) (0) (d), .int .i64 (i), .bool (false)] [some ⟨1, xs⟩, some ⟨1, ys⟩])) := by kernel_rfl
/-! ### Tell -/
theorem r_tell (G : Nat → List AV) (B : Nat) (ds : List AV) (a : Int) (hs : okS (Tt ds) = true) : ACalls (⟨Try.prog, G, B⟩ : Ctx) 37 [.ptr (.rw 0) 0, .int .i64 a] [some ⟨1, ds⟩] fun v H => v = .tup [.agg (tellL (Tt ds) a), .bool (isO (Tt ds) a)] ∧ H.take 1 = [some ⟨1, ds⟩] := by
  have := dcall_ok (C := (⟨Try.prog, G, B⟩ : Ctx)) (fuel := 300) (n0 := 20) (f := 37) (fn := Try.f37) (args := [.ptr (.rw 0) (.lit 0), .int .i64 (.var 2 a)]) (H := [some ⟨1, .var 8 ds⟩]) (keep := 1)
    (R := fun v H => v = .tup [.agg (tellL (Tt ds) a), .bool (isO (Tt ds) a)] ∧ H = [some ⟨1, ds⟩]) (by rw [show loopsOf (bodyOf Try.f37) = [] by kernel_rfl]; exact dg4 G B) (by kernel_rfl) (by kernel_rfl) (by kernel_rfl) (by
    rw [t37]
    have hl := dLen hs
    have no : isO (Tt ds) a = false → (AV.tup [.agg zero7, .bool false] = AV.tup [.agg (tellL (Tt ds) a), .bool (isO (Tt ds) a)] ∧ ([some ⟨1, ds⟩] : Hp) = [some ⟨1, ds⟩]) := fun h => by simp [tellL, h]
    refine ⟨fun a0 => ⟨fun a1 => ?_, fun a1 => no (isO_no1 a1)⟩, fun a0 => no (isO_no0 a0)⟩
    have a0' := of_decide_eq_true a0
    have a1' := of_decide_eq_true a1
    have hn : a.toNat < 32 := by omega
    refine ⟨a0, a1, dB hs hn, fun ha => ?_, fun ha => no (by rw [isO_T a0 a1]; exact ha)⟩
    have oa : isO (Tt ds) a = true := by rw [isO_T a0 a1]; exact ha
    have ll : (subL ds (a.toNat * 7 + 32) 7).length = 7 := subL_len (by omega)
    have e7 : subL ds (a.toNat * 7 + 32) 7 = subL (Tt ds) (a.toNat * 7 + 33) 7 := rfl
    refine ⟨a0, a1, leB_iff.2 (by omega), ?_, by rw [ll]; rfl, leB_iff.2 (by omega), ?_⟩
    · rw [e7]; exact sub_cells hs hn
    · rw [subL_all ll, e7]
      simp only [tellL, oa, if_true]
      exact ⟨trivial, trivial⟩)
  simp only [vVs, vV, vR, vN, vI, vHp, List.map_cons, List.map_nil, Option.map_some, vBlk, vL] at this
  exact this
def rTellS : DSum := fun args H => match args with
  | [.ptr (.rw i) (.lit 0), .int .i64 a] => match H[i]? with
    | some (some ⟨1, l⟩) => some (.chk (.uf 1300 okSU [.agg (.app (.of [.bool (.lit true)]) l)]) (.one (.tup [tellV (.app (.of [.bool (.lit true)]) l) a, .bool (.uf 1301 isOU [.agg (.app (.of [.bool (.lit true)]) l), .int .i64 a])]) []))
    | _ => none
  | _ => none
theorem rTellS_ok (G : Nat → List AV) (B : Nat) : DSumOk (⟨Try.prog, G, B⟩ : Ctx) 37 rTellS := by
  intro args H o ho
  unfold rTellS at ho
  split at ho
  · rename_i i a
    split at ho
    · rename_i l hi
      simp only [Option.some.injEq] at ho
      subst ho
      intro h1
      have h1 : okS (Tt (vL G l)) = true := h1
      have key := r_tell G B (vL G l) (vI G a) h1
      refine DOut.get1 (C := (⟨Try.prog, G, B⟩ : Ctx)) hi ?_ (d_flat h1) (by simp [vVs, vV, bnds, bnd]) ?_ (by simp [vV])
      · have e := tellL_cells h1 (vI G a)
        rw [e] at key
        exact key
      · simp [tellV, tellE, vV, vVs, vL, bnd, bnds]
    · simp at ho
  · simp at ho
end Go.Am
