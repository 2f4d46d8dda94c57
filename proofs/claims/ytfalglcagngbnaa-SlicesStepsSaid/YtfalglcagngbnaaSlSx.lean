/-
  SlicesSteps: 'stands' told; the loop's body.
-/
import Derived.Test.YtfalglcagngbnaaSlSw
namespace Go.Am
open Go.Proofs
set_option maxRecDepth 100000
theorem sam_tl {cs : List AV} (hs : okS cs = true) : samCs (tlU [.agg cs]) (tl cs) = true := by
  have h := lnk_ok hs
  simp only [lnkU, Bool.and_eq_true] at h
  exact h.2
theorem lnk0_ok {cs : List AV} (hD : okD cs 1000000) : lnk0U [.agg cs, .agg (tlU [.agg cs])] = true := by
  show (okDU [.agg cs] && samCs (tlU [.agg cs]) (tl cs)) = true
  rw [okDU_iff.2 hD, sam_tl (okT_iff.1 hD.1.1).1]; rfl
theorem p_stands (G : Nat → List AV) (B : Nat) (cs : List AV) (hD : okD cs 1000000) (lw : Int) : ACalls (⟨Try.prog, G, B⟩ : Ctx) 23 [.ptr (.rw 0) 0, .ptr (.rw 1) 0, .int .i64 lw] [some ⟨1, cs⟩, some ⟨1, tlU [.agg cs]⟩] fun v H => v = .bool true ∧ H.take 2 = [some ⟨1, cs⟩, some ⟨1, tlU [.agg cs]⟩] := by
  have hs := (okT_iff.1 hD.1.1).1
  have this := dcall_ok (C := (⟨Try.prog, G, B⟩ : Ctx)) (fuel := 900) (n0 := 20) (f := 23) (fn := Try.f23) (args := [.ptr (.rw 0) (.lit 0), .ptr (.rw 1) (.lit 0), .int .i64 (.var 18 lw)]) (H := [some ⟨1, .var 8 cs⟩, some ⟨1, .uf 1501 tlU [.agg (.var 8 cs)]⟩]) (keep := 2)
    (R := fun v H => v = .bool true ∧ H = [some ⟨1, cs⟩, some ⟨1, tlU [.agg cs]⟩]) (dg23 G B) (by kernel_rfl) (by kernel_rfl) (by kernel_rfl) (by
    have key := t23 G cs lw (fun _ _ _ => False) (fun v H => v = .bool true ∧ H = [some ⟨1, cs⟩, some ⟨1, tlU [.agg cs]⟩])
    refine Eq.mpr key ?_
    have eT : ([AV.bool true] : List AV) ++ tlU [.agg cs] = cs := T_tl hs
    have et : tickU [.agg cs] = getI (tlU [.agg cs]) 256 := by
      show tk cs = getI (tlU [.agg cs]) 256
      have e : tk cs = tk ([AV.bool true] ++ tlU [.agg cs]) := by rw [eT]
      rw [e]; rfl
    have ei : isI .i64 (tlU [.agg cs]) 256 = true := by
      have h := okS_tick hs
      have e : isI .i64 cs 257 = isI .i64 ([AV.bool true] ++ tlU [.agg cs]) 257 := by rw [eT]
      rw [e] at h; exact h
    have hl := lnk_ok hs
    have h0 := lnk0_ok hD
    have hD' := okDU_iff.2 hD
    have hs' : okSU [.agg cs] = true := hs
    have hl' : lnkU [.agg cs, .agg (tlU [.agg cs]), .agg (allU [.agg cs]), .int .i64 ((cntU [.agg cs] : Nat) : Int)] = true := hl
    rw [eT, ← et]
    generalize lnkU [.agg cs, .agg (tlU [.agg cs]), .agg (allU [.agg cs]), .int .i64 ((cntU [.agg cs] : Nat) : Int)] = x1 at *
    generalize lnk0U [.agg cs, .agg (tlU [.agg cs])] = x2 at *
    generalize wO32 [.agg cs] = x3 at *
    generalize wS32 [.agg cs] = x4 at *
    generalize wT32 [.agg cs] = x5 at *
    generalize tickU [.agg cs] = x6 at *
    simp only [beq_self_eq_true, h0, hl', hs', hD', ei]
    cases x3 <;> simp)
  simp only [vVs, vV, vR, vN, vI, vHp, List.map_cons, List.map_nil, Option.map_some, vBlk, vL] at this
  exact this
def standsS : DSum := fun args H => match args with
  | [.ptr (.rw i) (.lit 0), .ptr (.rw j) (.lit 0), .int .i64 lw] => match Nat.beq i j with
    | true => none
    | false => match H[i]?, H[j]? with
      | some (some ⟨1, l⟩), some (some ⟨1, l2⟩) => some (.chk (.uf 1537 lnk0U [.agg l, .agg l2]) (.one (.bool (.lit true)) []))
      | _, _ => none
  | _ => none
theorem standsS_ok (G : Nat → List AV) (B : Nat) : DSumOk (⟨Try.prog, G, B⟩ : Ctx) 23 standsS := by
  intro args H o ho
  unfold standsS at ho
  split at ho
  · rename_i i j lw
    split at ho
    · simp at ho
    · rename_i hij
      have hne : i ≠ j := fun h => by rw [h] at hij; simp at hij
      split at ho
      · rename_i l l2 hi hj
        simp only [Option.some.injEq] at ho
        subst ho
        intro h1
        obtain ⟨g1, g2⟩ := lnk0_iff (cs := vL G l) (l1 := vL G l2) h1
        have hs := (okT_iff.1 g1.1.1).1
        have key := p_stands G B (vL G l) g1 (vI G lw)
        rw [← g2] at key
        exact DOut.get2 (C := (⟨Try.prog, G, B⟩ : Ctx)) (args0 := [.ptr (.rw 0) 0, .ptr (.rw 1) 0, .int .i64 (vI G lw)]) hne hi hj key (okS_flat hs 0) (by rw [g2]; exact (show bnds 0 (tlU [.agg (vL G l)]) = true from tl_flat hs)) (by simp [bnds, bnd]) (by simp [vVs, vV, vR, vN, vI, rens, ren]) (by simp [vV, bnd]) (by simp [vV])
      · simp at ho
  · simp at ho
def progW : List (Nat × DSum) := (23, standsS) :: progQ
theorem progW_ok (G : Nat → List AV) (B : Nat) : DSumsOk (⟨Try.prog, G, B⟩ : Ctx) progW := .cons (standsS_ok G B) (progQ_ok G B)
theorem dgT (G : Nat → List AV) (B : Nat) : DGood (⟨Try.prog, G, B⟩ : Ctx) (Dc Try.prog [9, 19, 16, 20] progW [] 0) [] := dgood (mix G B) (by kernel_rfl) (progW_ok G B) .nil
theorem sp_b0 (G : Nat → List AV) (cs : List AV) (k n : Nat) (lw i : Int) (Q : Ex → List AV → Hp → Prop) (R : AV → Hp → Prop) : vT G Q R (dloop (Dc Try.prog [9, 19, 16, 20] progW [] 0) 800 20 0 (loopN Try.f7 0) 51 [0, 1, 4, 5, 6, 7] [.slice true (.ro (.var 1 k)) (.lit 0) (.var 2 n), .int .i64 (.var 18 lw), .bool (.lit false), .ptr (.rw 0) (.lit 0), .ptr (.rw 1) (.lit 0), .int .i64 (.var 6 i)] [some ⟨1, .var 8 cs⟩, some ⟨1, .uf 1501 tlU [.agg (.var 8 cs)]⟩]) = (
    (decide ((i : Int) < ((n : Nat) : Int)) = true →
      (decide ((i : Int) < 300) = true →
        decide ((0 : Int) ≤ i) = true ∧
        decide ((i : Int) < ((n : Nat) : Int)) = true ∧
        leafsOk (G (k)) ((Int.toNat (i)) * 3) [.int .i64, .int .i64, .int .i64] = true ∧
        (((getI (G (k)) ((Int.toNat (i)) * 3) : Int) == 1) = true →
          okSU [.agg cs] = true ∧
          okCU [.agg (([.bool (true)] : List AV) ++ (tlU [.agg cs]))] = true ∧
          (((openNU [.agg cs, .int .i64 (getI (G (k)) ((Int.toNat (i)) * 3 + 1))] : Int) == openNU [.agg (([.bool (true)] : List AV) ++ (tlU [.agg cs])), .int .i64 (getI (G (k)) ((Int.toNat (i)) * 3 + 1))]) = true →
            (((openEU [.agg cs, .int .i64 (getI (G (k)) ((Int.toNat (i)) * 3 + 1))] : Int) == openEU [.agg (([.bool (true)] : List AV) ++ (tlU [.agg cs])), .int .i64 (getI (G (k)) ((Int.toNat (i)) * 3 + 1))]) = true →
              lnk0U [.agg (openRU [.agg cs, .int .i64 (getI (G (k)) ((Int.toNat (i)) * 3 + 1))]), .agg (tlU [.agg (openRU [.agg (([.bool (true)] : List AV) ++ (tlU [.agg cs])), .int .i64 (getI (G (k)) ((Int.toNat (i)) * 3 + 1))])])] = true ∧
              Q .normal [.slice true (.ro (k)) (0) (n), .int .i64 (lw), .bool (false), .ptr (.rw 0) (0), .ptr (.rw 1) (0), .int .i64 (IntKind.wrap .i64 (i + 1))] [some ⟨1, (openRU [.agg cs, .int .i64 (getI (G (k)) ((Int.toNat (i)) * 3 + 1))])⟩, some ⟨1, (tlU [.agg (openRU [.agg (([.bool (true)] : List AV) ++ (tlU [.agg cs])), .int .i64 (getI (G (k)) ((Int.toNat (i)) * 3 + 1))])])⟩, some ⟨1, ([.int .i64 (getI (G (k)) ((Int.toNat (i)) * 3)), .int .i64 (getI (G (k)) ((Int.toNat (i)) * 3 + 1)), .int .i64 (getI (G (k)) ((Int.toNat (i)) * 3 + 2))] : List AV)⟩]) ∧
            (((openEU [.agg cs, .int .i64 (getI (G (k)) ((Int.toNat (i)) * 3 + 1))] : Int) == openEU [.agg (([.bool (true)] : List AV) ++ (tlU [.agg cs])), .int .i64 (getI (G (k)) ((Int.toNat (i)) * 3 + 1))]) = false →
              Q .ret [.slice true (.ro (k)) (0) (n), .int .i64 (lw), .bool (false), .ptr (.rw 0) (0), .ptr (.rw 1) (0), .int .i64 (i)] [some ⟨1, (openRU [.agg cs, .int .i64 (getI (G (k)) ((Int.toNat (i)) * 3 + 1))])⟩, some ⟨1, (tlU [.agg (openRU [.agg (([.bool (true)] : List AV) ++ (tlU [.agg cs])), .int .i64 (getI (G (k)) ((Int.toNat (i)) * 3 + 1))])])⟩, some ⟨1, ([.int .i64 (getI (G (k)) ((Int.toNat (i)) * 3)), .int .i64 (getI (G (k)) ((Int.toNat (i)) * 3 + 1)), .int .i64 (getI (G (k)) ((Int.toNat (i)) * 3 + 2))] : List AV)⟩])) ∧
          (((openNU [.agg cs, .int .i64 (getI (G (k)) ((Int.toNat (i)) * 3 + 1))] : Int) == openNU [.agg (([.bool (true)] : List AV) ++ (tlU [.agg cs])), .int .i64 (getI (G (k)) ((Int.toNat (i)) * 3 + 1))]) = false →
            Q .ret [.slice true (.ro (k)) (0) (n), .int .i64 (lw), .bool (false), .ptr (.rw 0) (0), .ptr (.rw 1) (0), .int .i64 (i)] [some ⟨1, (openRU [.agg cs, .int .i64 (getI (G (k)) ((Int.toNat (i)) * 3 + 1))])⟩, some ⟨1, (tlU [.agg (openRU [.agg (([.bool (true)] : List AV) ++ (tlU [.agg cs])), .int .i64 (getI (G (k)) ((Int.toNat (i)) * 3 + 1))])])⟩, some ⟨1, ([.int .i64 (getI (G (k)) ((Int.toNat (i)) * 3)), .int .i64 (getI (G (k)) ((Int.toNat (i)) * 3 + 1)), .int .i64 (getI (G (k)) ((Int.toNat (i)) * 3 + 2))] : List AV)⟩])) ∧
        (((getI (G (k)) ((Int.toNat (i)) * 3) : Int) == 1) = false →
          (((getI (G (k)) ((Int.toNat (i)) * 3) : Int) == 2) = true →
            okCU [.agg cs] = true ∧
            okCU [.agg (([.bool (true)] : List AV) ++ (tlU [.agg cs]))] = true ∧
            (((closeEU [.agg cs, .int .i64 (getI (G (k)) ((Int.toNat (i)) * 3 + 1))] : Int) == closeEU [.agg (([.bool (true)] : List AV) ++ (tlU [.agg cs])), .int .i64 (getI (G (k)) ((Int.toNat (i)) * 3 + 1))]) = true →
              lnk0U [.agg (closeRU [.agg cs, .int .i64 (getI (G (k)) ((Int.toNat (i)) * 3 + 1))]), .agg (tlU [.agg (closeRU [.agg (([.bool (true)] : List AV) ++ (tlU [.agg cs])), .int .i64 (getI (G (k)) ((Int.toNat (i)) * 3 + 1))])])] = true ∧
              Q .normal [.slice true (.ro (k)) (0) (n), .int .i64 (lw), .bool (false), .ptr (.rw 0) (0), .ptr (.rw 1) (0), .int .i64 (IntKind.wrap .i64 (i + 1))] [some ⟨1, (closeRU [.agg cs, .int .i64 (getI (G (k)) ((Int.toNat (i)) * 3 + 1))])⟩, some ⟨1, (tlU [.agg (closeRU [.agg (([.bool (true)] : List AV) ++ (tlU [.agg cs])), .int .i64 (getI (G (k)) ((Int.toNat (i)) * 3 + 1))])])⟩, some ⟨1, ([.int .i64 (getI (G (k)) ((Int.toNat (i)) * 3)), .int .i64 (getI (G (k)) ((Int.toNat (i)) * 3 + 1)), .int .i64 (getI (G (k)) ((Int.toNat (i)) * 3 + 2))] : List AV)⟩]) ∧
            (((closeEU [.agg cs, .int .i64 (getI (G (k)) ((Int.toNat (i)) * 3 + 1))] : Int) == closeEU [.agg (([.bool (true)] : List AV) ++ (tlU [.agg cs])), .int .i64 (getI (G (k)) ((Int.toNat (i)) * 3 + 1))]) = false →
              Q .ret [.slice true (.ro (k)) (0) (n), .int .i64 (lw), .bool (false), .ptr (.rw 0) (0), .ptr (.rw 1) (0), .int .i64 (i)] [some ⟨1, (closeRU [.agg cs, .int .i64 (getI (G (k)) ((Int.toNat (i)) * 3 + 1))])⟩, some ⟨1, (tlU [.agg (closeRU [.agg (([.bool (true)] : List AV) ++ (tlU [.agg cs])), .int .i64 (getI (G (k)) ((Int.toNat (i)) * 3 + 1))])])⟩, some ⟨1, ([.int .i64 (getI (G (k)) ((Int.toNat (i)) * 3)), .int .i64 (getI (G (k)) ((Int.toNat (i)) * 3 + 1)), .int .i64 (getI (G (k)) ((Int.toNat (i)) * 3 + 2))] : List AV)⟩])) ∧
          (((getI (G (k)) ((Int.toNat (i)) * 3) : Int) == 2) = false →
            (((getI (G (k)) ((Int.toNat (i)) * 3) : Int) == 3) = true →
              okSU [.agg cs] = true ∧
              okCU [.agg (([.bool (true)] : List AV) ++ (tlU [.agg cs]))] = true ∧
              (((giveEU [.agg cs, .int .i64 (getI (G (k)) ((Int.toNat (i)) * 3 + 1)), .int .i64 (getI (G (k)) ((Int.toNat (i)) * 3 + 2))] : Int) == giveEU [.agg (([.bool (true)] : List AV) ++ (tlU [.agg cs])), .int .i64 (getI (G (k)) ((Int.toNat (i)) * 3 + 1)), .int .i64 (getI (G (k)) ((Int.toNat (i)) * 3 + 2))]) = true →
                lnk0U [.agg (giveRU [.agg cs, .int .i64 (getI (G (k)) ((Int.toNat (i)) * 3 + 1)), .int .i64 (getI (G (k)) ((Int.toNat (i)) * 3 + 2))]), .agg (tlU [.agg (giveRU [.agg (([.bool (true)] : List AV) ++ (tlU [.agg cs])), .int .i64 (getI (G (k)) ((Int.toNat (i)) * 3 + 1)), .int .i64 (getI (G (k)) ((Int.toNat (i)) * 3 + 2))])])] = true ∧
                Q .normal [.slice true (.ro (k)) (0) (n), .int .i64 (lw), .bool (false), .ptr (.rw 0) (0), .ptr (.rw 1) (0), .int .i64 (IntKind.wrap .i64 (i + 1))] [some ⟨1, (giveRU [.agg cs, .int .i64 (getI (G (k)) ((Int.toNat (i)) * 3 + 1)), .int .i64 (getI (G (k)) ((Int.toNat (i)) * 3 + 2))])⟩, some ⟨1, (tlU [.agg (giveRU [.agg (([.bool (true)] : List AV) ++ (tlU [.agg cs])), .int .i64 (getI (G (k)) ((Int.toNat (i)) * 3 + 1)), .int .i64 (getI (G (k)) ((Int.toNat (i)) * 3 + 2))])])⟩, some ⟨1, ([.int .i64 (getI (G (k)) ((Int.toNat (i)) * 3)), .int .i64 (getI (G (k)) ((Int.toNat (i)) * 3 + 1)), .int .i64 (getI (G (k)) ((Int.toNat (i)) * 3 + 2))] : List AV)⟩]) ∧
              (((giveEU [.agg cs, .int .i64 (getI (G (k)) ((Int.toNat (i)) * 3 + 1)), .int .i64 (getI (G (k)) ((Int.toNat (i)) * 3 + 2))] : Int) == giveEU [.agg (([.bool (true)] : List AV) ++ (tlU [.agg cs])), .int .i64 (getI (G (k)) ((Int.toNat (i)) * 3 + 1)), .int .i64 (getI (G (k)) ((Int.toNat (i)) * 3 + 2))]) = false →
                Q .ret [.slice true (.ro (k)) (0) (n), .int .i64 (lw), .bool (false), .ptr (.rw 0) (0), .ptr (.rw 1) (0), .int .i64 (i)] [some ⟨1, (giveRU [.agg cs, .int .i64 (getI (G (k)) ((Int.toNat (i)) * 3 + 1)), .int .i64 (getI (G (k)) ((Int.toNat (i)) * 3 + 2))])⟩, some ⟨1, (tlU [.agg (giveRU [.agg (([.bool (true)] : List AV) ++ (tlU [.agg cs])), .int .i64 (getI (G (k)) ((Int.toNat (i)) * 3 + 1)), .int .i64 (getI (G (k)) ((Int.toNat (i)) * 3 + 2))])])⟩, some ⟨1, ([.int .i64 (getI (G (k)) ((Int.toNat (i)) * 3)), .int .i64 (getI (G (k)) ((Int.toNat (i)) * 3 + 1)), .int .i64 (getI (G (k)) ((Int.toNat (i)) * 3 + 2))] : List AV)⟩])) ∧
            (((getI (G (k)) ((Int.toNat (i)) * 3) : Int) == 3) = false →
              (((getI (G (k)) ((Int.toNat (i)) * 3) : Int) == 4) = true →
                okTU [.agg cs] = true ∧
                okCU [.agg (([.bool (true)] : List AV) ++ (tlU [.agg cs]))] = true ∧
                (((pickNU [.agg cs, .int .i64 (getI (G (k)) ((Int.toNat (i)) * 3 + 1))] : Int) == pickNU [.agg (([.bool (true)] : List AV) ++ (tlU [.agg cs])), .int .i64 (getI (G (k)) ((Int.toNat (i)) * 3 + 1))]) = true →
                  (((pickEU [.agg cs, .int .i64 (getI (G (k)) ((Int.toNat (i)) * 3 + 1))] : Int) == pickEU [.agg (([.bool (true)] : List AV) ++ (tlU [.agg cs])), .int .i64 (getI (G (k)) ((Int.toNat (i)) * 3 + 1))]) = true →
                    lnk0U [.agg (pickRU [.agg cs, .int .i64 (getI (G (k)) ((Int.toNat (i)) * 3 + 1))]), .agg (tlU [.agg (pickRU [.agg (([.bool (true)] : List AV) ++ (tlU [.agg cs])), .int .i64 (getI (G (k)) ((Int.toNat (i)) * 3 + 1))])])] = true ∧
                    Q .normal [.slice true (.ro (k)) (0) (n), .int .i64 (lw), .bool (false), .ptr (.rw 0) (0), .ptr (.rw 1) (0), .int .i64 (IntKind.wrap .i64 (i + 1))] [some ⟨1, (pickRU [.agg cs, .int .i64 (getI (G (k)) ((Int.toNat (i)) * 3 + 1))])⟩, some ⟨1, (tlU [.agg (pickRU [.agg (([.bool (true)] : List AV) ++ (tlU [.agg cs])), .int .i64 (getI (G (k)) ((Int.toNat (i)) * 3 + 1))])])⟩, some ⟨1, ([.int .i64 (getI (G (k)) ((Int.toNat (i)) * 3)), .int .i64 (getI (G (k)) ((Int.toNat (i)) * 3 + 1)), .int .i64 (getI (G (k)) ((Int.toNat (i)) * 3 + 2))] : List AV)⟩]) ∧
                  (((pickEU [.agg cs, .int .i64 (getI (G (k)) ((Int.toNat (i)) * 3 + 1))] : Int) == pickEU [.agg (([.bool (true)] : List AV) ++ (tlU [.agg cs])), .int .i64 (getI (G (k)) ((Int.toNat (i)) * 3 + 1))]) = false →
                    Q .ret [.slice true (.ro (k)) (0) (n), .int .i64 (lw), .bool (false), .ptr (.rw 0) (0), .ptr (.rw 1) (0), .int .i64 (i)] [some ⟨1, (pickRU [.agg cs, .int .i64 (getI (G (k)) ((Int.toNat (i)) * 3 + 1))])⟩, some ⟨1, (tlU [.agg (pickRU [.agg (([.bool (true)] : List AV) ++ (tlU [.agg cs])), .int .i64 (getI (G (k)) ((Int.toNat (i)) * 3 + 1))])])⟩, some ⟨1, ([.int .i64 (getI (G (k)) ((Int.toNat (i)) * 3)), .int .i64 (getI (G (k)) ((Int.toNat (i)) * 3 + 1)), .int .i64 (getI (G (k)) ((Int.toNat (i)) * 3 + 2))] : List AV)⟩])) ∧
                (((pickNU [.agg cs, .int .i64 (getI (G (k)) ((Int.toNat (i)) * 3 + 1))] : Int) == pickNU [.agg (([.bool (true)] : List AV) ++ (tlU [.agg cs])), .int .i64 (getI (G (k)) ((Int.toNat (i)) * 3 + 1))]) = false →
                  Q .ret [.slice true (.ro (k)) (0) (n), .int .i64 (lw), .bool (false), .ptr (.rw 0) (0), .ptr (.rw 1) (0), .int .i64 (i)] [some ⟨1, (pickRU [.agg cs, .int .i64 (getI (G (k)) ((Int.toNat (i)) * 3 + 1))])⟩, some ⟨1, (tlU [.agg (pickRU [.agg (([.bool (true)] : List AV) ++ (tlU [.agg cs])), .int .i64 (getI (G (k)) ((Int.toNat (i)) * 3 + 1))])])⟩, some ⟨1, ([.int .i64 (getI (G (k)) ((Int.toNat (i)) * 3)), .int .i64 (getI (G (k)) ((Int.toNat (i)) * 3 + 1)), .int .i64 (getI (G (k)) ((Int.toNat (i)) * 3 + 2))] : List AV)⟩])) ∧
              (((getI (G (k)) ((Int.toNat (i)) * 3) : Int) == 4) = false →
                (((getI (G (k)) ((Int.toNat (i)) * 3) : Int) == 5) = true →
                  okSU [.agg cs] = true ∧
                  okSU [.agg cs] = true ∧
                  okSU [.agg cs] = true ∧
                  okSU [.agg cs] = true ∧
                  okTU [.agg (openRU [.agg cs, .int .i64 (7)])] = true ∧
                  (sameU [.agg cs, .agg cs] = true →
                    lnk0U [.agg cs, .agg (tlU [.agg cs])] = true ∧
                    Q .normal [.slice true (.ro (k)) (0) (n), .int .i64 (lw), .bool (false), .ptr (.rw 3) (0), .ptr (.rw 1) (0), .int .i64 (IntKind.wrap .i64 (i + 1))] [some ⟨1, (pickRU [.agg (openRU [.agg cs, .int .i64 (7)]), .int .i64 (0)])⟩, some ⟨1, (tlU [.agg cs])⟩, some ⟨1, ([.int .i64 (getI (G (k)) ((Int.toNat (i)) * 3)), .int .i64 (getI (G (k)) ((Int.toNat (i)) * 3 + 1)), .int .i64 (getI (G (k)) ((Int.toNat (i)) * 3 + 2))] : List AV)⟩, some ⟨1, cs⟩]) ∧
                  (sameU [.agg cs, .agg cs] = false →
                    Q .ret [.slice true (.ro (k)) (0) (n), .int .i64 (lw), .bool (false), .ptr (.rw 3) (0), .ptr (.rw 1) (0), .int .i64 (i)] [some ⟨1, (pickRU [.agg (openRU [.agg cs, .int .i64 (7)]), .int .i64 (0)])⟩, some ⟨1, (tlU [.agg cs])⟩, some ⟨1, ([.int .i64 (getI (G (k)) ((Int.toNat (i)) * 3)), .int .i64 (getI (G (k)) ((Int.toNat (i)) * 3 + 1)), .int .i64 (getI (G (k)) ((Int.toNat (i)) * 3 + 2))] : List AV)⟩, some ⟨1, cs⟩])) ∧
                (((getI (G (k)) ((Int.toNat (i)) * 3) : Int) == 5) = false →
                  lnk0U [.agg cs, .agg (tlU [.agg cs])] = true ∧
                  Q .normal [.slice true (.ro (k)) (0) (n), .int .i64 (lw), .bool (false), .ptr (.rw 0) (0), .ptr (.rw 1) (0), .int .i64 (IntKind.wrap .i64 (i + 1))] [some ⟨1, cs⟩, some ⟨1, (tlU [.agg cs])⟩, some ⟨1, ([.int .i64 (getI (G (k)) ((Int.toNat (i)) * 3)), .int .i64 (getI (G (k)) ((Int.toNat (i)) * 3 + 1)), .int .i64 (getI (G (k)) ((Int.toNat (i)) * 3 + 2))] : List AV)⟩])))))) ∧
      (decide ((i : Int) < 300) = false →
        Q (.exit 0) [.slice true (.ro (k)) (0) (n), .int .i64 (lw), .bool (false), .ptr (.rw 0) (0), .ptr (.rw 1) (0), .int .i64 (i)] [some ⟨1, cs⟩, some ⟨1, (tlU [.agg cs])⟩])) ∧
    (decide ((i : Int) < ((n : Nat) : Int)) = false →
      Q (.exit 0) [.slice true (.ro (k)) (0) (n), .int .i64 (lw), .bool (false), .ptr (.rw 0) (0), .ptr (.rw 1) (0), .int .i64 (i)] [some ⟨1, cs⟩, some ⟨1, (tlU [.agg cs])⟩])) := by kernel_rfl
end Go.Am
