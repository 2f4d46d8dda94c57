/-
  Images: which may be: the trees.
-/
import Derived.Test.YthejjolnlngahaaImC
namespace Go.Am
open Go.Proofs
set_option maxRecDepth 100000
theorem DOut.ro0 {C : Ctx} {f : FuncId} {args : List EV} {H : DHp} {v : EV} (h : ACalls C f (vVs C.G args) [] fun v' H' => v' = vV C.G v ∧ H' = []) (ha : bnds 0 (vVs C.G args) = true) (hv : bnd 0 (vV C.G v) = true) : DOut C f args H v [] := by
  refine DOut.fr (C := C) (θ := []) (H0 := []) (H1 := []) (v0 := vV C.G v) (by simp) rfl (fun i b hi => by simp at hi) ha (by rw [rens_flat _ _ ha]) h (Nat.le_refl _) hv rfl (by rw [ren_flat _ _ hv]) ?_
  simp [acts, merge, lay]
def dtS : DSum := fun args _ => match args with
  | [.slice _ (.ro k) (.lit 0) n, .agg (.of [.int .i64 x, .bool b])] => some (.chk (.uf 1710 secsU [.agg (.ro k), .int .i64 (.ofN n)]) (.tst (.cmp .lss (.ofN (.uf 1707 datU [.agg (.ro k), .int .i64 (.ofN n), .int .i64 x, .bool b])) (.ofN n)) (.one (.ptr (.ro k) (.mul (.uf 1707 datU [.agg (.ro k), .int .i64 (.ofN n), .int .i64 x, .bool b]) 4)) []) (.one .nilp [])))
  | _ => none
def inS : DSum := fun args _ => match args with
  | [.agg (.of [.int .i64 _, .slice _ (.ro k) (.lit 0) n, .slice _ (.ro _) (.lit 0) _]), .agg (.of [.int .i64 x, .bool b])] => some (.chk (.uf 1710 secsU [.agg (.ro k), .int .i64 (.ofN n)]) (.one (.int .i64 (.uf 1709 inU [.agg (.ro k), .int .i64 (.ofN n), .int .i64 x, .bool b])) []))
  | _ => none
theorem dtS_ok (G : Nat → List AV) (B : Nat) : DSumOk (⟨Try.prog, G, B⟩ : Ctx) 34 dtS := by
  intro args H o ho
  unfold dtS at ho
  split at ho
  · rename_i mb k n x b
    simp only [Option.some.injEq] at ho
    subst ho
    intro hk
    have key := dt_call G B (vN G k) (vN G n) (vI G x) (vB G b) hk
    rw [← datU_eq] at key
    have wk : ∀ {K}, ACalls (⟨Try.prog, G, B⟩ : Ctx) 34 [.slice true (.ro (vN G k)) 0 (vN G n), .agg [.int .i64 (vI G x), .bool (vB G b)]] [] K → ACalls (⟨Try.prog, G, B⟩ : Ctx) 34 (vVs G [.slice mb (.ro k) (.lit 0) n, .agg (.of [.int .i64 x, .bool b])]) [] K := fun h => h.weaken fun ρ vs hv => by
      simp only [vVs, vV, vL, vR, vN, VRs] at hv ⊢
      obtain ⟨v, vs', e, q1, q2⟩ := hv
      exact ⟨v, vs', e, VR_may q1, q2⟩
    refine ⟨fun hl => ?_, fun hl => ?_⟩
    · have hl' : ((datU [.agg (G (vN G k)), .int .i64 (vN G n : Int), .int .i64 (vI G x), .bool (vB G b)] : Nat) : Int) < (vN G n : Int) := of_decide_eq_true hl
      rw [if_pos (by omega)] at key
      exact DOut.ro0 (C := (⟨Try.prog, G, B⟩ : Ctx)) (wk key) (by simp [vVs, vV, vL, vR, bnds, bnd]) (by simp [vV, vR, bnd])
    · have hl' : ¬ ((datU [.agg (G (vN G k)), .int .i64 (vN G n : Int), .int .i64 (vI G x), .bool (vB G b)] : Nat) : Int) < (vN G n : Int) := of_decide_eq_false hl
      rw [if_neg (by omega)] at key
      exact DOut.ro0 (C := (⟨Try.prog, G, B⟩ : Ctx)) (wk key) (by simp [vVs, vV, vL, vR, bnds, bnd]) (by simp [vV, bnd])
  · simp at ho
theorem inS_ok (G : Nat → List AV) (B : Nat) : DSumOk (⟨Try.prog, G, B⟩ : Ctx) 37 inS := by
  intro args H o ho
  unfold inS at ho
  split at ho
  · rename_i s mb k n mb' k' n' x b
    simp only [Option.some.injEq] at ho
    subst ho
    intro hk
    have key := in_call G B (vN G k) (vN G n) (vN G k') (vN G n') (vI G s) (vI G x) (vB G b) hk
    rw [← inU_eq] at key
    refine DOut.ro0 (C := (⟨Try.prog, G, B⟩ : Ctx)) (key.weaken fun ρ vs hv => ?_) (by simp [vVs, vV, vL, vR, bnds, bnd]) (by simp [vV, bnd])
    simp only [vVs, vV, vL, vR, vN, VRs, VR] at hv ⊢
    obtain ⟨v, vs', e, ⟨ws, e2, w1, t1, e3, q1, w2, t2, e4, q2, w3, t3, e5, q3, q4⟩, q6⟩ := hv
    exact ⟨v, vs', e, ⟨ws, e2, w1, t1, e3, q1, w2, t2, e4, (by have := VR_may (show VR ρ (.slice mb (.ro (vN G k)) 0 (vN G n)) w2 by simpa only [VR] using q2); simpa only [VR] using this), w3, t3, e5, (by have := VR_may (show VR ρ (.slice mb' (.ro (vN G k')) 0 (vN G n')) w3 by simpa only [VR] using q3); simpa only [VR] using this), q4⟩, q6⟩
  · simp at ho
def progIc : List (Nat × DSum) := (34, dtS) :: (37, inS) :: progIb
theorem progIc_ok (G : Nat → List AV) (B : Nat) : DSumsOk (⟨Try.prog, G, B⟩ : Ctx) progIc := .cons (dtS_ok G B) (.cons (inS_ok G B) (progIb_ok G B))
theorem ck_d (G : Nat → List AV) (ks n kp m : Nat) (s y : Int) (w : Bool) (i : Nat) (Q : Ex → List AV → Hp → Prop) (R : AV → Hp → Prop) : vT G Q R (dloop (Dc Try.prog [] progIc [] 1) 300 20 1 (loopN Try.f20 1) 98 [1, 2, 3, 4, 73, 74, 75] [.ptr (.rw 0) (.lit 0), .int .i64 (.lit 0), .bool (.var 9 w), .int .i64 (.var 10 y), .slice true (.ro (.var 4 kp)) (.lit 0) (.var 5 m), .int .i64 (.ofN (.var 5 m)), .int .i64 (.ofN (.var 8 i))] [some ⟨1, .of [.int .i64 (.var 1 s), .slice true (.ro (.var 2 ks)) (.lit 0) (.var 3 n), .slice true (.ro (.var 4 kp)) (.lit 0) (.var 5 m)]⟩]) = (
    (decide ((((i : Nat) : Int) : Int) < ((m : Nat) : Int)) = true →
      decide ((0 : Int) ≤ ((i : Nat) : Int)) = true ∧
      decide ((((i : Nat) : Int) : Int) < ((m : Nat) : Int)) = true ∧
      leafsOk (G (kp)) ((i) * 2) [.int .i64, .bool] = true ∧
      (decide ((getI (G (kp)) ((i) * 2) : Int) < y) = true →
        Q .ret [.ptr (.rw 0) (0), .int .i64 (2), .bool (w), .int .i64 (y), .slice true (.ro (kp)) (0) (m), .int .i64 (((m : Nat) : Int)), .int .i64 (((i : Nat) : Int))] [some ⟨1, ([.int .i64 (s), .slice true (.ro (ks)) (0) (n), .slice true (.ro (kp)) (0) (m)] : List AV)⟩, some ⟨1, ([.int .i64 (getI (G (kp)) ((i) * 2)), .bool (getB (G (kp)) ((i) * 2 + 1))] : List AV)⟩]) ∧
      (decide ((getI (G (kp)) ((i) * 2) : Int) < y) = false →
        secsU [.agg (G (ks)), .int .i64 (((n : Nat) : Int))] = true ∧
        (decide ((((datU [.agg (G (ks)), .int .i64 (((n : Nat) : Int)), .int .i64 (getI (G (kp)) ((i) * 2)), .bool (getB (G (kp)) ((i) * 2 + 1))] : Nat) : Int) : Int) < ((n : Nat) : Int)) = true →
          Q .normal [.ptr (.rw 0) (0), .int .i64 (0), .bool (w), .int .i64 (IntKind.wrap .i64 (getI (G (kp)) ((i) * 2) + wdU [.bool (getB (G (kp)) ((i) * 2 + 1))])), .slice true (.ro (kp)) (0) (m), .int .i64 (((m : Nat) : Int)), .int .i64 (IntKind.wrap .i64 (((i : Nat) : Int) + 1))] [some ⟨1, ([.int .i64 (s), .slice true (.ro (ks)) (0) (n), .slice true (.ro (kp)) (0) (m)] : List AV)⟩, some ⟨1, ([.int .i64 (getI (G (kp)) ((i) * 2)), .bool (getB (G (kp)) ((i) * 2 + 1))] : List AV)⟩]) ∧
        (decide ((((datU [.agg (G (ks)), .int .i64 (((n : Nat) : Int)), .int .i64 (getI (G (kp)) ((i) * 2)), .bool (getB (G (kp)) ((i) * 2 + 1))] : Nat) : Int) : Int) < ((n : Nat) : Int)) = false →
          Q .ret [.ptr (.rw 0) (0), .int .i64 (2), .bool (w), .int .i64 (y), .slice true (.ro (kp)) (0) (m), .int .i64 (((m : Nat) : Int)), .int .i64 (((i : Nat) : Int))] [some ⟨1, ([.int .i64 (s), .slice true (.ro (ks)) (0) (n), .slice true (.ro (kp)) (0) (m)] : List AV)⟩, some ⟨1, ([.int .i64 (getI (G (kp)) ((i) * 2)), .bool (getB (G (kp)) ((i) * 2 + 1))] : List AV)⟩]))) ∧
    (decide ((((i : Nat) : Int) : Int) < ((m : Nat) : Int)) = false →
      Q (.exit 2) [.ptr (.rw 0) (0), .int .i64 (0), .bool (w), .int .i64 (y), .slice true (.ro (kp)) (0) (m), .int .i64 (((m : Nat) : Int)), .int .i64 (((i : Nat) : Int))] [some ⟨1, ([.int .i64 (s), .slice true (.ro (ks)) (0) (n), .slice true (.ro (kp)) (0) (m)] : List AV)⟩])) := by kernel_rfl
theorem ma_d (G : Nat → List AV) (ks n kp m : Nat) (s : Int) (w : Bool) (i : Nat) (Q : Ex → List AV → Hp → Prop) (R : AV → Hp → Prop) : vT G Q R (dloop (Dc Try.prog [] progIc [] 1) 300 20 1 (loopN Try.f21 1) 130 [1, 2, 3, 6] [.ptr (.rw 0) (.lit 0), .bool (.lit false), .bool (.var 9 w), .int .i64 (.ofN (.var 8 i))] [some ⟨1, .of [.int .i64 (.var 1 s), .slice true (.ro (.var 2 ks)) (.lit 0) (.var 3 n), .slice true (.ro (.var 4 kp)) (.lit 0) (.var 5 m)]⟩]) = (
    (decide ((((i : Nat) : Int) : Int) < ((m : Nat) : Int)) = true →
      decide ((0 : Int) ≤ ((i : Nat) : Int)) = true ∧
      decide ((((i : Nat) : Int) : Int) < ((m : Nat) : Int)) = true ∧
      leafsOk (G (kp)) ((i) * 2) [.int .i64, .bool] = true ∧
      (decide ((getI (G (kp)) ((i) * 2) : Int) < 0) = true →
        Q .ret [.ptr (.rw 0) (0), .bool (false), .bool (w), .int .i64 (((i : Nat) : Int))] [some ⟨1, ([.int .i64 (s), .slice true (.ro (ks)) (0) (n), .slice true (.ro (kp)) (0) (m)] : List AV)⟩, some ⟨1, ([.int .i64 (getI (G (kp)) ((i) * 2)), .bool (getB (G (kp)) ((i) * 2 + 1))] : List AV)⟩]) ∧
      (decide ((getI (G (kp)) ((i) * 2) : Int) < 0) = false →
        secsU [.agg (G (ks)), .int .i64 (((n : Nat) : Int))] = true ∧
        (decide ((inU [.agg (G (ks)), .int .i64 (((n : Nat) : Int)), .int .i64 (getI (G (kp)) ((i) * 2)), .bool (getB (G (kp)) ((i) * 2 + 1))] : Int) < 0) = true →
          Q .ret [.ptr (.rw 0) (0), .bool (false), .bool (w), .int .i64 (((i : Nat) : Int))] [some ⟨1, ([.int .i64 (s), .slice true (.ro (ks)) (0) (n), .slice true (.ro (kp)) (0) (m)] : List AV)⟩, some ⟨1, ([.int .i64 (getI (G (kp)) ((i) * 2)), .bool (getB (G (kp)) ((i) * 2 + 1))] : List AV)⟩]) ∧
        (decide ((inU [.agg (G (ks)), .int .i64 (((n : Nat) : Int)), .int .i64 (getI (G (kp)) ((i) * 2)), .bool (getB (G (kp)) ((i) * 2 + 1))] : Int) < 0) = false →
          (decide ((((i : Nat) : Int) : Int) > 0) = true →
            decide ((0 : Int) ≤ IntKind.wrap .i64 (((i : Nat) : Int) - 1)) = true ∧
            decide ((IntKind.wrap .i64 (((i : Nat) : Int) - 1) : Int) < ((m : Nat) : Int)) = true ∧
            isI .i64 (G (kp)) ((Int.toNat (IntKind.wrap .i64 (((i : Nat) : Int) - 1))) * 2) = true ∧
            decide ((0 : Int) ≤ IntKind.wrap .i64 (((i : Nat) : Int) - 1)) = true ∧
            decide ((IntKind.wrap .i64 (((i : Nat) : Int) - 1) : Int) < ((m : Nat) : Int)) = true ∧
            leafsOk (G (kp)) ((Int.toNat (IntKind.wrap .i64 (((i : Nat) : Int) - 1))) * 2) [.int .i64, .bool] = true ∧
            (decide ((IntKind.wrap .i64 (getI (G (kp)) ((Int.toNat (IntKind.wrap .i64 (((i : Nat) : Int) - 1))) * 2) + wdU [.bool (getB (G (kp)) ((Int.toNat (IntKind.wrap .i64 (((i : Nat) : Int) - 1))) * 2 + 1))]) : Int) > getI (G (kp)) ((i) * 2)) = true →
              Q .ret [.ptr (.rw 0) (0), .bool (false), .bool (w), .int .i64 (((i : Nat) : Int))] [some ⟨1, ([.int .i64 (s), .slice true (.ro (ks)) (0) (n), .slice true (.ro (kp)) (0) (m)] : List AV)⟩, some ⟨1, ([.int .i64 (getI (G (kp)) ((i) * 2)), .bool (getB (G (kp)) ((i) * 2 + 1))] : List AV)⟩]) ∧
            (decide ((IntKind.wrap .i64 (getI (G (kp)) ((Int.toNat (IntKind.wrap .i64 (((i : Nat) : Int) - 1))) * 2) + wdU [.bool (getB (G (kp)) ((Int.toNat (IntKind.wrap .i64 (((i : Nat) : Int) - 1))) * 2 + 1))]) : Int) > getI (G (kp)) ((i) * 2)) = false →
              Q .normal [.ptr (.rw 0) (0), .bool (false), .bool (w), .int .i64 (IntKind.wrap .i64 (((i : Nat) : Int) + 1))] [some ⟨1, ([.int .i64 (s), .slice true (.ro (ks)) (0) (n), .slice true (.ro (kp)) (0) (m)] : List AV)⟩, some ⟨1, ([.int .i64 (getI (G (kp)) ((i) * 2)), .bool (getB (G (kp)) ((i) * 2 + 1))] : List AV)⟩])) ∧
          (decide ((((i : Nat) : Int) : Int) > 0) = false →
            Q .normal [.ptr (.rw 0) (0), .bool (false), .bool (w), .int .i64 (IntKind.wrap .i64 (((i : Nat) : Int) + 1))] [some ⟨1, ([.int .i64 (s), .slice true (.ro (ks)) (0) (n), .slice true (.ro (kp)) (0) (m)] : List AV)⟩, some ⟨1, ([.int .i64 (getI (G (kp)) ((i) * 2)), .bool (getB (G (kp)) ((i) * 2 + 1))] : List AV)⟩])))) ∧
    (decide ((((i : Nat) : Int) : Int) < ((m : Nat) : Int)) = false →
      Q (.exit 2) [.ptr (.rw 0) (0), .bool (false), .bool (w), .int .i64 (((i : Nat) : Int))] [some ⟨1, ([.int .i64 (s), .slice true (.ro (ks)) (0) (n), .slice true (.ro (kp)) (0) (m)] : List AV)⟩])) := by kernel_rfl
end Go.Am
