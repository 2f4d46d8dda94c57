/-
  Images: which are the same: the summaries.
-/
import Derived.Test.YthejjolnlngahaaImL
namespace Go.Am
open Go.Proofs
set_option maxRecDepth 100000
def plsS : DSum := fun args _ => match args with
  | [.slice _ (.ro k) (.lit 0) n, .slice _ (.ro k2) (.lit 0) nv] => some (.chk (.uf 1728 plsFOk [.agg (.ro k), .int .i64 (.ofN n), .agg (.ro k2), .int .i64 (.ofN nv)]) (.one (.bool (.uf 1727 plsFU [.agg (.ro k), .int .i64 (.ofN n), .agg (.ro k2), .int .i64 (.ofN nv)])) []))
  | _ => none
def secsS (G : Nat → List AV) : DSum := fun args _ => match args with
  | [.slice _ (.ro k) (.lit 0) n, .slice _ (.ro k2) (.lit 0) nv, .func 41 []] => some (.chk (.uf 1730 (secFOk G) [.agg (.ro k), .int .i64 (.ofN n), .agg (.ro k2), .int .i64 (.ofN nv)]) (.one (.bool (.uf 1729 (secFU G) [.agg (.ro k), .int .i64 (.ofN n), .agg (.ro k2), .int .i64 (.ofN nv)])) []))
  | _ => none
theorem plsFOk_iff {ps ps2 : List AV} {m m2 : Nat} : plsFOk [.agg ps, .int .i64 (m : Int), .agg ps2, .int .i64 (m2 : Int)] = true ↔ plsOkB ps m = true ∧ plsOkB ps2 m2 = true := by simp only [plsFOk, int_nat, Bool.and_eq_true]
theorem secFOk_iff {G : Nat → List AV} {ps ps2 : List AV} {m m2 : Nat} : secFOk G [.agg ps, .int .i64 (m : Int), .agg ps2, .int .i64 (m2 : Int)] = true ↔ secOkB G ps m = true ∧ secOkB G ps2 m2 = true := by simp only [secFOk, int_nat, Bool.and_eq_true]
theorem plsFU_eq {ps ps2 : List AV} {m m2 : Nat} : plsFU [.agg ps, .int .i64 (m : Int), .agg ps2, .int .i64 (m2 : Int)] = plsF ps m ps2 m2 := by simp only [plsFU, int_nat]
theorem secFU_eq {G : Nat → List AV} {ps ps2 : List AV} {m m2 : Nat} : secFU G [.agg ps, .int .i64 (m : Int), .agg ps2, .int .i64 (m2 : Int)] = secF G ps m ps2 m2 := by simp only [secFU, int_nat]
theorem plsS_ok (G : Nat → List AV) (B : Nat) : DSumOk (⟨Try.prog, G, B⟩ : Ctx) 39 plsS := by
  intro args H o ho
  unfold plsS at ho
  split at ho
  · rename_i mb k n mb2 k2 nv
    simp only [Option.some.injEq] at ho
    subst ho
    intro hk
    obtain ⟨h1, h2⟩ := plsFOk_iff.1 hk
    have key := ACalls.drop0 (pls_call G B (vN G k) (vN G k2) (vN G n) (vN G nv) h1 h2) rfl (by simp)
    rw [← plsFU_eq] at key
    refine DOut.ro0 (C := (⟨Try.prog, G, B⟩ : Ctx)) (key.weaken fun ρ vs hv => ?_) (by simp [vVs, vV, vL, vR, bnds, bnd]) (by simp [vV, bnd])
    simp only [vVs, vV, vL, vR, vN, VRs] at hv ⊢
    obtain ⟨v, vs', e, q1, w, vs2, e2, q2, q3⟩ := hv
    exact ⟨v, vs', e, VR_may q1, w, vs2, e2, VR_may q2, q3⟩
  · simp at ho
theorem secsS_ok (G : Nat → List AV) (B : Nat) : DSumOk (⟨Try.prog, G, B⟩ : Ctx) 40 (secsS G) := by
  intro args H o ho
  unfold secsS at ho
  split at ho
  · rename_i mb k n mb2 k2 nv
    simp only [Option.some.injEq] at ho
    subst ho
    intro hk
    obtain ⟨h1, h2⟩ := secFOk_iff.1 hk
    have key := ACalls.drop0 (secs_call G B (vN G k) (vN G k2) (vN G n) (vN G nv) h1 h2) rfl (by simp)
    rw [← secFU_eq] at key
    refine DOut.ro0 (C := (⟨Try.prog, G, B⟩ : Ctx)) (key.weaken fun ρ vs hv => ?_) (by simp [vVs, vV, vL, vR, bnds, bnd]) (by simp [vV, bnd])
    simp only [vVs, vV, vL, vR, vN, VRs] at hv ⊢
    obtain ⟨v, vs', e, q1, w, vs2, e2, q2, q3⟩ := hv
    exact ⟨v, vs', e, VR_may q1, w, vs2, e2, VR_may q2, q3⟩
  · simp at ho
theorem t19 (G : Nat → List AV) (s sv : Int) (k k2 n nv kp kp2 m m2 : Nat) (Q : Ex → List AV → Hp → Prop) (R : AV → Hp → Prop) : vT G Q R (dcall (Dc Try.prog [] [(39, plsS), (40, secsS G)] [] 0) 300 20 Try.f19 [.agg (.of [.int .i64 (.var 4 s), .slice true (.ro (.var 1 k)) (.lit 0) (.var 2 n), .slice true (.ro (.var 5 kp)) (.lit 0) (.var 6 m)]), .agg (.of [.int .i64 (.var 10 sv), .slice true (.ro (.var 3 k2)) (.lit 0) (.var 9 nv), .slice true (.ro (.var 7 kp2)) (.lit 0) (.var 31 m2)])] [] 0) = (
    (((s : Int) == sv) = true →
      plsFOk [.agg (G (kp)), .int .i64 (((m : Nat) : Int)), .agg (G (kp2)), .int .i64 (((m2 : Nat) : Int))] = true ∧
      (plsFU [.agg (G (kp)), .int .i64 (((m : Nat) : Int)), .agg (G (kp2)), .int .i64 (((m2 : Nat) : Int))] = true →
        (secFOk G) [.agg (G (k)), .int .i64 (((n : Nat) : Int)), .agg (G (k2)), .int .i64 (((nv : Nat) : Int))] = true ∧
        R (.bool ((secFU G) [.agg (G (k)), .int .i64 (((n : Nat) : Int)), .agg (G (k2)), .int .i64 (((nv : Nat) : Int))])) []) ∧
      (plsFU [.agg (G (kp)), .int .i64 (((m : Nat) : Int)), .agg (G (kp2)), .int .i64 (((m2 : Nat) : Int))] = false →
        R (.bool (false)) [])) ∧
    (((s : Int) == sv) = false →
      R (.bool (false)) [])) := by kernel_rfl
theorem same_call (G : Nat → List AV) (B : Nat) (s sv : Int) (k k2 n nv kp kp2 m m2 : Nat) (h1 : secOkB G (G k) n = true) (h2 : secOkB G (G k2) nv = true) (h3 : plsOkB (G kp) m = true) (h4 : plsOkB (G kp2) m2 = true) : ACalls (⟨Try.prog, G, B⟩ : Ctx) 19 [.agg [.int .i64 s, .slice true (.ro k) 0 n, .slice true (.ro kp) 0 m], .agg [.int .i64 sv, .slice true (.ro k2) 0 nv, .slice true (.ro kp2) 0 m2]] [] fun v _ => v = .bool (sameI G s (G k) n (G kp) m sv (G k2) nv (G kp2) m2) := by
  have := dcall_ok (C := (⟨Try.prog, G, B⟩ : Ctx)) (fuel := 300) (n0 := 20) (f := 19) (fn := Try.f19) (args := [.agg (.of [.int .i64 (.var 4 s), .slice true (.ro (.var 1 k)) (.lit 0) (.var 2 n), .slice true (.ro (.var 5 kp)) (.lit 0) (.var 6 m)]), .agg (.of [.int .i64 (.var 10 sv), .slice true (.ro (.var 3 k2)) (.lit 0) (.var 9 nv), .slice true (.ro (.var 7 kp2)) (.lit 0) (.var 31 m2)])]) (H := []) (keep := 0)
    (R := fun v _ => v = .bool (sameI G s (G k) n (G kp) m sv (G k2) nv (G kp2) m2)) (by rw [show loopsOf (bodyOf Try.f19) = [] by kernel_rfl]; exact dgood (inl := []) (ls := []) (M := 0) (mixI G B) (by kernel_rfl) (.cons (plsS_ok G B) (.cons (secsS_ok G B) .nil)) .nil) (by kernel_rfl) (by kernel_rfl) (by kernel_rfl) (by
    rw [t19, plsFU_eq, secFU_eq]
    refine ⟨fun e1 => ⟨plsFOk_iff.2 ⟨h3, h4⟩, fun e2 => ⟨secFOk_iff.2 ⟨h1, h2⟩, ?_⟩, fun e2 => ?_⟩, fun e1 => ?_⟩
    all_goals unfold sameI
    · rw [e1, e2]; rfl
    · rw [e1, e2]; rfl
    · rw [e1]; rfl)
  exact this.monoK fun v H h => h
end Go.Am
