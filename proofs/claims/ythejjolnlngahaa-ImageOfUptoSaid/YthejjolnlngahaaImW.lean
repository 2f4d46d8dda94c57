/-
  Images: Same's summary over what was handed in.
-/
import Derived.Test.YthejjolnlngahaaImV
import Derived.Test.YthejjolnlngahaaImS
namespace Go.Am
open Go.Proofs
set_option maxRecDepth 100000
def sameU (G : Nat → List AV) : List AV → Bool := fun xs => match xs with
  | [.int _ s, .agg cs, .int _ n, .agg ps, .int _ m, .int _ sv, .agg cs2, .int _ nv, .agg ps2, .int _ m2] => sameI G s cs n.toNat ps m.toNat sv cs2 nv.toNat ps2 m2.toNat
  | _ => false
def sameOk (G : Nat → List AV) : List AV → Bool := fun xs => match xs with
  | [.int _ _, .agg cs, .int _ n, .agg ps, .int _ m, .int _ _, .agg cs2, .int _ nv, .agg ps2, .int _ m2] => (secOkB G cs n.toNat && secOkB G cs2 nv.toNat) && (plsOkB ps m.toNat && plsOkB ps2 m2.toNat)
  | _ => false
theorem sameU_eq {G : Nat → List AV} {s sv : Int} {cs cs2 ps ps2 : List AV} {n m nv m2 : Nat} : sameU G [.int .i64 s, .agg cs, .int .i64 (n : Int), .agg ps, .int .i64 (m : Int), .int .i64 sv, .agg cs2, .int .i64 (nv : Int), .agg ps2, .int .i64 (m2 : Int)] = sameI G s cs n ps m sv cs2 nv ps2 m2 := by simp only [sameU, int_nat]
theorem sameOk_iff {G : Nat → List AV} {s sv : Int} {cs cs2 ps ps2 : List AV} {n m nv m2 : Nat} : sameOk G [.int .i64 s, .agg cs, .int .i64 (n : Int), .agg ps, .int .i64 (m : Int), .int .i64 sv, .agg cs2, .int .i64 (nv : Int), .agg ps2, .int .i64 (m2 : Int)] = true ↔ (secOkB G cs n = true ∧ secOkB G cs2 nv = true) ∧ (plsOkB ps m = true ∧ plsOkB ps2 m2 = true) := by simp only [sameOk, int_nat, Bool.and_eq_true]
def sameS (G : Nat → List AV) : DSum := fun args _ => match args with
  | [.agg (.of [.int .i64 s, .slice _ (.ro k) (.lit 0) n, .slice _ (.ro kp) (.lit 0) m]), .agg (.of [.int .i64 sv, .slice _ (.ro k2) (.lit 0) nv, .slice _ (.ro kp2) (.lit 0) m2])] => some (.chk (.uf 1760 (sameOk G) [.int .i64 s, .agg (.ro k), .int .i64 (.ofN n), .agg (.ro kp), .int .i64 (.ofN m), .int .i64 sv, .agg (.ro k2), .int .i64 (.ofN nv), .agg (.ro kp2), .int .i64 (.ofN m2)]) (.one (.bool (.uf 1761 (sameU G) [.int .i64 s, .agg (.ro k), .int .i64 (.ofN n), .agg (.ro kp), .int .i64 (.ofN m), .int .i64 sv, .agg (.ro k2), .int .i64 (.ofN nv), .agg (.ro kp2), .int .i64 (.ofN m2)])) []))
  | _ => none
theorem sameS_of (G : Nat → List AV) (B : Nat) {f : Nat} (hf : ∀ (s sv : Int) (k k2 n nv kp kp2 m m2 : Nat) (_ : secOkB G (G k) n = true) (_ : secOkB G (G k2) nv = true) (_ : plsOkB (G kp) m = true) (_ : plsOkB (G kp2) m2 = true), ACalls (⟨Try.prog, G, B⟩ : Ctx) f [.agg [.int .i64 s, .slice true (.ro k) 0 n, .slice true (.ro kp) 0 m], .agg [.int .i64 sv, .slice true (.ro k2) 0 nv, .slice true (.ro kp2) 0 m2]] [] fun v _ => v = .bool (sameI G s (G k) n (G kp) m sv (G k2) nv (G kp2) m2)) : DSumOk (⟨Try.prog, G, B⟩ : Ctx) f (sameS G) := by
  intro args H o ho
  unfold sameS at ho
  split at ho
  · rename_i s mb k n mb2 kp m sv mb3 k2 nv mb4 kp2 m2
    simp only [Option.some.injEq] at ho
    subst ho
    intro hk
    obtain ⟨⟨h1, h2⟩, h3, h4⟩ := sameOk_iff.1 hk
    have key := ACalls.drop0 (hf (vI G s) (vI G sv) (vN G k) (vN G k2) (vN G n) (vN G nv) (vN G kp) (vN G kp2) (vN G m) (vN G m2) h1 h2 h3 h4) rfl (by simp)
    rw [← sameU_eq] at key
    refine DOut.ro0 (C := (⟨Try.prog, G, B⟩ : Ctx)) (key.weaken fun ρ vs hv => ?_) (by simp [vVs, vV, vL, vR, bnds, bnd]) (by simp [vV, bnd])
    simp only [vVs, vV, vL, vR, vN, VRs, VR] at hv ⊢
    obtain ⟨v, vs', e, ⟨ws, e2, w1, t1, e3, q1, w2, t2, e4, q2, w3, t3, e5, q3, q4⟩, v', vs2, e6, ⟨us, e7, u1, y1, e8, r1, u2, y2, e9, r2, u3, y3, e10, r3, r4⟩, q6⟩ := hv
    have may : ∀ {b : Bool} {r : Ref} {n : Nat} {w : Value}, SliceR ρ b r 0 n w → SliceR ρ true r 0 n w := fun {b r n w} h => by
      have := VR_may (show VR ρ (.slice b r 0 n) w by simpa only [VR] using h)
      simpa only [VR] using this
    exact ⟨v, vs', e, ⟨ws, e2, w1, t1, e3, q1, w2, t2, e4, may q2, w3, t3, e5, may q3, q4⟩, v', vs2, e6, ⟨us, e7, u1, y1, e8, r1, u2, y2, e9, may r2, u3, y3, e10, may r3, r4⟩, q6⟩
  · simp at ho
theorem rsameS_ok (G : Nat → List AV) (B : Nat) : DSumOk (⟨Try.prog, G, B⟩ : Ctx) 15 (sameS G) := sameS_of G B fun s sv k k2 n nv kp kp2 m m2 h1 h2 h3 h4 => rsame_call G B s sv k k2 n nv kp kp2 m m2 h1 h2 h3 h4
theorem psameS_ok (G : Nat → List AV) (B : Nat) : DSumOk (⟨Try.prog, G, B⟩ : Ctx) 19 (sameS G) := sameS_of G B fun s sv k k2 n nv kp kp2 m m2 h1 h2 h3 h4 => same_call G B s sv k k2 n nv kp kp2 m m2 h1 h2 h3 h4
/-! ### two images of one section in the heap -/
/-- ... a section's data looked at at any place -/
def datY (d : Nat) (n : Nat) (X : AV) : Prop := (∃ mb, X = .slice mb (.ro d) 0 n) ∨ (X = .nils ∧ n = 0)
end Go.Am
