/-
  Images: the document's Same, whatever it is handed.
-/
import Derived.Test.YthejjolnlngahaaImX
namespace Go.Am
open Go.Proofs
set_option maxRecDepth 100000
def sameN : DSum := fun args _ => match args with
  | [.agg (.of [.int .i64 s, .nils, .nils]), .agg (.of [.int .i64 sv, .nils, .nils])] => some (.one (.bool (.cmp .eql s sv)) [])
  | _ => none
theorem sameN_ok (G : Nat → List AV) (B : Nat) : DSumOk (⟨Try.prog, G, B⟩ : Ctx) 15 sameN := by
  intro args H o ho
  unfold sameN at ho
  split at ho
  · rename_i s sv
    simp only [Option.some.injEq] at ho
    subst ho
    refine DOut.rdN (C := (⟨Try.prog, G, B⟩ : Ctx)) (σ := fun _ => (.ro 0, 0)) (G' := fun _ => []) (args0 := [.agg [.int .i64 (vI G s), .slice true (.ro 0) 0 0, .slice true (.ro 0) 0 0], .agg [.int .i64 (vI G sv), .slice true (.ro 0) 0 0, .slice true (.ro 0) 0 0]]) (fun k => .inl rfl) rfl (fun ρ vs hvs => ?_) (fun B' => ?_) ⟨rfl, rfl⟩
    · simp only [vVs, vV, vL, sbs, sb, VRs, VR, Nat.add_zero] at hvs ⊢
      obtain ⟨v, vs', e, ⟨ws, e2, w1, t1, e3, k1, w2, t2, e4, k2, w3, t3, e5, k3, k4⟩, v', vs2, e6, ⟨us, e7, u1, z1, e8, l1, u2, zz2, e9, l2, u3, z3, e10, l3, l4⟩, k6⟩ := hvs
      have nl : ∀ {w : Value}, VR ρ .nils w → SliceR ρ true (.ro 0) 0 0 w := fun {w} h => by
        have := VR_nils 0 0 h
        simpa only [VR] using this
      exact ⟨v, vs', e, ⟨ws, e2, w1, t1, e3, k1, w2, t2, e4, nl (by simpa only [VR] using k2), w3, t3, e5, nl (by simpa only [VR] using k3), k4⟩, v', vs2, e6, ⟨us, e7, u1, z1, e8, l1, u2, zz2, e9, nl (by simpa only [VR] using l2), u3, z3, e10, nl (by simpa only [VR] using l3), l4⟩, k6⟩
    · refine (rsame_call (fun _ => []) B' (vI G s) (vI G sv) 0 0 0 0 0 0 0 0 rfl rfl rfl rfl).monoK fun v _ e => ?_
      rw [e]
      show AV.bool ((vI G s == vI G sv) && true) = .bool (vI G s == vI G sv)
      rw [Bool.and_true]
  · simp at ho
def orS (s t : DSum) : DSum := fun args H => match s args H with
  | some o => some o
  | none => t args H
theorem DSumOk.or {C : Ctx} {f : FuncId} {s t : DSum} (hs : DSumOk C f s) (ht : DSumOk C f t) : DSumOk C f (orS s t) := by
  intro args H o ho
  unfold orS at ho
  split at ho
  · rename_i o' h
    simp only [Option.some.injEq] at ho
    subst ho
    exact hs _ _ _ h
  · exact ht _ _ _ ho
def same15 (G : Nat → List AV) : DSum := orS same1S (orS sameN (sameS G))
theorem same15_ok (G : Nat → List AV) (B : Nat) : DSumOk (⟨Try.prog, G, B⟩ : Ctx) 15 (same15 G) := (same1S_ok G B).or ((sameN_ok G B).or (rsameS_ok G B))
end Go.Am
