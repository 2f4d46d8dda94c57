/-
  Images: Of's summary.
-/
import Derived.Test.YthejjolnlngahaaImU
namespace Go.Am
open Go.Proofs
set_option maxRecDepth 100000
def ofS : DSum := fun args H => match args with
  | [.slice false (.rw i) (.lit 0) n, .slice false (.rw j) (.lit 0) m, .int .i64 z] => match H[i]? with
    | some (some ⟨1, dl⟩) => match H[j]? with
      | some (some ⟨2, pl⟩) => match Nat.beq i j with
        | false => some (.chk (.uf 1745 cpU [.agg pl, .int .i64 (.ofN m), .agg dl, .int .i64 (.ofN n)]) (.chk (.uf 1746 pl1U [.agg (.sub pl (.lit 0) (.mul m 2)), .int .i64 (.ofN m)])
            (.tst (.uf 1747 may1U [.int .i64 (.lit 0), .int .i64 (.lit 0), .int .i64 (.lit 7), .int .i64 (.ofN n), .int .i64 z, .agg (.sub pl (.lit 0) (.mul m 2)), .int .i64 (.ofN m)])
              (.one (.tup [.agg (.of [.int .i64 (.lit 0), .slice false (.rw H.length) (.lit 0) (.lit 1), .slice false (.rw (H.length + 1)) (.lit 0) m]), .int .i64 (.lit 0)]) [.new ⟨4, .of [.int .i64 (.lit 0), .int .i64 (.lit 7), .slice false (.rw (H.length + 2)) (.lit 0) n, .int .i64 z]⟩, .new ⟨2, .sub pl (.lit 0) (.mul m 2)⟩, .new ⟨1, .sub dl (.lit 0) n⟩])
              (.one (.tup [.agg (.of [.int .i64 (.lit 0), .nils, .nils]), .int .i64 (.lit 2)]) []))))
        | true => none
      | _ => none
    | _ => none
  | _ => none
theorem ofS_ok (G : Nat → List AV) (B : Nat) : DSumOk (⟨Try.prog, G, B⟩ : Ctx) 17 ofS := by
  intro args H o ho
  unfold ofS at ho
  split at ho
  · rename_i i n j m z
    split at ho
    · rename_i dl hi
      split at ho
      · rename_i pl hj
        split at ho
        · rename_i hij
          simp only [Option.some.injEq] at ho
          subst ho
          intro hc hp
          have hne : i ≠ j := fun e => by rw [e, Nat.beq_refl] at hij; simp at hij
          have hc : cpC (vN G m) (vN G n) (vL G pl) (vL G dl) = true := by rw [← cpU_eq]; exact hc
          have hp : pl1U [.agg (subL (vL G pl) 0 (vN G m * 2)), .int .i64 (vN G m : Int)] = true := hp
          obtain ⟨⟨h1, h2⟩, _, _⟩ := cpC_iff.1 hc
          have f1 := (clOk_iff.1 h1).2.2
          have f2 := (clOk_iff.1 h2).2.2
          have g1 := bnds_sub (a := 0) (b := vN G m * 2) f1
          have g2 := bnds_sub (a := 0) (b := vN G n) f2
          have gi := vHp_some (G := G) hi
          have gj := vHp_some (G := G) hj
          have live : ∀ (k : Nat) x, ([some ⟨1, vL G dl⟩, some ⟨2, vL G pl⟩] : Hp)[k]? = some x → ∃ b0, x = some b0 ∧ bnds [i, j].length b0.cells = true ∧ (vHp G H)[[i, j].getD k 0]? = some (some (renB [i, j] b0)) := fun k x hk => by
            match k, hk with
            | 0, hk =>
              simp at hk; subst hk
              refine ⟨_, rfl, bnds_mono (Nat.zero_le _) _ f2, ?_⟩
              simp only [renB, rens_flat _ _ f2]
              simpa [vBlk] using gi
            | 1, hk =>
              simp at hk; subst hk
              refine ⟨_, rfl, bnds_mono (Nat.zero_le _) _ f1, ?_⟩
              simp only [renB, rens_flat _ _ f1]
              simpa [vBlk] using gj
          have e1 : ∀ z' X, lay (wide [i, j] (vHp G H).length z') [i, j] (some ⟨1, vL G dl⟩ :: some ⟨2, vL G pl⟩ :: X) (vHp G H) = vHp G H := fun z' X => by
            refine lay_same _ _ _ _ fun q x hq hx => ?_
            match q, hq with
            | 0, _ =>
              simp at hx; subst hx
              simp only [renO, Option.map_some, renB, rens_flat _ _ f2]
              simpa [vBlk] using gi
            | 1, _ =>
              simp at hx; subst hx
              simp only [renO, Option.map_some, renB, rens_flat _ _ f1]
              simpa [vBlk] using gj
          refine ⟨fun hm => ?_, fun hm => ?_⟩
          · have hm : mayI 0 (cs1 0 7 (vN G n) (vI G z)) 1 (subL (vL G pl) 0 (vN G m * 2)) (vN G m) = true := by rw [← may1U_eq]; exact hm
            refine DOut.fr (C := (⟨Try.prog, G, B⟩ : Ctx)) (θ := [i, j]) (by simp [hne]) rfl live (by simp [bnds, bnd]) (by simp [vVs, vV, vL, vI, vR, vN, rens, ren]) (of_yes G B (vI G z) (vN G m) (vN G n) (vL G pl) (vL G dl) hc hp hm) (by simp) (by simp [bnd, bnds]) (by simp [hpB, bnds, bnd, bnds_mono (Nat.zero_le 5) _ f1, bnds_mono (Nat.zero_le 5) _ f2, bnds_mono (Nat.zero_le 5) _ g1, bnds_mono (Nat.zero_le 5) _ g2]) (by simp [vV, vL, vVs, vI, vR, vN, ren, rens, wide]) ?_
            unfold merge
            show _ = lay (wide [i, j] (vHp G H).length 3) [i, j] _ (vHp G H) ++ _
            rw [e1]
            simp [acts, Hop.act, vHop, renO, renB, vBlk, vL, vVs, vV, vI, vR, vN, rens, ren, wide, rens_flat _ _ g1, rens_flat _ _ g2, vHp_length]
          · have hm : mayI 0 (cs1 0 7 (vN G n) (vI G z)) 1 (subL (vL G pl) 0 (vN G m * 2)) (vN G m) = false := by rw [← may1U_eq]; exact hm
            refine DOut.fr (C := (⟨Try.prog, G, B⟩ : Ctx)) (θ := [i, j]) (by simp [hne]) rfl live (by simp [bnds, bnd]) (by simp [vVs, vV, vL, vI, vR, vN, rens, ren]) (of_no G B (vI G z) (vN G m) (vN G n) (vL G pl) (vL G dl) hc hp hm) (by simp) (by simp [bnd, bnds]) (by simp [hpB, bnds_mono (Nat.zero_le 2) _ f1, bnds_mono (Nat.zero_le 2) _ f2]) (by simp [vV, vL, vVs, vI, ren, rens]) ?_
            unfold merge
            show _ = lay (wide [i, j] (vHp G H).length 0) [i, j] _ (vHp G H) ++ _
            rw [e1]
            simp [acts]
        · simp at ho
      · simp at ho
    · simp at ho
  · simp at ho
end Go.Am
