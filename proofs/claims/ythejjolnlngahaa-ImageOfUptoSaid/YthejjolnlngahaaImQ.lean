/-
  Images: an image of one section in the heap: summaries of copied, Check, May.
-/
import Derived.Test.YthejjolnlngahaaImP
namespace Go.Am
open Go.Proofs
set_option maxRecDepth 100000
def cpU : List AV → Bool := fun xs => match xs with
  | [.agg pl, .int _ m, .agg dl, .int _ n] => cpC m.toNat n.toNat pl dl
  | _ => false
theorem cpU_eq {m n : Nat} {pl dl : List AV} : cpU [.agg pl, .int .i64 (m : Int), .agg dl, .int .i64 (n : Int)] = cpC m n pl dl := by simp only [cpU, int_nat]
/-- the blocks of an image of one section -/
def dif3 (i j d : Nat) : Bool := !Nat.beq i j && (!Nat.beq i d && !Nat.beq j d)
theorem dif3_iff {i j d : Nat} : dif3 i j d = true ↔ i ≠ j ∧ i ≠ d ∧ j ≠ d := by
  have h : ∀ x y : Nat, (!Nat.beq x y) = true ↔ x ≠ y := fun x y => by
    rw [Bool.not_eq_true']
    exact ⟨fun h e => by rw [e, Nat.beq_refl] at h; simp at h, fun h => by cases hb : Nat.beq x y with
      | false => rfl
      | true => exact absurd (Nat.eq_of_beq_eq_true hb) h⟩
  unfold dif3
  rw [Bool.and_eq_true, Bool.and_eq_true, h, h, h]
def cpS : DSum := fun args H => match args with
  | [.agg (.of [.int .i64 s, .slice false (.rw i) (.lit 0) (.lit 1), .slice false (.rw j) (.lit 0) m])] => match H[i]? with
    | some (some ⟨4, .of [.int .i64 a, .int .i64 r, .slice false (.rw d) (.lit 0) n, .int .i64 z]⟩) => match H[j]? with
      | some (some ⟨2, pl⟩) => match H[d]? with
        | some (some ⟨1, dl⟩) => match dif3 i j d with
          | true => some (.chk (.uf 1745 cpU [.agg pl, .int .i64 (.ofN m), .agg dl, .int .i64 (.ofN n)]) (.one (.agg (.of [.int .i64 s, .slice false (.rw H.length) (.lit 0) (.lit 1), .slice false (.rw (H.length + 1)) (.lit 0) m])) [.new ⟨4, .of [.int .i64 a, .int .i64 r, .slice false (.rw (H.length + 2)) (.lit 0) n, .int .i64 z]⟩, .new ⟨2, .sub pl (.lit 0) (.mul m 2)⟩, .new ⟨1, .sub dl (.lit 0) n⟩]))
          | false => none
        | _ => none
      | _ => none
    | _ => none
  | _ => none
theorem cpS_ok (G : Nat → List AV) (B : Nat) : DSumOk (⟨Try.prog, G, B⟩ : Ctx) 33 cpS := by
  intro args H o ho
  unfold cpS at ho
  split at ho
  · rename_i s i j m
    split at ho
    · rename_i a r d n z hi
      split at ho
      · rename_i pl hj
        split at ho
        · rename_i dl hd
          split at ho
          · rename_i h3
            simp only [Option.some.injEq] at ho
            subst ho
            intro hc
            have hc : cpC (vN G m) (vN G n) (vL G pl) (vL G dl) = true := by rw [← cpU_eq]; exact hc
            obtain ⟨⟨h1, h2⟩, _, _⟩ := cpC_iff.1 hc
            have f1 := (clOk_iff.1 h1).2.2
            have f2 := (clOk_iff.1 h2).2.2
            have g1 := bnds_sub (a := 0) (b := vN G m * 2) f1
            have g2 := bnds_sub (a := 0) (b := vN G n) f2
            obtain ⟨n1, n2, n3⟩ := dif3_iff.1 h3
            have gi := vHp_some (G := G) hi
            have gj := vHp_some (G := G) hj
            have gd := vHp_some (G := G) hd
            refine DOut.fr (C := (⟨Try.prog, G, B⟩ : Ctx)) (θ := [i, j, d]) (by simp [n1, n2, n3]) rfl (fun k x hk => ?_) (by simp [bnds, bnd]) (by simp [vVs, vV, vL, vI, vR, vN, rens, ren]) (cp_call G B (vI G s) (vI G a) (vI G r) (vI G z) (vN G m) (vN G n) (vL G pl) (vL G dl) hc) (by simp) (by simp [bnd, bnds]) (by simp [hpB, bnds, bnd, bnds_mono (Nat.zero_le 6) _ f1, bnds_mono (Nat.zero_le 6) _ f2, bnds_mono (Nat.zero_le 6) _ g1, bnds_mono (Nat.zero_le 6) _ g2]) (by simp [vV, vL, vVs, vI, vR, vN, ren, rens, wide]) ?_
            · match k, hk with
              | 0, hk =>
                simp at hk; subst hk
                refine ⟨_, rfl, by simp [bnds, bnd], ?_⟩
                simpa [vBlk, vL, vVs, vV, vI, vR, vN, renB, rens, ren] using gi
              | 1, hk =>
                simp at hk; subst hk
                refine ⟨_, rfl, bnds_mono (Nat.zero_le _) _ f1, ?_⟩
                simp only [renB, rens_flat _ _ f1]
                simpa [vBlk] using gj
              | 2, hk =>
                simp at hk; subst hk
                refine ⟨_, rfl, bnds_mono (Nat.zero_le _) _ f2, ?_⟩
                simp only [renB, rens_flat _ _ f2]
                simpa [vBlk] using gd
            · unfold merge
              have e1 : ∀ X, lay (wide [i, j, d] (vHp G H).length 3) [i, j, d] (some ⟨4, [.int .i64 (vI G a), .int .i64 (vI G r), .slice false (.rw 2) 0 (vN G n), .int .i64 (vI G z)]⟩ :: some ⟨2, vL G pl⟩ :: some ⟨1, vL G dl⟩ :: X) (vHp G H) = vHp G H := fun X => by
                refine lay_same _ _ _ _ fun q x hq hx => ?_
                match q, hq with
                | 0, _ =>
                  simp at hx; subst hx
                  simpa [vBlk, vL, vVs, vV, vI, vR, vN, renO, renB, rens, ren, wide] using gi
                | 1, _ =>
                  simp at hx; subst hx
                  simp only [renO, Option.map_some, renB, rens_flat _ _ f1]
                  simpa [vBlk] using gj
                | 2, _ =>
                  simp at hx; subst hx
                  simp only [renO, Option.map_some, renB, rens_flat _ _ f2]
                  simpa [vBlk] using gd
              show _ = lay (wide [i, j, d] (vHp G H).length 3) [i, j, d] _ (vHp G H) ++ _
              rw [e1]
              simp [acts, Hop.act, vHop, renO, renB, vBlk, vL, vVs, vV, vI, vR, vN, rens, ren, wide, rens_flat _ _ g1, rens_flat _ _ g2, vHp_length]
          · simp at ho
        · simp at ho
      · simp at ho
    · simp at ho
  · simp at ho
end Go.Am
