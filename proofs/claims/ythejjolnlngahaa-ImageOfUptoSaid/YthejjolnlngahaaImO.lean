/-
  Images: a copy of an image of one section.
-/
import Derived.Test.YthejjolnlngahaaImN
namespace Go.Am
open Go.Proofs
set_option maxRecDepth 100000
def flU : List AV → Bool := fun xs => match xs with
  | [.agg l] => bnds 0 l
  | _ => false
def cl4S : DSum := fun args H => match args with
  | [.slice false (.rw j) (.lit 0) (.lit 1)] => match H[j]? with
    | some (some ⟨4, .of [.int .i64 a, .int .i64 r, .slice false (.rw d) (.lit 0) n, .int .i64 z]⟩) => match H[d]? with
      | some (some ⟨1, l⟩) => match Nat.beq j d with
        | true => none
        | false => some (.chk (.uf 1742 flU [.agg l]) (.one (.slice false (.rw H.length) (.lit 0) (.lit 1)) [.new ⟨4, .of [.int .i64 a, .int .i64 r, .slice false (.rw d) (.lit 0) n, .int .i64 z]⟩]))
      | _ => none
    | _ => none
  | _ => none
theorem cl4S_ok (G : Nat → List AV) (B : Nat) : DSumOk (⟨Try.prog, G, B⟩ : Ctx) 78 cl4S := by
  intro args H o ho
  unfold cl4S at ho
  split at ho
  · rename_i j
    split at ho
    · rename_i a r d n z hj
      split at ho
      · rename_i l hd
        split at ho
        · simp at ho
        · rename_i hjd
          simp only [Option.some.injEq] at ho
          subst ho
          intro h4
          have h4 : bnds 0 (vL G l) = true := h4
          have hne : j ≠ d := fun e => by rw [e, Nat.beq_refl] at hjd; simp at hjd
          have gj := vHp_some (G := G) hj
          have gd := vHp_some (G := G) hd
          refine DOut.fr (C := (⟨Try.prog, G, B⟩ : Ctx)) (θ := [j, d]) (H0 := [some ⟨4, [.int .i64 (vI G a), .int .i64 (vI G r), .slice false (.rw 1) 0 (vN G n), .int .i64 (vI G z)]⟩, some ⟨1, vL G l⟩]) (H1 := [some ⟨4, [.int .i64 (vI G a), .int .i64 (vI G r), .slice false (.rw 1) 0 (vN G n), .int .i64 (vI G z)]⟩, some ⟨1, vL G l⟩, some ⟨4, [.int .i64 (vI G a), .int .i64 (vI G r), .slice false (.rw 1) 0 (vN G n), .int .i64 (vI G z)]⟩]) (v0 := .slice false (.rw 2) 0 1) (args0 := [.slice false (.rw 0) 0 1]) (by simp [hne]) rfl (fun k x hk => ?_) (by simp [bnds, bnd]) (by simp [vVs, vV, vR, vN, rens, ren]) (cl4_call G B (vI G a) (vI G r) (vI G z) (vL G l) (vN G n) h4) (by simp) (by simp [bnd]) (by simp [hpB, bnds, bnd, bnds_mono (Nat.zero_le 3) _ h4]) (by simp [vV, vR, vN, ren, wide]) ?_
          · match k, hk with
            | 0, hk =>
              simp at hk; subst hk
              refine ⟨_, rfl, by simp [bnds, bnd], ?_⟩
              simpa [vBlk, vL, vVs, vV, vI, vR, vN, renB, rens, ren] using gj
            | 1, hk =>
              simp at hk; subst hk
              refine ⟨_, rfl, bnds_mono (Nat.zero_le _) _ h4, ?_⟩
              simp only [renB, rens_flat _ _ h4]
              simpa [vBlk] using gd
          · unfold merge
            have e1 : lay (wide [j, d] (vHp G H).length 1) [j, d] [some ⟨4, [.int .i64 (vI G a), .int .i64 (vI G r), .slice false (.rw 1) 0 (vN G n), .int .i64 (vI G z)]⟩, some ⟨1, vL G l⟩, some ⟨4, [.int .i64 (vI G a), .int .i64 (vI G r), .slice false (.rw 1) 0 (vN G n), .int .i64 (vI G z)]⟩] (vHp G H) = vHp G H := by
              refine lay_same _ _ _ _ fun i x hi hx => ?_
              match i, hi with
              | 0, _ =>
                simp at hx; subst hx
                simpa [vBlk, vL, vVs, vV, vI, vR, vN, renO, renB, rens, ren, wide] using gj
              | 1, _ =>
                simp at hx; subst hx
                simp only [renO, Option.map_some, renB, rens_flat _ _ h4]
                simpa [vBlk] using gd
            rw [show ([some ⟨4, [.int .i64 (vI G a), .int .i64 (vI G r), .slice false (.rw 1) 0 (vN G n), .int .i64 (vI G z)]⟩, some ⟨1, vL G l⟩, some ⟨4, [.int .i64 (vI G a), .int .i64 (vI G r), .slice false (.rw 1) 0 (vN G n), .int .i64 (vI G z)]⟩] : Hp).length - [j, d].length = 1 from rfl]
            rw [e1]
            simp [acts, Hop.act, vHop, renO, renB, vBlk, vL, vVs, vV, vI, vR, vN, rens, ren, wide]
      · simp at ho
    · simp at ho
  · simp at ho
def progC : List (Nat × DSum) := (78, cl4S) :: (79, cl2S) :: (80, cl1S) :: []
theorem progC_ok (G : Nat → List AV) (B : Nat) : DSumsOk (⟨Try.prog, G, B⟩ : Ctx) progC := .cons (cl4S_ok G B) (.cons (cl2S_ok G B) (.cons (cl1S_ok G B) .nil))
end Go.Am
