/-
  Images: Of of the program, over own slices.
-/
import Derived.Test.YthejjolnlngahaaImS
namespace Go.Am
open Go.Proofs
set_option maxRecDepth 100000
theorem t17 (G : Nat → List AV) (z : Int) (m n : Nat) (pl dl : List AV) (Q : Ex → List AV → Hp → Prop) (R : AV → Hp → Prop) : vT G Q R (dcall (Dc Try.prog [] [(33, cpS), (20, chk1S)] [] 0) 300 20 Try.f17 [.slice false (.rw 0) (.lit 0) (.var 5 n), .slice false (.rw 1) (.lit 0) (.var 2 m), .int .i64 (.var 6 z)] [some ⟨1, .var 8 dl⟩, some ⟨2, .var 7 pl⟩] 12) = (
    cpU [.agg pl, .int .i64 (((m : Nat) : Int)), .agg dl, .int .i64 (((n : Nat) : Int))] = true ∧
    pl1U [.agg (subL pl (0) ((m) * 2)), .int .i64 (((m : Nat) : Int))] = true ∧
    (((chk1U [.int .i64 (0), .int .i64 (0), .int .i64 (7), .int .i64 (((n : Nat) : Int)), .int .i64 (z), .agg (subL pl (0) ((m) * 2)), .int .i64 (((m : Nat) : Int))] : Int) == 0) = true →
      R (.tup [.agg ([.int .i64 (0), .slice false (.rw 4) (0) (1), .slice false (.rw 5) (0) (m)] : List AV), .int .i64 (0)]) [some ⟨1, dl⟩, some ⟨2, pl⟩, some ⟨1, ([.int .i64 (0), .slice false (.rw 4) (0) (1), .slice false (.rw 5) (0) (m)] : List AV)⟩, some ⟨4, ([.int .i64 (0), .int .i64 (7), .slice false (.rw 0) (0) (n), .int .i64 (z)] : List AV)⟩, some ⟨4, ([.int .i64 (0), .int .i64 (7), .slice false (.rw 6) (0) (n), .int .i64 (z)] : List AV)⟩, some ⟨2, (subL pl (0) ((m) * 2))⟩, some ⟨1, (subL dl (0) (n))⟩, some ⟨1, ([.int .i64 (0), .slice false (.rw 4) (0) (1), .slice false (.rw 5) (0) (m)] : List AV)⟩]) ∧
    (((chk1U [.int .i64 (0), .int .i64 (0), .int .i64 (7), .int .i64 (((n : Nat) : Int)), .int .i64 (z), .agg (subL pl (0) ((m) * 2)), .int .i64 (((m : Nat) : Int))] : Int) == 0) = false →
      R (.tup [.agg ([.int .i64 (0), .nils, .nils] : List AV), .int .i64 (chk1U [.int .i64 (0), .int .i64 (0), .int .i64 (7), .int .i64 (((n : Nat) : Int)), .int .i64 (z), .agg (subL pl (0) ((m) * 2)), .int .i64 (((m : Nat) : Int))])]) [some ⟨1, dl⟩, some ⟨2, pl⟩, some ⟨1, ([.int .i64 (0), .nils, .nils] : List AV)⟩, some ⟨4, ([.int .i64 (0), .int .i64 (7), .slice false (.rw 0) (0) (n), .int .i64 (z)] : List AV)⟩, some ⟨4, ([.int .i64 (0), .int .i64 (7), .slice false (.rw 6) (0) (n), .int .i64 (z)] : List AV)⟩, some ⟨2, (subL pl (0) ((m) * 2))⟩, some ⟨1, (subL dl (0) (n))⟩, some ⟨1, ([.int .i64 (0), .slice false (.rw 4) (0) (1), .slice false (.rw 5) (0) (m)] : List AV)⟩])) := by kernel_rfl
theorem chk1U_eq {s a r z : Int} {n m : Nat} {ps : List AV} : chk1U [.int .i64 s, .int .i64 a, .int .i64 r, .int .i64 (n : Int), .int .i64 z, .agg ps, .int .i64 (m : Int)] = if mayI s (cs1 a r n z) 1 ps m then 0 else 2 := by unfold chk1U; rw [may1U_eq]
theorem of_run (G : Nat → List AV) (B : Nat) (z : Int) (m n : Nat) (pl dl : List AV) (h1 : cpC m n pl dl = true) (h2 : pl1U [.agg (subL pl 0 (m * 2)), .int .i64 (m : Int)] = true) :
    ACalls (⟨Try.prog, G, B⟩ : Ctx) 17 [.slice false (.rw 0) 0 n, .slice false (.rw 1) 0 m, .int .i64 z] [some ⟨1, dl⟩, some ⟨2, pl⟩] fun v H => (mayI 0 (cs1 0 7 n z) 1 (subL pl 0 (m * 2)) m = true → v = .tup [.agg [.int .i64 0, .slice false (.rw 4) 0 1, .slice false (.rw 5) 0 m], .int .i64 0] ∧ H.take 7 = [some ⟨1, dl⟩, some ⟨2, pl⟩, some ⟨1, [.int .i64 0, .slice false (.rw 4) 0 1, .slice false (.rw 5) 0 m]⟩, some ⟨4, [.int .i64 0, .int .i64 7, .slice false (.rw 0) 0 n, .int .i64 z]⟩, some ⟨4, [.int .i64 0, .int .i64 7, .slice false (.rw 6) 0 n, .int .i64 z]⟩, some ⟨2, subL pl 0 (m * 2)⟩, some ⟨1, subL dl 0 n⟩]) ∧
      (mayI 0 (cs1 0 7 n z) 1 (subL pl 0 (m * 2)) m = false → v = .tup [.agg [.int .i64 0, .nils, .nils], .int .i64 2] ∧ H.take 2 = [some ⟨1, dl⟩, some ⟨2, pl⟩]) := by
  have := dcall_ok (C := (⟨Try.prog, G, B⟩ : Ctx)) (fuel := 300) (n0 := 20) (f := 17) (fn := Try.f17) (args := [.slice false (.rw 0) (.lit 0) (.var 5 n), .slice false (.rw 1) (.lit 0) (.var 2 m), .int .i64 (.var 6 z)]) (H := [some ⟨1, .var 8 dl⟩, some ⟨2, .var 7 pl⟩]) (keep := 12)
    (R := fun v H => (mayI 0 (cs1 0 7 n z) 1 (subL pl 0 (m * 2)) m = true → v = .tup [.agg [.int .i64 0, .slice false (.rw 4) 0 1, .slice false (.rw 5) 0 m], .int .i64 0] ∧ H.take 7 = [some ⟨1, dl⟩, some ⟨2, pl⟩, some ⟨1, [.int .i64 0, .slice false (.rw 4) 0 1, .slice false (.rw 5) 0 m]⟩, some ⟨4, [.int .i64 0, .int .i64 7, .slice false (.rw 0) 0 n, .int .i64 z]⟩, some ⟨4, [.int .i64 0, .int .i64 7, .slice false (.rw 6) 0 n, .int .i64 z]⟩, some ⟨2, subL pl 0 (m * 2)⟩, some ⟨1, subL dl 0 n⟩]) ∧
      (mayI 0 (cs1 0 7 n z) 1 (subL pl 0 (m * 2)) m = false → v = .tup [.agg [.int .i64 0, .nils, .nils], .int .i64 2] ∧ H.take 2 = [some ⟨1, dl⟩, some ⟨2, pl⟩])) (by rw [show loopsOf (bodyOf Try.f17) = [] by kernel_rfl]; exact dgood (inl := []) (ls := []) (M := 0) (mixI G B) (by kernel_rfl) (.cons (cpS_ok G B) (.cons (chk1S_ok G B) .nil)) .nil) (by kernel_rfl) (by kernel_rfl) (by kernel_rfl) (by
    rw [t17, chk1U_eq]
    refine ⟨by rw [cpU_eq]; exact h1, h2, fun e => ?_, fun e => ?_⟩
    · cases hm : mayI 0 (cs1 0 7 n z) 1 (subL pl 0 (m * 2)) m with
      | true => exact ⟨fun _ => ⟨rfl, rfl⟩, fun h => by simp at h⟩
      | false => rw [hm] at e; simp at e
    · cases hm : mayI 0 (cs1 0 7 n z) 1 (subL pl 0 (m * 2)) m with
      | true => rw [hm] at e; simp at e
      | false => exact ⟨fun h => by simp at h, fun _ => ⟨rfl, rfl⟩⟩)
  refine this.monoK fun v H h => ⟨fun hm => ?_, fun hm => ?_⟩
  · obtain ⟨g1, g2⟩ := h.1 hm
    refine ⟨g1, ?_⟩
    rw [List.take_take] at g2
    exact g2
  · obtain ⟨g1, g2⟩ := h.2 hm
    refine ⟨g1, ?_⟩
    rw [List.take_take] at g2
    exact g2
theorem of_yes (G : Nat → List AV) (B : Nat) (z : Int) (m n : Nat) (pl dl : List AV) (h1 : cpC m n pl dl = true) (h2 : pl1U [.agg (subL pl 0 (m * 2)), .int .i64 (m : Int)] = true) (hm : mayI 0 (cs1 0 7 n z) 1 (subL pl 0 (m * 2)) m = true) :
    ACalls (⟨Try.prog, G, B⟩ : Ctx) 17 [.slice false (.rw 0) 0 n, .slice false (.rw 1) 0 m, .int .i64 z] [some ⟨1, dl⟩, some ⟨2, pl⟩] fun v H => v = .tup [.agg [.int .i64 0, .slice false (.rw 2) 0 1, .slice false (.rw 3) 0 m], .int .i64 0] ∧ H = [some ⟨1, dl⟩, some ⟨2, pl⟩, some ⟨4, [.int .i64 0, .int .i64 7, .slice false (.rw 4) 0 n, .int .i64 z]⟩, some ⟨2, subL pl 0 (m * 2)⟩, some ⟨1, subL dl 0 n⟩] := by
  obtain ⟨⟨k1, k2⟩, _, _⟩ := cpC_iff.1 h1
  have f1 := (clOk_iff.1 k1).2.2
  have f2 := (clOk_iff.1 k2).2.2
  have g1 := bnds_sub (a := 0) (b := m * 2) f1
  have g2 := bnds_sub (a := 0) (b := n) f2
  refine (of_run G B z m n pl dl h1 h2).view fun v H' hj => ⟨.tup [.agg [.int .i64 0, .slice false (.rw 2) 0 1, .slice false (.rw 3) 0 m], .int .i64 0], [some ⟨1, dl⟩, some ⟨2, pl⟩, some ⟨4, [.int .i64 0, .int .i64 7, .slice false (.rw 4) 0 n, .int .i64 z]⟩, some ⟨2, subL pl 0 (m * 2)⟩, some ⟨1, subL dl 0 n⟩], ⟨rfl, rfl⟩, ?_⟩
  obtain ⟨rfl, hH⟩ := hj.1 hm
  show View 2 [.tup [.agg [.int .i64 0, .slice false (.rw 2) 0 1, .slice false (.rw 3) 0 m], .int .i64 0]] [some ⟨1, dl⟩, some ⟨2, pl⟩, some ⟨4, [.int .i64 0, .int .i64 7, .slice false (.rw 4) 0 n, .int .i64 z]⟩, some ⟨2, subL pl 0 (m * 2)⟩, some ⟨1, subL dl 0 n⟩] [.tup [.agg [.int .i64 0, .slice false (.rw 4) 0 1, .slice false (.rw 5) 0 m], .int .i64 0]] H'
  have fix : ∀ i, i < 2 → [0, 1, 4, 5, 6].getD i 0 = i := fun i hi => by
    match i, hi with
    | 0, _ => rfl
    | 1, _ => rfl
  refine View.renM (H := [some ⟨1, dl⟩, some ⟨2, pl⟩, some ⟨4, [.int .i64 0, .int .i64 7, .slice false (.rw 4) 0 n, .int .i64 z]⟩, some ⟨2, subL pl 0 (m * 2)⟩, some ⟨1, subL dl 0 n⟩]) (θ := [0, 1, 4, 5, 6]) (by simp) fix (by decide) ⟨⟨bnds_mono (Nat.zero_le _) _ f2, ?_⟩, ⟨bnds_mono (Nat.zero_le _) _ f1, ?_⟩, ⟨by simp [bnds, bnd], ?_⟩, ⟨bnds_mono (Nat.zero_le _) _ g1, ?_⟩, ⟨bnds_mono (Nat.zero_le _) _ g2, ?_⟩, trivial⟩ (by simp [bnds, bnd]) (by simp [rens, ren, wk])
  · rw [rens_flat _ _ f2]; exact take_at hH (by omega)
  · rw [rens_flat _ _ f1]; exact take_at hH (by omega)
  · exact take_at hH (by omega)
  · rw [rens_flat _ _ g1]; exact take_at hH (by omega)
  · rw [rens_flat _ _ g2]; exact take_at hH (by omega)
theorem of_no (G : Nat → List AV) (B : Nat) (z : Int) (m n : Nat) (pl dl : List AV) (h1 : cpC m n pl dl = true) (h2 : pl1U [.agg (subL pl 0 (m * 2)), .int .i64 (m : Int)] = true) (hm : mayI 0 (cs1 0 7 n z) 1 (subL pl 0 (m * 2)) m = false) :
    ACalls (⟨Try.prog, G, B⟩ : Ctx) 17 [.slice false (.rw 0) 0 n, .slice false (.rw 1) 0 m, .int .i64 z] [some ⟨1, dl⟩, some ⟨2, pl⟩] fun v H => v = .tup [.agg [.int .i64 0, .nils, .nils], .int .i64 2] ∧ H = [some ⟨1, dl⟩, some ⟨2, pl⟩] := by
  obtain ⟨⟨k1, k2⟩, _, _⟩ := cpC_iff.1 h1
  have f1 := (clOk_iff.1 k1).2.2
  have f2 := (clOk_iff.1 k2).2.2
  refine (of_run G B z m n pl dl h1 h2).view fun v H' hj => ⟨.tup [.agg [.int .i64 0, .nils, .nils], .int .i64 2], [some ⟨1, dl⟩, some ⟨2, pl⟩], ⟨rfl, rfl⟩, ?_⟩
  obtain ⟨rfl, hH⟩ := hj.2 hm
  show View 2 [.tup [.agg [.int .i64 0, .nils, .nils], .int .i64 2]] [some ⟨1, dl⟩, some ⟨2, pl⟩] [.tup [.agg [.int .i64 0, .nils, .nils], .int .i64 2]] H'
  have fix : ∀ i, i < 2 → [0, 1].getD i 0 = i := fun i hi => by
    match i, hi with
    | 0, _ => rfl
    | 1, _ => rfl
  refine View.renM (H := [some ⟨1, dl⟩, some ⟨2, pl⟩]) (θ := [0, 1]) (by simp) fix (by decide) ⟨⟨bnds_mono (Nat.zero_le _) _ f2, ?_⟩, ⟨bnds_mono (Nat.zero_le _) _ f1, ?_⟩, trivial⟩ (by simp [bnds, bnd]) (by simp [rens, ren, wk])
  · rw [rens_flat _ _ f2]; exact take_at hH (by omega)
  · rw [rens_flat _ _ f1]; exact take_at hH (by omega)
end Go.Am
