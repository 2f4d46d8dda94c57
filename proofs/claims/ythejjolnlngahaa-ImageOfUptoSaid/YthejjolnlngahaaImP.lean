/-
  Images: 'copied' of an image of one section.
-/
import Derived.Test.YthejjolnlngahaaImO
namespace Go.Am
open Go.Proofs
set_option maxRecDepth 100000
theorem cp_b0 (G : Nat → List AV) (s a r z : Int) (m n : Nat) (pl dl : List AV) (Q : Ex → List AV → Hp → Prop) (R : AV → Hp → Prop) : vT G Q R (dloop (Dc Try.prog [] progC [] 3) 300 20 3 (loopN Try.f33 0) 32 [1, 2, 14, 15] [.ptr (.rw 3) (.lit 0), .ptr (.rw 4) (.lit 0), .int .i64 (.lit 1), .int .i64 (.lit 0)] [some ⟨4, .of [.int .i64 (.var 3 a), .int .i64 (.var 4 r), .slice false (.rw 2) (.lit 0) (.var 5 n), .int .i64 (.var 6 z)]⟩, some ⟨2, .var 7 pl⟩, some ⟨1, .var 8 dl⟩, some ⟨1, .of [.int .i64 (.var 1 s), .slice false (.rw 5) (.lit 0) (.lit 1), .slice false (.rw 6) (.lit 0) (.var 2 m)]⟩, some ⟨1, .of [.int .i64 (.lit 0), .nils, .nils]⟩, some ⟨4, .of [.int .i64 (.var 3 a), .int .i64 (.var 4 r), .slice false (.rw 2) (.lit 0) (.var 5 n), .int .i64 (.var 6 z)]⟩, some ⟨2, .sub (.var 7 pl) (.lit 0) (.mul (.var 2 m) 2)⟩]) = (
    (clOk 1) [.agg dl, .int .i64 (((n : Nat) : Int))] = true ∧
    Q .normal [.ptr (.rw 3) (0), .ptr (.rw 4) (0), .int .i64 (1), .int .i64 (1)] [some ⟨4, ([.int .i64 (a), .int .i64 (r), .slice false (.rw 2) (0) (n), .int .i64 (z)] : List AV)⟩, some ⟨2, pl⟩, some ⟨1, dl⟩, some ⟨1, ([.int .i64 (s), .slice false (.rw 5) (0) (1), .slice false (.rw 6) (0) (m)] : List AV)⟩, some ⟨1, ([.int .i64 (0), .nils, .nils] : List AV)⟩, some ⟨4, ([.int .i64 (a), .int .i64 (r), .slice false (.rw 7) (0) (n), .int .i64 (z)] : List AV)⟩, some ⟨2, (subL pl (0) ((m) * 2))⟩, some ⟨1, (subL dl (0) (n))⟩]) := by kernel_rfl
theorem cp_b1 (G : Nat → List AV) (s a r z : Int) (m n : Nat) (pl dl : List AV) (Q : Ex → List AV → Hp → Prop) (R : AV → Hp → Prop) : vT G Q R (dloop (Dc Try.prog [] progC [] 3) 300 20 3 (loopN Try.f33 0) 32 [1, 2, 14, 15] [.ptr (.rw 3) (.lit 0), .ptr (.rw 4) (.lit 0), .int .i64 (.lit 1), .int .i64 (.lit 1)] [some ⟨4, .of [.int .i64 (.var 3 a), .int .i64 (.var 4 r), .slice false (.rw 2) (.lit 0) (.var 5 n), .int .i64 (.var 6 z)]⟩, some ⟨2, .var 7 pl⟩, some ⟨1, .var 8 dl⟩, some ⟨1, .of [.int .i64 (.var 1 s), .slice false (.rw 5) (.lit 0) (.lit 1), .slice false (.rw 6) (.lit 0) (.var 2 m)]⟩, some ⟨1, .of [.int .i64 (.lit 0), .nils, .nils]⟩, some ⟨4, .of [.int .i64 (.var 3 a), .int .i64 (.var 4 r), .slice false (.rw 7) (.lit 0) (.var 5 n), .int .i64 (.var 6 z)]⟩, some ⟨2, .sub (.var 7 pl) (.lit 0) (.mul (.var 2 m) 2)⟩, some ⟨1, .sub (.var 8 dl) (.lit 0) (.var 5 n)⟩]) = (
    Q (.exit 0) [.ptr (.rw 3) (0), .ptr (.rw 4) (0), .int .i64 (1), .int .i64 (1)] [some ⟨4, ([.int .i64 (a), .int .i64 (r), .slice false (.rw 2) (0) (n), .int .i64 (z)] : List AV)⟩, some ⟨2, pl⟩, some ⟨1, dl⟩, some ⟨1, ([.int .i64 (s), .slice false (.rw 5) (0) (1), .slice false (.rw 6) (0) (m)] : List AV)⟩, some ⟨1, ([.int .i64 (0), .nils, .nils] : List AV)⟩, some ⟨4, ([.int .i64 (a), .int .i64 (r), .slice false (.rw 7) (0) (n), .int .i64 (z)] : List AV)⟩, some ⟨2, (subL pl (0) ((m) * 2))⟩, some ⟨1, (subL dl (0) (n))⟩]) := by kernel_rfl
def cpC (m n : Nat) (pl dl : List AV) : Bool := (clOk 2 [.agg pl, .int .i64 (m : Int)] && clOk 1 [.agg dl, .int .i64 (n : Int)]) && (noRcds pl && noRcds dl)
def cpQ (s a r z : Int) (m n : Nat) (pl dl : List AV) : List AV → Bool := stQ (cpC m n pl dl) [.ptr (.rw 3) 0, .ptr (.rw 4) 0, .int .i64 1, .int .i64 0] [some ⟨4, [.int .i64 a, .int .i64 r, .slice false (.rw 2) 0 n, .int .i64 z]⟩, some ⟨2, pl⟩, some ⟨1, dl⟩, some ⟨1, [.int .i64 s, .slice false (.rw 5) 0 1, .slice false (.rw 6) 0 m]⟩, some ⟨1, [.int .i64 0, .nils, .nils]⟩, some ⟨4, [.int .i64 a, .int .i64 r, .slice false (.rw 2) 0 n, .int .i64 z]⟩, some ⟨2, subL pl 0 (m * 2)⟩]
def cpO (s a r z : Int) (m n : Nat) (pl dl : List AV) : LOut := .one (.exit 0) [.ptr (.rw 3) (.lit 0), .ptr (.rw 4) (.lit 0), .undef, .undef] [some ⟨4, .of [.int .i64 (.var 3 a), .int .i64 (.var 4 r), .slice false (.rw 2) (.lit 0) (.var 5 n), .int .i64 (.var 6 z)]⟩, some ⟨2, .var 7 pl⟩, some ⟨1, .var 8 dl⟩, some ⟨1, .of [.int .i64 (.var 1 s), .slice false (.rw 5) (.lit 0) (.lit 1), .slice false (.rw 6) (.lit 0) (.var 2 m)]⟩, some ⟨1, .of [.int .i64 (.lit 0), .nils, .nils]⟩, some ⟨4, .of [.int .i64 (.var 3 a), .int .i64 (.var 4 r), .slice false (.rw 7) (.lit 0) (.var 5 n), .int .i64 (.var 6 z)]⟩, some ⟨2, .sub (.var 7 pl) (.lit 0) (.mul (.var 2 m) 2)⟩, some ⟨1, .sub (.var 8 dl) (.lit 0) (.var 5 n)⟩]
theorem t33 (G : Nat → List AV) (s a r z : Int) (m n : Nat) (pl dl : List AV) (Q : Ex → List AV → Hp → Prop) (R : AV → Hp → Prop) : vT G Q R (dcall (Dc Try.prog [] progC [(DLat 1743 (cpQ s a r z m n pl dl) 0 32 [1, 2, 14, 15] (cpO s a r z m n pl dl))] 3) 300 20 Try.f33 [.agg (.of [.int .i64 (.var 1 s), .slice false (.rw 0) (.lit 0) (.lit 1), .slice false (.rw 1) (.lit 0) (.var 2 m)])] [some ⟨4, .of [.int .i64 (.var 3 a), .int .i64 (.var 4 r), .slice false (.rw 2) (.lit 0) (.var 5 n), .int .i64 (.var 6 z)]⟩, some ⟨2, .var 7 pl⟩, some ⟨1, .var 8 dl⟩] 8) = (
    flU [.agg dl] = true ∧
    (clOk 2) [.agg pl, .int .i64 (((m : Nat) : Int))] = true ∧
    (cpQ s a r z m n pl dl) [.agg ([.ptr (.rw 3) (0), .ptr (.rw 4) (0), .int .i64 (1), .int .i64 (0)] : List AV), .agg ([.tup [.int .i64 (4), .agg ([.int .i64 (a), .int .i64 (r), .slice false (.rw 2) (0) (n), .int .i64 (z)] : List AV)], .tup [.int .i64 (2), .agg pl], .tup [.int .i64 (1), .agg dl], .tup [.int .i64 (1), .agg ([.int .i64 (s), .slice false (.rw 5) (0) (1), .slice false (.rw 6) (0) (m)] : List AV)], .tup [.int .i64 (1), .agg ([.int .i64 (0), .nils, .nils] : List AV)], .tup [.int .i64 (4), .agg ([.int .i64 (a), .int .i64 (r), .slice false (.rw 2) (0) (n), .int .i64 (z)] : List AV)], .tup [.int .i64 (2), .agg (subL pl (0) ((m) * 2))]] : List AV)] = true ∧
    R (.agg ([.int .i64 (s), .slice false (.rw 5) (0) (1), .slice false (.rw 6) (0) (m)] : List AV)) [some ⟨4, ([.int .i64 (a), .int .i64 (r), .slice false (.rw 2) (0) (n), .int .i64 (z)] : List AV)⟩, some ⟨2, pl⟩, some ⟨1, dl⟩, some ⟨1, ([.int .i64 (s), .slice false (.rw 5) (0) (1), .slice false (.rw 6) (0) (m)] : List AV)⟩, some ⟨1, ([.int .i64 (s), .slice false (.rw 5) (0) (1), .slice false (.rw 6) (0) (m)] : List AV)⟩, some ⟨4, ([.int .i64 (a), .int .i64 (r), .slice false (.rw 7) (0) (n), .int .i64 (z)] : List AV)⟩, some ⟨2, (subL pl (0) ((m) * 2))⟩, some ⟨1, (subL dl (0) (n))⟩]) := by kernel_rfl
theorem cpC_iff {m n : Nat} {pl dl : List AV} : cpC m n pl dl = true ↔ (clOk 2 [.agg pl, .int .i64 (m : Int)] = true ∧ clOk 1 [.agg dl, .int .i64 (n : Int)] = true) ∧ noRcds pl = true ∧ noRcds dl = true := by unfold cpC; simp only [Bool.and_eq_true]
theorem noRcds_sub {l : List AV} {a b : Nat} (h : noRcds l = true) : noRcds (subL l a b) = true := by
  have key : ∀ {l : List AV}, noRcds l = true → ∀ v ∈ l, noRcd v = true := by
    intro l
    induction l with
    | nil => intro _ v hv; simp at hv
    | cons x l ih =>
      intro h v hv
      simp only [noRcds, Bool.and_eq_true] at h
      rcases List.mem_cons.1 hv with rfl | hv
      · exact h.1
      · exact ih h.2 v hv
  exact noRcds_of fun v hv => key h v (List.mem_of_mem_drop (List.mem_of_mem_take hv))
theorem cpL_ok (G : Nat → List AV) (B : Nat) (s a r z : Int) (m n : Nat) (pl dl : List AV) : DLoopOk (⟨Try.prog, G, B⟩ : Ctx) 3 (loopN Try.f33 0) (DLat 1743 (cpQ s a r z m n pl dl) 0 32 [1, 2, 14, 15] (cpO s a r z m n pl dl)) := by
  refine DLat_ok rfl fun hc => ?_
  obtain ⟨⟨h1, h2⟩, h3, h4⟩ := cpC_iff.1 hc
  refine scan 1 (fun i => [.ptr (.rw 3) 0, .ptr (.rw 4) 0, .int .i64 1, .int .i64 (i : Int)]) (fun i => match i with
    | 0 => [some ⟨4, [.int .i64 a, .int .i64 r, .slice false (.rw 2) 0 n, .int .i64 z]⟩, some ⟨2, pl⟩, some ⟨1, dl⟩, some ⟨1, [.int .i64 s, .slice false (.rw 5) 0 1, .slice false (.rw 6) 0 m]⟩, some ⟨1, [.int .i64 0, .nils, .nils]⟩, some ⟨4, [.int .i64 a, .int .i64 r, .slice false (.rw 2) 0 n, .int .i64 z]⟩, some ⟨2, subL pl 0 (m * 2)⟩]
    | _ + 1 => [some ⟨4, [.int .i64 a, .int .i64 r, .slice false (.rw 2) 0 n, .int .i64 z]⟩, some ⟨2, pl⟩, some ⟨1, dl⟩, some ⟨1, [.int .i64 s, .slice false (.rw 5) 0 1, .slice false (.rw 6) 0 m]⟩, some ⟨1, [.int .i64 0, .nils, .nils]⟩, some ⟨4, [.int .i64 a, .int .i64 r, .slice false (.rw 7) 0 n, .int .i64 z]⟩, some ⟨2, subL pl 0 (m * 2)⟩, some ⟨1, subL dl 0 n⟩]) fun i hi => ?_
  match i, hi with
  | 0, _ =>
    refine dloop_ok (C := (⟨Try.prog, G, B⟩ : Ctx)) (by rw [show loopsOf (loopN Try.f33 0) = [] by kernel_rfl]; exact dgood (inl := []) (ls := []) (M := 3) (mixI G B) (by kernel_rfl) (progC_ok G B) .nil) (fuel := 300) (n0 := 20) (m := 3) (c := loopN Try.f33 0) (vs := [.ptr (.rw 3) (.lit 0), .ptr (.rw 4) (.lit 0), .int .i64 (.lit 1), .int .i64 (.lit 0)]) (H := [some ⟨4, .of [.int .i64 (.var 3 a), .int .i64 (.var 4 r), .slice false (.rw 2) (.lit 0) (.var 5 n), .int .i64 (.var 6 z)]⟩, some ⟨2, .var 7 pl⟩, some ⟨1, .var 8 dl⟩, some ⟨1, .of [.int .i64 (.var 1 s), .slice false (.rw 5) (.lit 0) (.lit 1), .slice false (.rw 6) (.lit 0) (.var 2 m)]⟩, some ⟨1, .of [.int .i64 (.lit 0), .nils, .nils]⟩, some ⟨4, .of [.int .i64 (.var 3 a), .int .i64 (.var 4 r), .slice false (.rw 2) (.lit 0) (.var 5 n), .int .i64 (.var 6 z)]⟩, some ⟨2, .sub (.var 7 pl) (.lit 0) (.mul (.var 2 m) 2)⟩]) (by simp) ?_
    rw [cp_b0]
    exact ⟨h2, by omega, .inl ⟨rfl, rfl⟩⟩
  | 1, _ =>
    refine dloop_ok (C := (⟨Try.prog, G, B⟩ : Ctx)) (by rw [show loopsOf (loopN Try.f33 0) = [] by kernel_rfl]; exact dgood (inl := []) (ls := []) (M := 3) (mixI G B) (by kernel_rfl) (progC_ok G B) .nil) (fuel := 300) (n0 := 20) (m := 3) (c := loopN Try.f33 0) (vs := [.ptr (.rw 3) (.lit 0), .ptr (.rw 4) (.lit 0), .int .i64 (.lit 1), .int .i64 (.lit 1)]) (H := [some ⟨4, .of [.int .i64 (.var 3 a), .int .i64 (.var 4 r), .slice false (.rw 2) (.lit 0) (.var 5 n), .int .i64 (.var 6 z)]⟩, some ⟨2, .var 7 pl⟩, some ⟨1, .var 8 dl⟩, some ⟨1, .of [.int .i64 (.var 1 s), .slice false (.rw 5) (.lit 0) (.lit 1), .slice false (.rw 6) (.lit 0) (.var 2 m)]⟩, some ⟨1, .of [.int .i64 (.lit 0), .nils, .nils]⟩, some ⟨4, .of [.int .i64 (.var 3 a), .int .i64 (.var 4 r), .slice false (.rw 7) (.lit 0) (.var 5 n), .int .i64 (.var 6 z)]⟩, some ⟨2, .sub (.var 7 pl) (.lit 0) (.mul (.var 2 m) 2)⟩, some ⟨1, .sub (.var 8 dl) (.lit 0) (.var 5 n)⟩]) (by simp) ?_
    rw [cp_b1]
    exact ⟨rfl, .inl ⟨by simp [vVs, vV, vR, vN, wk], rfl⟩⟩
theorem cp_call (G : Nat → List AV) (B : Nat) (s a r z : Int) (m n : Nat) (pl dl : List AV) (hc : cpC m n pl dl = true) : ACalls (⟨Try.prog, G, B⟩ : Ctx) 33 [.agg [.int .i64 s, .slice false (.rw 0) 0 1, .slice false (.rw 1) 0 m]] [some ⟨4, [.int .i64 a, .int .i64 r, .slice false (.rw 2) 0 n, .int .i64 z]⟩, some ⟨2, pl⟩, some ⟨1, dl⟩] fun v H => v = .agg [.int .i64 s, .slice false (.rw 3) 0 1, .slice false (.rw 4) 0 m] ∧ H = [some ⟨4, [.int .i64 a, .int .i64 r, .slice false (.rw 2) 0 n, .int .i64 z]⟩, some ⟨2, pl⟩, some ⟨1, dl⟩, some ⟨4, [.int .i64 a, .int .i64 r, .slice false (.rw 5) 0 n, .int .i64 z]⟩, some ⟨2, subL pl 0 (m * 2)⟩, some ⟨1, subL dl 0 n⟩] := by
  obtain ⟨⟨h1, h2⟩, h3, h4⟩ := cpC_iff.1 hc
  have f1 := (clOk_iff.1 h1).2.2
  have f2 := (clOk_iff.1 h2).2.2
  have g1 := bnds_sub (a := 0) (b := m * 2) f1
  have g2 := bnds_sub (a := 0) (b := n) f2
  have := dcall_ok (C := (⟨Try.prog, G, B⟩ : Ctx)) (fuel := 300) (n0 := 20) (f := 33) (fn := Try.f33) (args := [.agg (.of [.int .i64 (.var 1 s), .slice false (.rw 0) (.lit 0) (.lit 1), .slice false (.rw 1) (.lit 0) (.var 2 m)])]) (H := [some ⟨4, .of [.int .i64 (.var 3 a), .int .i64 (.var 4 r), .slice false (.rw 2) (.lit 0) (.var 5 n), .int .i64 (.var 6 z)]⟩, some ⟨2, .var 7 pl⟩, some ⟨1, .var 8 dl⟩]) (keep := 8)
    (R := fun v H => v = .agg [.int .i64 s, .slice false (.rw 5) 0 1, .slice false (.rw 6) 0 m] ∧ H = [some ⟨4, [.int .i64 a, .int .i64 r, .slice false (.rw 2) 0 n, .int .i64 z]⟩, some ⟨2, pl⟩, some ⟨1, dl⟩, some ⟨1, [.int .i64 s, .slice false (.rw 5) 0 1, .slice false (.rw 6) 0 m]⟩, some ⟨1, [.int .i64 s, .slice false (.rw 5) 0 1, .slice false (.rw 6) 0 m]⟩, some ⟨4, [.int .i64 a, .int .i64 r, .slice false (.rw 7) 0 n, .int .i64 z]⟩, some ⟨2, subL pl 0 (m * 2)⟩, some ⟨1, subL dl 0 n⟩]) (dgood (inl := []) (ls := [(DLat 1743 (cpQ s a r z m n pl dl) 0 32 [1, 2, 14, 15] (cpO s a r z m n pl dl))]) (M := 3) (mixI G B) (by kernel_rfl) (progC_ok G B) (.cast (.cons (i := 0) (by kernel_rfl) rfl (cpL_ok G B s a r z m n pl dl) .nil) (by kernel_rfl))) (by kernel_rfl) (by kernel_rfl) (by kernel_rfl) (by
    rw [t33]
    exact ⟨f2, h1, stQ_refl hc rfl (by simp [encHB, noRcds, noRcd, h3, h4, noRcds_sub]), rfl, rfl⟩)
  refine this.view fun v H' hj => ⟨.agg [.int .i64 s, .slice false (.rw 3) 0 1, .slice false (.rw 4) 0 m], [some ⟨4, [.int .i64 a, .int .i64 r, .slice false (.rw 2) 0 n, .int .i64 z]⟩, some ⟨2, pl⟩, some ⟨1, dl⟩, some ⟨4, [.int .i64 a, .int .i64 r, .slice false (.rw 5) 0 n, .int .i64 z]⟩, some ⟨2, subL pl 0 (m * 2)⟩, some ⟨1, subL dl 0 n⟩], ⟨rfl, rfl⟩, ?_⟩
  obtain ⟨rfl, hH⟩ := hj
  show View 3 [.agg [.int .i64 s, .slice false (.rw 3) 0 1, .slice false (.rw 4) 0 m]] [some ⟨4, [.int .i64 a, .int .i64 r, .slice false (.rw 2) 0 n, .int .i64 z]⟩, some ⟨2, pl⟩, some ⟨1, dl⟩, some ⟨4, [.int .i64 a, .int .i64 r, .slice false (.rw 5) 0 n, .int .i64 z]⟩, some ⟨2, subL pl 0 (m * 2)⟩, some ⟨1, subL dl 0 n⟩] [.agg [.int .i64 s, .slice false (.rw 5) 0 1, .slice false (.rw 6) 0 m]] H'
  have fix : ∀ i, i < 3 → [0, 1, 2, 5, 6, 7].getD i 0 = i := fun i hi => by
    match i, hi with
    | 0, _ => rfl
    | 1, _ => rfl
    | 2, _ => rfl
  refine View.renM (H := [some ⟨4, [.int .i64 a, .int .i64 r, .slice false (.rw 2) 0 n, .int .i64 z]⟩, some ⟨2, pl⟩, some ⟨1, dl⟩, some ⟨4, [.int .i64 a, .int .i64 r, .slice false (.rw 5) 0 n, .int .i64 z]⟩, some ⟨2, subL pl 0 (m * 2)⟩, some ⟨1, subL dl 0 n⟩]) (θ := [0, 1, 2, 5, 6, 7]) (by simp) fix (by decide) ⟨⟨by simp [bnds, bnd], ?_⟩, ⟨bnds_mono (Nat.zero_le _) _ f1, ?_⟩, ⟨bnds_mono (Nat.zero_le _) _ f2, ?_⟩, ⟨by simp [bnds, bnd], ?_⟩, ⟨bnds_mono (Nat.zero_le _) _ g1, ?_⟩, ⟨bnds_mono (Nat.zero_le _) _ g2, ?_⟩, trivial⟩ (by simp [bnds, bnd]) (by simp [rens, ren, wk])
  · exact take_at hH (by omega)
  · rw [rens_flat _ _ f1]; exact take_at hH (by omega)
  · rw [rens_flat _ _ f2]; exact take_at hH (by omega)
  · exact take_at hH (by omega)
  · rw [rens_flat _ _ g1]; exact take_at hH (by omega)
  · rw [rens_flat _ _ g2]; exact take_at hH (by omega)
end Go.Am
