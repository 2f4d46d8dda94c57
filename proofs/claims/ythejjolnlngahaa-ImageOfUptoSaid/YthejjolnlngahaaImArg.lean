/-
  Images: what is handed in.
-/
import Derived.Test.YthejjolnlngahaaImOf
import Derived.Test.YthejjolnlngahaaBase6
namespace Go.Am
open Go.ChangeShapes Go.WideShapes Go.ChangeAt Go.RowKit Go.Proofs
set_option maxRecDepth 100000
section
variable {H : Type} {P : Program} {L : List RoE} {n : Nat} {t e : TypeId} {cs : List AV} {d : DataW H} {a : AV}
def fldIs (P : Program) (e : TypeId) (i o : Nat) (t : TypeId) : Bool :=
  match P.underlying e with
  | some (.struct fs) => match fs[i]? with
    | some f => Nat.beq f.offset o && Nat.beq f.type t
    | none => false
  | _ => false
theorem TyD.fld {i o : Nat} (hf : fldIs P e i o t = true) (h : TyD P L (n + 1) e cs d) : ∃ x : DataW H, TyD P L n t ((cs.drop o).take (P.cellsOf t)) x := by
  unfold fldIs at hf
  split at hf
  · rename_i fs hu
    split at hf
    · rename_i f hi
      simp only [Bool.and_eq_true] at hf
      obtain ⟨g1, ds, g2, g3, g4⟩ := TyD.asStruct hu h
      have hl : i < ds.length := by rw [g3]; exact (Array.getElem?_eq_some_iff.1 hi).1
      have := g4 i f ds[i] hi (List.getElem?_eq_getElem hl)
      rw [Nat.eq_of_beq_eq_true hf.1, Nat.eq_of_beq_eq_true hf.2] at this
      exact ⟨_, this⟩
    · simp at hf
  · simp at hf
theorem TyD.flen {i o : Nat} (hf : fldIs P e i o t = true) (h : TyD P L (n + 1) e cs d) : cs.length = P.cellsOf e := by
  unfold fldIs at hf
  split at hf
  · rename_i fs hu
    exact (TyD.asStruct hu h).1
  · simp at hf
theorem one_at {l : List AV} {o : Nat} {v : AV} (h : (l.drop o).take 1 = [v]) : l[o]? = some v := by
  have := congrArg (fun l : List AV => l[0]?) h
  simpa only [List.getElem?_take, List.getElem?_drop, List.getElem?_cons_zero, Nat.add_zero, Nat.lt_one_iff, if_true] using this
theorem TyD.fldInt {i o : Nat} {k : IntKind} (hf : fldIs P e i o t = true) (ht : P.underlying t = some (.int k)) (hc : P.cellsOf t = 1) (h : TyD P L (n + 2) e cs d) : ∃ x, cs[o]? = some (.int k x) ∧ (Lit.int k x).wf = true := by
  obtain ⟨_, h1⟩ := TyD.fld hf h
  rw [hc] at h1
  obtain ⟨x, e1, e2, _⟩ := TyD.asInt ht h1
  exact ⟨x, one_at e1, e2⟩
theorem TyD.fldBool {i o : Nat} (hf : fldIs P e i o t = true) (ht : P.underlying t = some .bool) (hc : P.cellsOf t = 1) (h : TyD P L (n + 2) e cs d) : ∃ x, cs[o]? = some (.bool x) := by
  obtain ⟨_, h1⟩ := TyD.fld hf h
  rw [hc] at h1
  obtain ⟨x, e1, _⟩ := TyD.asBool ht h1
  exact ⟨x, one_at e1⟩
theorem part_at {l : List AV} {o z j : Nat} (hj : j < z) : ((l.drop o).take z)[j]? = l[o + j]? := by
  rw [List.getElem?_take, if_pos hj, List.getElem?_drop]
end
section
variable {H : Type} {L : List RoE} {a : AV} {d : DataW H} {cs : List AV}
/-- a list of bytes -/
theorem im_u8 {n : Nat} (h : TyD Try.prog L (n + 2) 37 [a] d) : ∃ k m, (∀ (ρ : Env) v, VR ρ a v → VR ρ (.slice true (.ro k) 0 m) v) ∧ (GL L k).length = m ∧ u8s (GL L k) = true := by
  rcases TyD.asInts (n := n) (kd := .u8) (e := 5) (by kernel_rfl) (by kernel_rfl) (by kernel_rfl) h with ⟨h1, _⟩ | ⟨k, ds, sp, g1, rfl, g3, g4⟩
  · simp only [List.cons.injEq, and_true] at h1
    subst h1
    exact ⟨L.length, 0, fun ρ v hv => VR_nils _ _ hv, by rw [GL_out (Nat.le_refl _)]; rfl, by rw [GL_out (Nat.le_refl _)]; rfl⟩
  · simp only [List.cons.injEq, and_true] at g1
    subst g1
    refine ⟨k, ds.length, fun ρ v hv => VR_may hv, g4.len, ?_⟩
    unfold u8s
    rw [List.all_eq_true]
    intro v hv
    obtain ⟨i, rfl⟩ := g4.flat v hv
    rfl
/-- places -/
theorem im_pls {n : Nat} (h : TyD Try.prog L (n + 3) 23 [a] d) : ∃ k m, (∀ (ρ : Env) v, VR ρ a v → VR ρ (.slice true (.ro k) 0 m) v) ∧ (GL L k).length = m * 2 ∧ plsOk (GL L k) m = true ∧ (GL L k).all plA = true := by
  rcases TyD.asSlice (e := 40) (by kernel_rfl) h with ⟨h1, _⟩ | ⟨k, ds, sp, en, h1, h2, h3, h4, h5, h6⟩
  · simp only [List.cons.injEq, and_true] at h1
    subst h1
    exact ⟨L.length, 0, fun ρ v hv => VR_nils _ _ hv, by rw [GL_out (Nat.le_refl _)]; rfl, rfl, by rw [GL_out (Nat.le_refl _)]; rfl⟩
  · simp only [List.cons.injEq, and_true] at h1
    subst h1
    have hz : Try.prog.cellsOf 40 = 2 := by kernel_rfl
    rw [hz] at h4 h6
    have key : ∀ j, j < ds.length → (∃ x, en.cells[j * 2]? = some (.int .i64 x) ∧ (Lit.int .i64 x).wf = true) ∧ ∃ b, en.cells[j * 2 + 1]? = some (.bool b) := fun j hj => by
      have h7 := h6 j ds[j] (List.getElem?_eq_getElem hj)
      obtain ⟨x, e1, e2⟩ := TyD.fldInt (i := 0) (o := 0) (t := 3) (k := .i64) (by kernel_rfl) (by kernel_rfl) (by kernel_rfl) h7
      obtain ⟨b, e3⟩ := TyD.fldBool (i := 1) (o := 1) (t := 4) (by kernel_rfl) (by kernel_rfl) (by kernel_rfl) h7
      rw [part_at (by omega)] at e1 e3
      exact ⟨⟨x, e1, e2⟩, b, e3⟩
    refine ⟨k, ds.length, fun ρ v hv => VR_may hv, by rw [GL_eq h3, h4], allTo_iff.2 fun j hj => ?_, ?_⟩
    · obtain ⟨⟨x, e1, e2⟩, b, e3⟩ := key j hj
      have w := wf_i64 e2
      unfold plOk xP
      rw [GL_eq h3]
      have g : getI en.cells (j * 2) = x := by simp [getI, e1]
      rw [g]
      simp only [leafsOk, leafOk, isI, isB, e1, e3, Bool.and_eq_true, decide_eq_true_eq]
      exact ⟨by simp, w.1, w.2⟩
    · rw [GL_eq h3, List.all_eq_true]
      intro v hv
      obtain ⟨j, hj⟩ := List.getElem?_of_mem hv
      have hlt : j < ds.length * 2 := by rw [← h4]; exact (List.getElem?_eq_some_iff.1 hj).1
      obtain ⟨⟨x, e1, _⟩, b, e3⟩ := key (j / 2) (by omega)
      by_cases hp : j % 2 = 0
      · rw [show j / 2 * 2 = j by omega, hj] at e1
        simp only [Option.some.injEq] at e1; subst e1; rfl
      · rw [show j / 2 * 2 + 1 = j by omega, hj] at e3
        simp only [Option.some.injEq] at e3; subst e3; rfl
/-- sections -/
theorem im_secs {n : Nat} (h : TyD Try.prog L (n + 4) 22 [a] d) : ∃ k c, (∀ (ρ : Env) v, VR ρ a v → VR ρ (.slice true (.ro k) 0 c) v) ∧ secsOk (GL L k) c = true ∧ datsOk (GL L) (GL L k) c = true := by
  rcases TyD.asSlice (e := 45) (by kernel_rfl) h with ⟨h1, _⟩ | ⟨k, ds, sp, en, h1, h2, h3, h4, h5, h6⟩
  · simp only [List.cons.injEq, and_true] at h1
    subst h1
    exact ⟨L.length, 0, fun ρ v hv => VR_nils _ _ hv, rfl, rfl⟩
  · simp only [List.cons.injEq, and_true] at h1
    subst h1
    have hz : Try.prog.cellsOf 45 = 4 := by kernel_rfl
    rw [hz] at h4 h6
    have key : ∀ j, j < ds.length → (∃ x, en.cells[j * 4]? = some (.int .i64 x)) ∧ (∃ x, en.cells[j * 4 + 1]? = some (.int .i64 x)) ∧ (en.cells[j * 4 + 2]? = some .nils ∨ ∃ k' m', en.cells[j * 4 + 2]? = some (.slice false (.ro k') 0 m') ∧ IntsAt L .u8 k' m') ∧ ∃ x, en.cells[j * 4 + 3]? = some (.int .i64 x) := fun j hj => by
      have h7 := h6 j ds[j] (List.getElem?_eq_getElem hj)
      obtain ⟨x, e1, _⟩ := TyD.fldInt (i := 0) (o := 0) (t := 3) (k := .i64) (by kernel_rfl) (by kernel_rfl) (by kernel_rfl) h7
      obtain ⟨r, e2, _⟩ := TyD.fldInt (i := 1) (o := 1) (t := 3) (k := .i64) (by kernel_rfl) (by kernel_rfl) (by kernel_rfl) h7
      obtain ⟨_, e3⟩ := TyD.fld (i := 2) (o := 2) (t := 37) (by kernel_rfl) h7
      obtain ⟨z, e4, _⟩ := TyD.fldInt (i := 3) (o := 3) (t := 3) (k := .i64) (by kernel_rfl) (by kernel_rfl) (by kernel_rfl) h7
      rw [part_at (by omega)] at e1 e2 e4
      rw [show Try.prog.cellsOf 37 = 1 by kernel_rfl] at e3
      have at2 : ∀ {v : AV}, ((((en.cells.drop (j * 4)).take 4).drop 2).take 1) = [v] → en.cells[j * 4 + 2]? = some v := fun hv => by
        have := one_at hv
        rwa [part_at (by omega)] at this
      refine ⟨⟨x, e1⟩, ⟨r, e2⟩, ?_, z, e4⟩
      rcases TyD.asInts (n := n) (kd := .u8) (e := 5) (by kernel_rfl) (by kernel_rfl) (by kernel_rfl) e3 with ⟨g1, _⟩ | ⟨k', ds', sp', g1, _, _, g4⟩
      · exact .inl (at2 g1)
      · exact .inr ⟨k', ds'.length, at2 g1, g4⟩
    refine ⟨k, ds.length, fun ρ v hv => VR_may hv, allTo_iff.2 fun j hj => ?_, allTo_iff.2 fun j hj => ?_⟩
    · obtain ⟨⟨x, e1⟩, ⟨r, e2⟩, e3, z, e4⟩ := key j hj
      rw [GL_eq h3]
      have e5 : isRS en.cells (j * 4 + 1 + 1) = true := by
        unfold isRS
        rcases e3 with e3 | ⟨k', m', e3, _⟩
        · rw [e3]
        · rw [e3]
      simp only [leafsOk, leafOk, isI, e1, e2, e4, e5, Bool.and_eq_true]
      exact ⟨rfl, rfl, trivial, rfl, trivial⟩
    · obtain ⟨_, _, e3, _⟩ := key j hj
      rw [GL_eq h3]
      unfold datOk datL
      rcases e3 with e3 | ⟨k', m', e3, g⟩
      · have a1 : roO en.cells (j * 4 + 2) = 0 := by simp [roO, e3]
        have a2 : roN en.cells (j * 4 + 2) = 0 := by simp [roN, e3]
        rw [a1, a2]
        unfold subL
        rw [List.take_zero, Bool.and_eq_true]
        exact ⟨leB_iff.2 (Nat.zero_le _), rfl⟩
      · have a1 : roO en.cells (j * 4 + 2) = 0 := by simp [roO, e3]
        have a2 : roN en.cells (j * 4 + 2) = m' := by simp [roN, e3]
        have a3 : roK en.cells (j * 4 + 2) = k' := by simp [roK, e3]
        rw [a1, a2, a3, subL_all g.len, Bool.and_eq_true]
        refine ⟨leB_iff.2 (by rw [g.len]; omega), ?_⟩
        unfold u8s
        rw [List.all_eq_true]
        intro v hv
        obtain ⟨i, rfl⟩ := g.flat v hv
        rfl
/-- an image's cells -/
theorem im_img {n : Nat} (h : TyD Try.prog L (n + 5) 25 cs d) : ∃ s k c kp q, (∀ (ρ : Env) vs, VRs ρ cs vs → VRs ρ [.int .i64 s, .slice true (.ro k) 0 c, .slice true (.ro kp) 0 q] vs) ∧ imOk (GL L) k c kp q := by
  obtain ⟨s, e1, _⟩ := TyD.fldInt (i := 0) (o := 0) (t := 3) (k := .i64) (by kernel_rfl) (by kernel_rfl) (by kernel_rfl) h
  obtain ⟨_, e2⟩ := TyD.fld (i := 1) (o := 1) (t := 22) (by kernel_rfl) h
  obtain ⟨_, e3⟩ := TyD.fld (i := 2) (o := 2) (t := 23) (by kernel_rfl) h
  have hl : cs.length = 3 := by
    have := TyD.flen (i := 0) (o := 0) (t := 3) (by kernel_rfl) h
    rwa [show Try.prog.cellsOf 25 = 3 by kernel_rfl] at this
  rw [show Try.prog.cellsOf 22 = 1 by kernel_rfl] at e2
  rw [show Try.prog.cellsOf 23 = 1 by kernel_rfl] at e3
  match cs, hl with
  | [x, y, z], _ =>
    simp at e1; subst e1
    obtain ⟨k, c, v1, o1, o2⟩ := im_secs (n := n) (by simpa using e2)
    obtain ⟨kp, q, v2, o3, o4, o5⟩ := im_pls (n := n + 1) (by simpa using e3)
    refine ⟨s, k, c, kp, q, fun ρ vs hv => ?_, o1, o2, o4⟩
    simp only [VRs] at hv ⊢
    obtain ⟨w1, t1, r1, q1, w2, t2, r2, q2, w3, t3, r3, q3, q4⟩ := hv
    exact ⟨w1, t1, r1, q1, w2, t2, r2, v1 ρ w2 q2, w3, t3, r3, v2 ρ w3 q3, q4⟩
end
end Go.Am
