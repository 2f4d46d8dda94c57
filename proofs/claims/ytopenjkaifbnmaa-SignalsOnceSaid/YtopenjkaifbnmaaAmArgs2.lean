/-
  Arguments: lists of rows of whole numbers.
-/
import Derived.Test.YtopenjkaifbnmaaAmArgs
import Derived.Test.YtopenjkaifbnmaaAmMeth
namespace Go.Am
open Go.ChangeShapes Go.WideShapes Go.ChangeAt Go.RowKit
section
variable {H : Type} {P : Program} {L : List RoE} {n : Nat} {t e : TypeId} {cs : List AV} {d : DataW H} {a : AV}
/-- a struct of so many whole numbers of a kind -/
def rowI (P : Program) (e : TypeId) (kd : IntKind) (z : Nat) : Bool :=
  match P.underlying e with
  | some (.struct fs) => Nat.beq fs.size z && (Nat.beq (P.cellsOf e) z && (List.range z).all fun i => match fs[i]? with
    | some f => Nat.beq f.offset i && (Nat.beq (P.cellsOf f.type) 1 && (match P.underlying f.type with
      | some (.int k) => k == kd
      | _ => false))
    | none => false)
  | _ => false
theorem TyD.asRow {kd : IntKind} {z : Nat} (hr : rowI P e kd z = true) (h : TyD P L (n + 2) e cs d) : cs.length = z ∧ ∀ j, j < z → ∃ i, cs[j]? = some (.int kd i) ∧ (Lit.int kd i).wf = true := by
  unfold rowI at hr
  split at hr
  · rename_i fs hu
    simp only [Bool.and_eq_true, List.all_eq_true, List.mem_range] at hr
    obtain ⟨h1, h2, h3⟩ := hr
    obtain ⟨g1, ds, g2, g3, g4⟩ := TyD.asStruct hu h
    rw [Nat.eq_of_beq_eq_true h2] at g1
    refine ⟨g1, fun j hj => ?_⟩
    have hf := h3 j hj
    split at hf
    · rename_i f hfj
      simp only [Bool.and_eq_true] at hf
      obtain ⟨k1, k2, k3⟩ := hf
      split at k3
      · rename_i k hk
        have k3 := eq_of_beq k3
        subst k3
        have hl : j < ds.length := by rw [g3, Nat.eq_of_beq_eq_true h1]; exact hj
        obtain ⟨i, e1, e2, _⟩ := TyD.asInt hk (g4 j f ds[j] hfj (List.getElem?_eq_getElem hl))
        rw [Nat.eq_of_beq_eq_true k1, Nat.eq_of_beq_eq_true k2] at e1
        refine ⟨i, ?_, e2⟩
        have := congrArg (fun l : List AV => l[0]?) e1
        simpa only [List.getElem?_take, List.getElem?_drop, List.getElem?_cons_zero, Nat.add_zero, Nat.lt_one_iff, if_true] using this
      · simp at k3
    · simp at hf
  · simp at hr
/-- a list of rows: some cells that are read alone -/
theorem ArgD.rows {kd : IntKind} {z : Nat} (ht : P.underlying t = some (.slice e)) (hr : rowI P e kd z = true) (h : ArgD P L (n + 3) t a d) :
    ∃ k m, (∀ (ρ : Env) v, VR ρ a v → VR ρ (.slice true (.ro k) 0 m) v) ∧ IntsAt L kd k (m * z) := by
  rcases TyD.asSlice ht (ArgD.slice ht h) with ⟨h1, _⟩ | ⟨k, ds, sp, en, h1, h2, h3, h4, h5, h6⟩
  · simp only [List.cons.injEq, and_true] at h1
    subst h1
    exact ⟨L.length, 0, fun ρ v hv => VR_nils _ _ hv, by rw [GL_out (Nat.le_refl _)]; simp, okI_of fun j hj => by omega, fun j hj => by omega⟩
  · simp only [List.cons.injEq, and_true] at h1
    subst h1
    have hz : P.cellsOf e = z := by
      unfold rowI at hr
      split at hr
      · simp only [Bool.and_eq_true] at hr; exact Nat.eq_of_beq_eq_true hr.2.1
      · simp at hr
    rw [hz] at h4 h6
    have key : ∀ j, j < ds.length * z → ∃ i, en.cells[j]? = some (.int kd i) ∧ (Lit.int kd i).wf = true := fun j hj => by
      have hz0 : 0 < z := by
        rcases Nat.eq_zero_or_pos z with rfl | h0
        · simp at hj
        · exact h0
      have hq : j / z < ds.length := (Nat.div_lt_iff_lt_mul hz0).2 hj
      obtain ⟨_, g2⟩ := TyD.asRow hr (h6 (j / z) ds[j / z] (List.getElem?_eq_getElem hq))
      obtain ⟨i, e1, e2⟩ := g2 (j % z) (Nat.mod_lt _ hz0)
      refine ⟨i, ?_, e2⟩
      rw [List.getElem?_take, if_pos (Nat.mod_lt _ hz0), List.getElem?_drop] at e1
      rw [← e1]
      congr 1
      rw [Nat.mul_comm]
      exact (Nat.div_add_mod j z).symm
    refine ⟨k, ds.length, fun ρ v hv => VR_may hv, by rw [GL_eq h3, h4], okI_of fun j hj => ?_, fun j hj => ?_⟩
    · obtain ⟨i, g1, _⟩ := key j hj
      rw [GL_eq h3, Nat.zero_add]
      simp [isI, g1]
    · obtain ⟨i, g1, g2⟩ := key j hj
      rw [GL_eq h3]
      simp [getI, g1, g2]
theorem ArgD.i64 {k : IntKind} (ht : P.underlying t = some (.int k)) (h : ArgD P L (n + 1) t a d) : ∃ i, a = .int k i ∧ (Lit.int k i).wf = true := by
  obtain ⟨i, h1, h2, _⟩ := TyD.asInt ht (ArgD.int ht h)
  simp only [List.cons.injEq, and_true] at h1
  exact ⟨i, h1, h2⟩
/-- an array of two whole numbers -/
theorem ArgD.two {k : IntKind} (ht : P.underlying t = some (.array 2 e)) (he : P.underlying e = some (.int k)) (hc : P.cellsOf e = 1) (hc' : P.cellsOf t = 2) (h : ArgD P L (n + 2) t a d) : ∃ i j, a = .agg [.int k i, .int k j] ∧ (Lit.int k i).wf = true ∧ (Lit.int k j).wf = true := by
  obtain ⟨cs, rfl, h1⟩ := ArgD.array ht h
  obtain ⟨g1, ds, g2, g3, g4⟩ := TyD.asArray ht h1
  rw [hc'] at g1
  rw [hc] at g4
  match cs, g1, ds, g3 with
  | [x, y], _, [d1, d2], _ =>
    obtain ⟨i, e1, e2, _⟩ := TyD.asInt he (g4 0 d1 rfl)
    obtain ⟨j, e3, e4, _⟩ := TyD.asInt he (g4 1 d2 rfl)
    simp only [Nat.zero_mul, Nat.one_mul, List.drop_zero, List.take_succ_cons, List.take_zero, List.drop_succ_cons, List.cons.injEq, and_true] at e1 e3
    subst e1 e3
    exact ⟨i, j, rfl, e2, e4⟩
end
end Go.Am
