/-
  Filters: FilterPasses: what is handed in.
-/
import Derived.Test.YtnkcfoicbkobbaaFpK
import Derived.Test.YtnkcfoicbkobbaaBase6
import Derived.Test.YtnkcfoicbkobbaaRows
namespace Go.Am
open Go.ChangeShapes Go.WideShapes Go.ChangeAt Go.RowKit Go.Proofs Go.Proofs.Ytnkcfoicbkobbaa
set_option maxRecDepth 100000
theorem one_leB {H : Type} (d : DataW H) : 1 ≤ Rows.uptoBulk d := by
  cases d with
  | lit l => cases l <;> simp [Rows.uptoBulk]
  | nil => simp [Rows.uptoBulk]
  | ptr d => simp [Rows.uptoBulk]
  | slice elems spare => simp [Rows.uptoBulk]
  | agg parts => simp [Rows.uptoBulk]
  | iface t d => simp [Rows.uptoBulk]
  | map entries => simp [Rows.uptoBulk]
  | held h => simp [Rows.uptoBulk]
theorem length_leB {H : Type} (l : List (DataW H)) : l.length ≤ Rows.uptoBulkAll l := by
  induction l with
  | nil => simp [Rows.uptoBulkAll]
  | cons x r ih => have := one_leB x; simp only [Rows.uptoBulkAll, List.length_cons]; omega
theorem bulk_at {H : Type} (l : List (DataW H)) (i : Nat) (x : DataW H) (h : l[i]? = some x) : Rows.uptoBulk x ≤ Rows.uptoBulkAll l := by
  induction l generalizing i with
  | nil => simp at h
  | cons y l ih =>
    cases i with
    | zero => simp at h; subst h; simp only [Rows.uptoBulkAll]; omega
    | succ i =>
      have := ih i (by simpa using h)
      simp only [Rows.uptoBulkAll]
      omega
/-- what is known of packets -/
def pkOk (L : List RoE) (cs : List AV) (i : Nat) : Prop := isRS cs i = true ∧ roO cs i = 0 ∧ roN cs i ≤ 1048576 ∧ roK cs i < L.length + 1 ∧ ((roN cs i = 0 ∧ roK cs i = 0) ∨ IntsAt L .u8 (roK cs i) (roN cs i))
theorem packets_arg {H : Type} {L : List RoE} {a : AV} {d : DataW H} {t : TypeId} (h0 : Try.prog.underlying t = some (.slice 23)) (h : ArgD Try.prog L 8 t a d) (hk : Rows.uptoBulk d ≤ 1048576) :
    ∃ k m, (∀ (ρ : Env) v, VR ρ a v → VR ρ (.slice true (.ro k) 0 m) v) ∧ k < L.length + 1 ∧ robs (L.length + 1) (GL L k) = true ∧ norws (GL L k) = true ∧ (∀ i, i < m → pkOk L (GL L k) i) := by
  have h := ArgD.slice (e := 23) h0 h
  have c1 : Try.prog.cellsOf 23 = 1 := by kernel_rfl
  rcases TyD.asSlice (e := 23) h0 h with ⟨g1, _⟩ | ⟨k, es, sp, en, g1, g2, g3, g4, g5, g6⟩
  · simp only [List.cons.injEq, and_true] at g1
    subst g1
    exact ⟨L.length, 0, fun ρ v hv => VR_nils _ _ hv, by omega, by rw [GL_out (Nat.le_refl _)]; rfl, by rw [GL_out (Nat.le_refl _)]; rfl, fun j hj => by omega⟩
  · simp only [List.cons.injEq, and_true] at g1
    subst g1 g2
    rw [c1, Nat.mul_one] at g4
    have hG : GL L k = en.cells := GL_eq g3
    have hkl : k < L.length := (List.getElem?_eq_some_iff.1 g3).1
    simp only [Rows.uptoBulk] at hk
    have key : ∀ (j : Nat) x, es[j]? = some x → (en.cells[j]? = some AV.nils ∨ ∃ k' m', en.cells[j]? = some (AV.slice false (.ro k') 0 m') ∧ k' < L.length ∧ m' ≤ 1048576 ∧ IntsAt L .u8 k' m') := by
      intro j x hx
      have hj := g6 j x hx
      have hb := bulk_at es j x hx
      rw [c1, Nat.mul_one] at hj
      have hcell : ∀ v, List.take 1 (List.drop j en.cells) = [v] → en.cells[j]? = some v := fun v hv => by
        have := congrArg (fun l : List AV => l[0]?) hv
        simpa [List.getElem?_take, List.getElem?_drop] using this
      rcases TyD.asSlice (e := 5) (by kernel_rfl) hj with ⟨q1, _⟩ | ⟨k1, ds1, sp1, en1, q1, q2, q3, q4, q5, q6⟩
      · exact .inl (hcell _ q1)
      · have hkl : k1 < L.length := (List.getElem?_eq_some_iff.1 q3).1
        rcases TyD.asInts (n := 5) (kd := .u8) (e := 5) (by kernel_rfl) (by kernel_rfl) (by kernel_rfl) hj with ⟨r1, _⟩ | ⟨k', ds', sp', r1, r2, r3, r4⟩
        · rw [q1] at r1; simp at r1
        · rw [q1] at r1
          simp only [List.cons.injEq, AV.slice.injEq, Ref.ro.injEq, and_true, true_and] at r1
          obtain ⟨rfl, hl⟩ := r1
          subst q2
          have := length_leB ds1
          simp only [Rows.uptoBulk] at hb
          refine .inr ⟨k1, ds1.length, hcell _ q1, hkl, by omega, ?_⟩
          rw [hl]; exact r4
    have all : ∀ v ∈ en.cells, rob (L.length + 1) v = true ∧ norw v = true := by
      intro v hv
      obtain ⟨j, hj⟩ := List.getElem?_of_mem hv
      have hlt : j < es.length := by rw [← g4]; exact (List.getElem?_eq_some_iff.1 hj).1
      rcases key j _ (List.getElem?_eq_getElem hlt) with e | ⟨k', m', e, h1, _⟩
      · rw [hj] at e; simp at e; subst e; exact ⟨rfl, rfl⟩
      · rw [hj] at e; simp at e; subst e
        refine ⟨?_, rfl⟩
        simp only [rob, Nat.blt]
        exact Nat.ble_eq_true_of_le (by omega)
    refine ⟨k, es.length, fun ρ v hv => VR_may hv, by omega, ?_, ?_, fun i hi => ?_⟩
    · rw [hG, robs_eq, List.all_eq_true]; exact fun v hv => (all v hv).1
    · rw [hG, norws_eq, List.all_eq_true]; exact fun v hv => (all v hv).2
    · rw [hG]
      rcases key i _ (List.getElem?_eq_getElem hi) with e | ⟨k', m', e, h1, h2, h3⟩
      · refine ⟨by simp [isRS, e], by simp [roO, e], by simp [roN, e], by simp [roK, e], .inl ⟨by simp [roN, e], by simp [roK, e]⟩⟩
      · refine ⟨by simp [isRS, e], by simp [roO, e], by simp [roN, e]; omega, by simp [roK, e]; omega, .inr ?_⟩
        simp only [roK, roN, e]; exact h3
section
variable {H : Type} {P : Program} {L : List RoE} {n : Nat} {t e : TypeId} {cs : List AV} {d : DataW H} {a : AV}
/-- a list of rows: some cells that are read alone -/
theorem ArgD.rowsK {kd : IntKind} {z : Nat} (ht : P.underlying t = some (.slice e)) (hr : rowI P e kd z = true) (h : ArgD P L (n + 3) t a d) :
    ∃ k m, (∀ (ρ : Env) v, VR ρ a v → VR ρ (.slice true (.ro k) 0 m) v) ∧ IntsAt L kd k (m * z) ∧ k < L.length + 1 := by
  rcases TyD.asSlice ht (ArgD.slice ht h) with ⟨h1, _⟩ | ⟨k, ds, sp, en, h1, h2, h3, h4, h5, h6⟩
  · simp only [List.cons.injEq, and_true] at h1
    subst h1
    exact ⟨L.length, 0, fun ρ v hv => VR_nils _ _ hv, ⟨by rw [GL_out (Nat.le_refl _)]; simp, okI_of fun j hj => by omega, fun j hj => by omega⟩, by omega⟩
  · simp only [List.cons.injEq, and_true] at h1
    subst h1
    have hz : P.cellsOf e = z := by
      unfold rowI at hr
      split at hr
      · simp only [Bool.and_eq_true] at hr; exact Nat.eq_of_beq_eq_true hr.2.1
      · simp at hr
    rw [hz] at h4 h6
    have key : ∀ j, j < ds.length * z → ∃ i, en.cells[j]? = some (.int kd i) ∧ (Lit.int kd i).wf = true := fun j hj => by
      have hz0 : 0 < z := by
        rcases Nat.eq_zero_or_pos z with rfl | h0
        · simp at hj
        · exact h0
      have hq : j / z < ds.length := (Nat.div_lt_iff_lt_mul hz0).2 hj
      obtain ⟨_, g2⟩ := TyD.asRow hr (h6 (j / z) ds[j / z] (List.getElem?_eq_getElem hq))
      obtain ⟨i, e1, e2⟩ := g2 (j % z) (Nat.mod_lt _ hz0)
      refine ⟨i, ?_, e2⟩
      rw [List.getElem?_take, if_pos (Nat.mod_lt _ hz0), List.getElem?_drop] at e1
      rw [← e1]
      congr 1
      rw [Nat.mul_comm]
      exact (Nat.div_add_mod j z).symm
    refine ⟨k, ds.length, fun ρ v hv => VR_may hv, ⟨by rw [GL_eq h3, h4], okI_of fun j hj => ?_, fun j hj => ?_⟩, by have := (List.getElem?_eq_some_iff.1 h3).1; omega⟩
    · obtain ⟨i, g1, _⟩ := key j hj
      rw [GL_eq h3, Nat.zero_add]
      simp [isI, g1]
    · obtain ⟨i, g1, g2⟩ := key j hj
      rw [GL_eq h3]
      simp [getI, g1, g2]
end
/-- the places that are named, and two that are not there -/
def GX (N : Nat) (G : Nat → List AV) (xs ys : List AV) (k : Nat) : List AV := if k < N then (if robs N (G k) = true ∧ norws (G k) = true then G k else []) else if k = N then xs else if k = N + 1 then ys else []
theorem GX_in {N : Nat} {G : Nat → List AV} {xs ys : List AV} {k : Nat} (hk : k < N) (h1 : robs N (G k) = true) (h2 : norws (G k) = true) : GX N G xs ys k = G k := by
  unfold GX; rw [if_pos hk, if_pos ⟨h1, h2⟩]
theorem GX_any {N : Nat} {G : Nat → List AV} {xs ys zs ws : List AV} {k : Nat} (hk : k < N) : GX N G xs ys k = GX N G zs ws k := by
  unfold GX; rw [if_pos hk, if_pos hk]
theorem ints_robs {L : List RoE} {kd : IntKind} {k m N : Nat} (h : IntsAt L kd k m) : robs N (GL L k) = true ∧ norws (GL L k) = true ∧ cellsB (GL L k) = true ∧ bnds 0 (GL L k) = true := by
  have f := h.flat
  refine ⟨?_, ?_, ?_, ?_⟩
  · rw [robs_eq, List.all_eq_true]; intro v hv; obtain ⟨i, rfl⟩ := f v hv; rfl
  · rw [norws_eq, List.all_eq_true]; intro v hv; obtain ⟨i, rfl⟩ := f v hv; rfl
  · unfold cellsB; rw [List.all_eq_true]; intro v hv; obtain ⟨i, rfl⟩ := f v hv; rfl
  · rw [bnds_eq, List.all_eq_true]; intro v hv; obtain ⟨i, rfl⟩ := f v hv; rfl
theorem passes_call (L : List RoE) (B k n k2 m : Nat) (lw : Int) (hkl : k < L.length + 1) (hk : IntsAt L .i64 k (n * 3)) (hk2 : k2 < L.length + 1) (r2 : robs (L.length + 1) (GL L k2) = true) (n2 : norws (GL L k2) = true) (hp : ∀ i, i < m → pkOk L (GL L k2) i) :
    ACalls ⟨Try.prog, GL L, B⟩ 7 [.slice true (.ro k) 0 n, .slice true (.ro k2) 0 m, .int .i64 lw] [] fun v _ => v = .bool true := by
  obtain ⟨a1, a2, a3, a4⟩ := ints_robs (N := L.length + 1) hk
  have eN : GL L L.length = [] := GL_out (Nat.le_refl _)
  let xs := wkC (GL L k2) L.length m
  let ys := wantL (mtF (GX (L.length + 1) (GL L) [] []) k n k2) m
  let G' := GX (L.length + 1) (GL L) xs ys
  have gk : G' k = GL L k := GX_in hkl a1 a2
  have gk2 : G' k2 = GL L k2 := GX_in hk2 r2 n2
  have rk : ∀ i, roK (GL L k2) i < L.length + 1 := fun i => by
    unfold roK
    split
    · rename_i x kk _ _ e
      rw [robs_eq, List.all_eq_true] at r2
      have := r2 _ (List.mem_of_getElem? e)
      simp only [rob] at this
      exact blt_lt this
    · omega
  have mt : mtF G' k n k2 = mtF (GX (L.length + 1) (GL L) [] []) k n k2 := by
    funext i
    unfold mtF
    have h1 : GX (L.length + 1) (GL L) [] [] k = GL L k := GX_in hkl a1 a2
    have h2 : GX (L.length + 1) (GL L) [] [] k2 = GL L k2 := GX_in hk2 r2 n2
    rw [gk, gk2, h1, h2]
    have h3 : G' (roK (GL L k2) i) = GX (L.length + 1) (GL L) [] [] (roK (GL L k2) i) := GX_any (rk i)
    rw [h3]
  have pks : pksB G' (G' k2) m = true := by
    rw [gk2]
    refine allTo_iff.2 fun i hi => ?_
    obtain ⟨q1, q2, q3, q4, q5⟩ := hp i hi
    have e5 : clC 1 (G' (roK (GL L k2) i)) (roN (GL L k2) i) = true ∧ okI .u8 (G' (roK (GL L k2) i)) 0 (roN (GL L k2) i) = true := by
      rcases q5 with ⟨q5, q6⟩ | q5
      · rw [q5]; exact ⟨rfl, okI_of fun j hj => by omega⟩
      · obtain ⟨b1, b2, b3, b4⟩ := ints_robs (N := L.length + 1) q5
        have e : G' (roK (GL L k2) i) = GL L (roK (GL L k2) i) := GX_in q4 b1 b2
        rw [e]
        exact ⟨clC_iff.2 (.inr ⟨by rw [q5.len, Nat.mul_one], b3, b2, b4⟩), q5.ok⟩
    simp only [pkB, Bool.and_eq_true]
    exact ⟨q1, by rw [q2]; rfl, leB_iff.2 q3, e5.1, e5.2⟩
  refine more_ro (G' := G') (N := L.length + 1) (fun i hi => ?_) (fun B' => ?_) (by simp [norws, norw]) ?_ (fun v hv => by subst hv; exact ⟨rfl, rfl⟩)
  · by_cases h : robs (L.length + 1) (GL L i) = true ∧ norws (GL L i) = true
    · exact .inr ⟨GX_in hi h.1 h.2, h.1, h.2⟩
    · refine .inl ?_
      show GX _ _ _ _ i = []
      unfold GX
      rw [if_pos hi, if_neg h]
  · have c1 : G' L.length = [] := by
      show GX _ _ _ _ _ = _
      unfold GX
      rw [if_pos (by omega), eN]; split <;> rfl
    have c2 : G' (L.length + 1) = wkC (G' k2) L.length m := by
      rw [gk2]
      show GX _ _ _ _ _ = _
      unfold GX
      rw [if_neg (by omega), if_pos rfl]
    have c3 : G' (L.length + 2) = wantL (mtF G' k n k2) m := by
      rw [mt]
      have : GX (L.length + 1) (GL L) xs ys (L.length + 2) = ys := by
        unfold GX
        rw [if_neg (by omega), if_neg (by omega), if_pos rfl]
      exact this
    exact fp_call G' B' k n k2 m L.length (L.length + 1) (L.length + 2) _ lw c1 c2 pks (by rw [gk]; exact hk.ok) (by rw [gk]; exact clC_iff.2 (.inr ⟨hk.len, a3, a2, a4⟩)) rfl c3
  · simp only [robs, rob, Nat.blt, Bool.and_true, Bool.and_eq_true]
    exact ⟨Nat.ble_eq_true_of_le (by omega), Nat.ble_eq_true_of_le (by omega)⟩
end Go.Am
