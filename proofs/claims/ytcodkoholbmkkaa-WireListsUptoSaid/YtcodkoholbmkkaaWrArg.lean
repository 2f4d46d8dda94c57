/-
  Wire: what a law of this seat is handed, opened into cells.
-/
import Derived.Test.YtcodkoholbmkkaaWrX
import Derived.Test.YtcodkoholbmkkaaWrR
import Derived.Test.YtcodkoholbmkkaaBase6
import Derived.Test.YtcodkoholbmkkaaRows
namespace Go.Proofs.Ytcodkoholbmkkaa
open Go.Am Go.ChangeShapes Go.WideShapes Go.ChangeAt Go.RowKit
set_option maxRecDepth 100000

theorem one_le {H : Type} (d : DataW H) : 1 ≤ Rows.uptoBulk d := by
  cases d with
  | lit l => cases l <;> simp [Rows.uptoBulk]
  | nil => simp [Rows.uptoBulk]
  | ptr d => simp [Rows.uptoBulk]
  | slice elems spare => simp [Rows.uptoBulk]
  | agg parts => simp [Rows.uptoBulk]
  | iface t d => simp [Rows.uptoBulk]
  | map entries => simp [Rows.uptoBulk]
  | held h => simp [Rows.uptoBulk]
theorem length_le {H : Type} (l : List (DataW H)) : l.length ≤ Rows.uptoBulkAll l := by
  induction l with
  | nil => simp [Rows.uptoBulkAll]
  | cons x r ih => have := one_le x; simp only [Rows.uptoBulkAll, List.length_cons]; omega
theorem bulk_take {H : Type} (l : List (DataW H)) (i : Nat) (x : DataW H) (h : l[i]? = some x) : Rows.uptoBulkAll (l.take i) + Rows.uptoBulk x ≤ Rows.uptoBulkAll (l.take (i + 1)) := by
  induction l generalizing i with
  | nil => simp at h
  | cons y l ih =>
    cases i with
    | zero => simp at h; subst h; simp [Rows.uptoBulkAll]
    | succ i =>
      have := ih i (by simpa using h)
      simp only [List.take_succ_cons, Rows.uptoBulkAll] at *
      omega
theorem bulk_le {H : Type} (l : List (DataW H)) (i : Nat) : Rows.uptoBulkAll (l.take i) ≤ Rows.uptoBulkAll l := by
  induction l generalizing i with
  | nil => simp [Rows.uptoBulkAll]
  | cons y l ih =>
    cases i with
    | zero => simp [Rows.uptoBulkAll]
    | succ i => have := ih i; simp only [List.take_succ_cons, Rows.uptoBulkAll]; omega

/-- a list of bytes -/
theorem u8arg {H : Type} {L : List RoE} {n : Nat} {cs : List AV} {d : DataW H} (h : TyD Try.prog L (n + 2) 23 cs d) :
    ∃ k m x, cs = [x] ∧ (∀ (ρ : Env) v, VR ρ x v → VR ρ (.slice true (.ro k) 0 m) v) ∧ IntsAt L .u8 k m ∧ m ≤ Rows.uptoBulk d := by
  rcases TyD.asInts (kd := .u8) (e := 5) (by kernel_rfl) (by kernel_rfl) (by kernel_rfl) h with ⟨g1, rfl⟩ | ⟨k, ds, sp, g1, rfl, g3, g4⟩
  · exact ⟨L.length, 0, .nils, g1, fun ρ v hv => VR_nils _ _ hv, ⟨by rw [GL_out (Nat.le_refl _)]; rfl, okI_of fun j hj => by omega, fun j hj => by omega⟩, Nat.zero_le _⟩
  · refine ⟨k, ds.length, _, g1, fun ρ v hv => VR_may hv, g4, ?_⟩
    have := length_le ds
    simp only [Rows.uptoBulk]; omega
theorem u8s_of {L : List RoE} {k m : Nat} (h : IntsAt L .u8 k m) : u8s (GL L k) = true := by
  simp only [u8s, List.all_eq_true]
  intro v hv
  obtain ⟨i, rfl⟩ := h.flat v hv
  rfl
theorem u8s_sub {l : List AV} (h : u8s l = true) (o n : Nat) : u8s (subL l o n) = true := by
  simp only [u8s, List.all_eq_true, subL] at h ⊢
  intro v hv
  exact h v (List.mem_of_mem_drop (List.mem_of_mem_take hv))
/-- a list of lists of bytes -/
theorem pieces_arg {H : Type} {L : List RoE} {a : AV} {d : DataW H} (h : ArgD Try.prog L 8 26 a d) (hk : Rows.uptoBulk d ≤ 1048576) :
    ∃ k m, (∀ (ρ : Env) v, VR ρ a v → VR ρ (.slice true (.ro k) 0 m) v) ∧ Pieces (GL L) k m := by
  have h := ArgD.slice (e := 23) (by kernel_rfl) h
  have c1 : Try.prog.cellsOf 23 = 1 := by kernel_rfl
  rcases TyD.asSlice (e := 23) (by kernel_rfl) h with ⟨g1, _⟩ | ⟨k, es, sp, en, g1, g2, g3, g4, g5, g6⟩
  · simp only [List.cons.injEq, and_true] at g1
    subst g1
    exact ⟨L.length, 0, fun ρ v hv => VR_nils _ _ hv, ⟨fun j hj => by omega, fun j hj => by omega, fun j hj => by omega, by simp [catL], by omega⟩⟩
  · simp only [List.cons.injEq, and_true] at g1
    subst g1 g2
    rw [c1, Nat.mul_one] at g4
    have hG : GL L k = en.cells := GL_eq g3
    have key : ∀ j x, es[j]? = some x → isRS (GL L k) j = true ∧ roO (GL L k) j = 0 ∧ (roN (GL L k) j ≤ (GL L (roK (GL L k) j)).length) ∧ u8s (pieceL (GL L) k j) = true ∧ roN (GL L k) j ≤ Rows.uptoBulk x := by
      intro j x hx
      have hj := g6 j x hx
      rw [c1, Nat.mul_one] at hj
      have hcell : ∀ v, List.take 1 (List.drop j en.cells) = [v] → en.cells[j]? = some v := fun v hv => by
        have := congrArg (fun l : List AV => l[0]?) hv
        simpa [List.getElem?_take, List.getElem?_drop] using this
      rcases TyD.asInts (kd := .u8) (e := 5) (by kernel_rfl) (by kernel_rfl) (by kernel_rfl) hj with ⟨q1, rfl⟩ | ⟨k', ds', sp', q1, rfl, q3, q4⟩
      · have := hcell _ q1
        simp [hG, pieceL, isRS, roO, roK, roN, this, subL, u8s]
      · have hc := hcell _ q1
        have hb : ds'.length ≤ Rows.uptoBulk (DataW.slice ds' sp') := by
          have := length_le ds'
          simp only [Rows.uptoBulk]; omega
        have hl := q4.len
        refine ⟨?_, ?_, ?_, ?_, ?_⟩
        · simp [hG, isRS, hc]
        · simp [hG, roO, hc]
        · simp only [hG, roK, roN, hc]; omega
        · simp only [pieceL, hG, roK, roO, roN, hc]; exact u8s_sub (u8s_of q4) _ _
        · simp only [hG, roN, hc]; exact hb
    have hlen : ∀ i, i ≤ es.length → (catL (GL L) k i).length ≤ Rows.uptoBulkAll (es.take i) := by
      intro i
      induction i with
      | zero => intro _; simp [catL]
      | succ i ih =>
        intro hi
        have hx := List.getElem?_eq_getElem (l := es) (i := i) (by omega)
        have b1 := bulk_take es i _ hx
        obtain ⟨_, _, _, _, b2⟩ := key i _ hx
        have b3 := ih (by omega)
        have b4 : (pieceL (GL L) k i).length ≤ roN (GL L k) i := by simp only [pieceL, subL, List.length_take]; omega
        simp only [catL, List.length_append]
        omega
    have hb := hlen es.length (Nat.le_refl _)
    rw [List.take_length] at hb
    have hes := length_le es
    simp only [Rows.uptoBulk] at hk
    refine ⟨k, es.length, fun ρ v hv => VR_may hv, ⟨fun j hj => (key j _ (List.getElem?_eq_getElem hj)).1, fun j hj => ?_, fun j hj => (key j _ (List.getElem?_eq_getElem hj)).2.2.2.1, by omega, by omega⟩⟩
    obtain ⟨_, q2, q3, _, _⟩ := key j _ (List.getElem?_eq_getElem hj)
    omega
def structIs (P : Program) (t : TypeId) (l : List (Nat × TypeId)) : Bool := match P.underlying t with
  | some (.struct fs) => fs.toList.map (fun f => (f.offset, f.type)) == l
  | _ => false
theorem structIs_eq {P : Program} {t : TypeId} {l : List (Nat × TypeId)} (h : structIs P t l = true) : ∃ fs : Array Field, P.underlying t = some (.struct fs) ∧ fs.toList.map (fun f => (f.offset, f.type)) = l := by
  unfold structIs at h
  split at h
  · rename_i fs hu; exact ⟨fs, hu, eq_of_beq h⟩
  · simp at h
/-- what is written -/
theorem things_arg {H : Type} {L : List RoE} {a : AV} {d : DataW H} (h : ArgD Try.prog L 8 25 a d) :
    ∃ (n m : Int) (b : Bool) (k l : Nat), (∀ (ρ : Env) v, VR ρ a v → VR ρ (.agg [.int .u64 n, .int .i64 m, .bool b, .slice true (.ro k) 0 l]) v) ∧ inU64 [.int .u64 n] = true ∧ inI64 [.int .i64 m] = true ∧ IntsAt L .u8 k l ∧ l ≤ Rows.uptoBulk d := by
  obtain ⟨fs, hfs⟩ := structIs_eq (P := Try.prog) (t := 25) (l := [(0, 22), (1, 2), (2, 4), (3, 23)]) (by kernel_rfl)
  obtain ⟨hu, hf⟩ := hfs
  obtain ⟨cs, rfl, h1⟩ := ArgD.struct hu h
  obtain ⟨g1, ds, rfl, g3, g4⟩ := TyD.asStruct hu h1
  have hz : Try.prog.cellsOf 25 = 4 := by kernel_rfl
  have z1 : Try.prog.cellsOf 22 = 1 := by kernel_rfl
  have z2 : Try.prog.cellsOf 2 = 1 := by kernel_rfl
  have z3 : Try.prog.cellsOf 4 = 1 := by kernel_rfl
  have z4 : Try.prog.cellsOf 23 = 1 := by kernel_rfl
  rw [hz] at g1
  have hfl : fs.size = 4 := by have := congrArg List.length hf; simpa using this
  have fld : ∀ (i : Nat) o t, [((0 : Nat), (22 : TypeId)), (1, 2), (2, 4), (3, 23)][i]? = some (o, t) → ∃ f, fs[i]? = some f ∧ f.offset = o ∧ f.type = t := fun i o t hi => by
    rw [← hf, List.getElem?_map] at hi
    cases hx : fs.toList[i]? with
    | none => rw [hx] at hi; simp at hi
    | some f =>
      rw [hx] at hi
      simp at hi
      exact ⟨f, by simpa using hx, hi.1, hi.2⟩
  match cs, g1, ds, (show ds.length = 4 by omega), g4 with
  | [x0, x1, x2, x3], _, [e0, e1, e2, e3], _, g4 =>
    obtain ⟨f0, a0, b0, c0⟩ := fld 0 0 22 rfl
    obtain ⟨f1, a1, b1, c1⟩ := fld 1 1 2 rfl
    obtain ⟨f2, a2, b2, c2⟩ := fld 2 2 4 rfl
    obtain ⟨f3, a3, b3, c3⟩ := fld 3 3 23 rfl
    have t0 := g4 0 f0 e0 a0 rfl
    have t1 := g4 1 f1 e1 a1 rfl
    have t2 := g4 2 f2 e2 a2 rfl
    have t3 := g4 3 f3 e3 a3 rfl
    rw [b0, c0, z1] at t0
    rw [b1, c1, z2] at t1
    rw [b2, c2, z3] at t2
    rw [b3, c3, z4] at t3
    obtain ⟨n, p1, p2, _⟩ := TyD.asInt (k := .u64) (by kernel_rfl) t0
    obtain ⟨m, p3, p4, _⟩ := TyD.asInt (k := .i64) (by kernel_rfl) t1
    obtain ⟨b, p5, _⟩ := TyD.asBool (by kernel_rfl) t2
    obtain ⟨k, l, x, p6, p7, p8, p9⟩ := u8arg t3
    simp only [List.drop_zero, List.drop_succ_cons, List.take_succ_cons, List.take_zero, List.cons.injEq, and_true] at p1 p3 p5 p6
    subst p1 p3 p5 p6
    refine ⟨n, m, b, k, l, fun ρ v hv => ?_, by have := wf_u64 p2; simp [inU64]; omega, by have := wf_i64 p4; simp [inI64]; omega, p8, ?_⟩
    · simp only [VR, VRs] at hv ⊢
      obtain ⟨vs, rfl, y0, vs0, q0, r0, y1, vs1, rfl, r1, y2, vs2, rfl, r2, y3, vs3, rfl, r3, rfl⟩ := hv
      have := p7 ρ y3 r3
      simp only [VR] at this
      exact ⟨vs, rfl, y0, _, q0, r0, y1, _, rfl, r1, y2, _, rfl, r2, y3, _, rfl, this, rfl⟩
    · simp only [Rows.uptoBulk, Rows.uptoBulkAll]
      omega
theorem b8s_of {L : List RoE} {k m : Nat} (h : IntsAt L .u8 k m) : b8s (GL L k) = true := by
  simp only [b8s, List.all_eq_true]
  intro v hv
  obtain ⟨j, hj⟩ := List.getElem?_of_mem hv
  have hlt : j < m := by rw [← h.len]; exact (List.getElem?_eq_some_iff.1 hj).1
  obtain ⟨i, rfl⟩ := h.flat v hv
  have hw := h.wf j hlt
  have e : getI (GL L k) j = i := by simp [getI, hj]
  rw [e] at hw
  have := wf_u8 hw
  simp [b8]; omega
end Go.Proofs.Ytcodkoholbmkkaa
