/-
  Arguments, opened by their types.
-/
import Derived.Test.YtopenjkaifbnmaaAmLaw
namespace Go
theorem DataW.TrodAll.len {H : Type} {enc : TypeId × Value → H} {P : Program} {w : World} {base : Nat} {spare : Nat → Bool} {held : Bool} : ∀ {ts : List TypeId} {vs : List Value} {ds : List (DataW H)} {ps : List MemPlace}, DataW.TrodAll enc P w base spare held ts vs ds ps → vs.length = ts.length ∧ ds.length = ts.length
  | [], vs, ds, ps, h => by
    obtain ⟨rfl, rfl, rfl⟩ := ChangeShapes.trodAll_nil h
    exact ⟨rfl, rfl⟩
  | t :: ts, vs, ds, ps, h => by
    obtain ⟨v, vs, d, ds, p, q, rfl, rfl, rfl, h1, h2⟩ := ChangeShapes.trodAll_cons h
    have := DataW.TrodAll.len h2
    simp [this]
end Go
namespace Go.Am
section
variable {H : Type} {P : Program} {L : List RoE} {n : Nat} {t e : TypeId} {cs : List AV} {a : AV} {d : DataW H}

theorem TyD.asBool (ht : P.underlying t = some .bool) (h : TyD P L (n + 1) t cs d) : ∃ b, cs = [.bool b] ∧ d = .lit (.bool b) := by unfold TyD at h; rw [ht] at h; exact h
theorem TyD.asInt {k : IntKind} (ht : P.underlying t = some (.int k)) (h : TyD P L (n + 1) t cs d) : ∃ i, cs = [.int k i] ∧ (Lit.int k i).wf = true ∧ d = .lit (.int k i) := by unfold TyD at h; rw [ht] at h; exact h
theorem TyD.asSlice (ht : P.underlying t = some (.slice e)) (h : TyD P L (n + 1) t cs d) : (cs = [.nils] ∧ d = .nil) ∨ ∃ (k : Nat) (ds sp : List (DataW H)) (en : RoE), cs = [.slice false (.ro k) 0 ds.length] ∧ d = .slice ds sp ∧ L[k]? = some en ∧
        en.cells.length = ds.length * P.cellsOf e ∧ ds.length + sp.length ≤ maxLen ∧ ∀ (i : Nat) x, ds[i]? = some x → TyD P L n e ((en.cells.drop (i * P.cellsOf e)).take (P.cellsOf e)) x := by unfold TyD at h; rw [ht] at h; exact h
theorem TyD.asStruct {fs : Array Field} (ht : P.underlying t = some (.struct fs)) (h : TyD P L (n + 1) t cs d) : cs.length = P.cellsOf t ∧ ∃ ds, d = .agg ds ∧ ds.length = fs.size ∧ ∀ (i : Nat) f x, fs[i]? = some f → ds[i]? = some x → TyD P L n f.type ((cs.drop f.offset).take (P.cellsOf f.type)) x := by unfold TyD at h; rw [ht] at h; exact h
theorem TyD.asArray {m : Nat} (ht : P.underlying t = some (.array m e)) (h : TyD P L (n + 1) t cs d) : cs.length = P.cellsOf t ∧ ∃ ds, d = .agg ds ∧ ds.length = m ∧ ∀ (i : Nat) x, ds[i]? = some x → TyD P L n e ((cs.drop (i * P.cellsOf e)).take (P.cellsOf e)) x := by unfold TyD at h; rw [ht] at h; exact h

theorem GL_eq {k : Nat} {en : RoE} (h : L[k]? = some en) : GL L k = en.cells := by simp [GL, h]

theorem wf_u8 {i : Int} (h : (Lit.int .u8 i).wf = true) : 0 ≤ i ∧ i ≤ 255 := by simpa [Lit.wf, IntKind.min, IntKind.max, IntKind.signed, IntKind.bits] using h
theorem wf_u32 {i : Int} (h : (Lit.int .u32 i).wf = true) : 0 ≤ i ∧ i < 4294967296 := by
  have : 0 ≤ i ∧ i ≤ 4294967295 := by simpa [Lit.wf, IntKind.min, IntKind.max, IntKind.signed, IntKind.bits] using h
  omega
theorem wf_i64 {i : Int} (h : (Lit.int .i64 i).wf = true) : -9223372036854775808 ≤ i ∧ i ≤ 9223372036854775807 := by simpa [Lit.wf, IntKind.min, IntKind.max, IntKind.signed, IntKind.bits] using h
theorem wf_u64 {i : Int} (h : (Lit.int .u64 i).wf = true) : 0 ≤ i ∧ i ≤ 18446744073709551615 := by simpa [Lit.wf, IntKind.min, IntKind.max, IntKind.signed, IntKind.bits] using h

/-- a slice of numbers: its cells -/
structure IntsAt (L : List RoE) (kd : IntKind) (k m : Nat) : Prop where
  len : (GL L k).length = m
  ok : okI kd (GL L k) 0 m = true
  wf : ∀ j, j < m → (Lit.int kd (getI (GL L k) j)).wf = true

theorem IntsAt.flat {L : List RoE} {kd : IntKind} {k m : Nat} (h : IntsAt L kd k m) : ∀ v ∈ GL L k, ∃ i, v = .int kd i := by
  intro v hv
  obtain ⟨j, hj⟩ := List.getElem?_of_mem hv
  have hlt : j < m := by rw [← h.len]; exact (List.getElem?_eq_some_iff.1 hj).1
  have := isI_some (okI_get h.ok hlt)
  rw [Nat.zero_add, hj] at this
  exact ⟨_, Option.some.inj this⟩
theorem IntsAt.norw {L : List RoE} {kd : IntKind} {k m : Nat} (h : IntsAt L kd k m) : (GL L k).all norw = true := by
  rw [List.all_eq_true]
  intro v hv
  obtain ⟨i, rfl⟩ := h.flat v hv
  simp [Go.Am.norw]

theorem TyD.asInts {kd : IntKind} (ht : P.underlying t = some (.slice e)) (he : P.underlying e = some (.int kd)) (hc : P.cellsOf e = 1) (h : TyD P L (n + 2) t cs d) :
    (cs = [.nils] ∧ d = .nil) ∨ ∃ (k : Nat) (ds sp : List (DataW H)), cs = [.slice false (.ro k) 0 ds.length] ∧ d = .slice ds sp ∧ ds.length + sp.length ≤ maxLen ∧ IntsAt L kd k ds.length := by
  rcases TyD.asSlice ht h with h | ⟨k, ds, sp, en, h1, h2, h3, h4, h5, h6⟩
  · exact .inl h
  · refine .inr ⟨k, ds, sp, h1, h2, h5, ?_⟩
    rw [hc, Nat.mul_one] at h4
    have key : ∀ j, j < ds.length → ∃ i, en.cells[j]? = some (.int kd i) ∧ (Lit.int kd i).wf = true := fun j hj => by
      obtain ⟨i, g1, g2, _⟩ := TyD.asInt he (h6 j ds[j] (List.getElem?_eq_getElem hj))
      rw [hc, Nat.mul_one] at g1
      refine ⟨i, ?_, g2⟩
      have := congrArg (fun l : List AV => l[0]?) g1
      simp only [List.getElem?_take, List.getElem?_drop, List.getElem?_cons_zero] at this
      simpa using this
    refine ⟨by rw [GL_eq h3, h4], okI_of fun j hj => ?_, fun j hj => ?_⟩
    · obtain ⟨i, g1, _⟩ := key j hj
      rw [GL_eq h3, Nat.zero_add]
      simp [isI, g1]
    · obtain ⟨i, g1, g2⟩ := key j hj
      rw [GL_eq h3]
      simp [getI, g1, g2]

theorem ArgD.slice (ht : P.underlying t = some (.slice e)) (h : ArgD P L n t a d) : TyD P L n t [a] d := by unfold ArgD at h; rw [ht] at h; exact h
theorem ArgD.int {k : IntKind} (ht : P.underlying t = some (.int k)) (h : ArgD P L n t a d) : TyD P L n t [a] d := by unfold ArgD at h; rw [ht] at h; exact h
theorem ArgD.bool (ht : P.underlying t = some .bool) (h : ArgD P L n t a d) : TyD P L n t [a] d := by unfold ArgD at h; rw [ht] at h; exact h
theorem ArgD.struct {fs : Array Field} (ht : P.underlying t = some (.struct fs)) (h : ArgD P L n t a d) : ∃ cs, a = .agg cs ∧ TyD P L n t cs d := by unfold ArgD at h; rw [ht] at h; exact h
theorem ArgD.array {m : Nat} (ht : P.underlying t = some (.array m e)) (h : ArgD P L n t a d) : ∃ cs, a = .agg cs ∧ TyD P L n t cs d := by unfold ArgD at h; rw [ht] at h; exact h
theorem ArgDs.nil {xs : List AV} {ds : List (DataW H)} (h : ArgDs P L n [] xs ds) : xs = [] ∧ ds = [] := by
  match xs, ds, h with
  | [], [], _ => exact ⟨rfl, rfl⟩
theorem ArgDs.cons {ts : List TypeId} {xs : List AV} {ds : List (DataW H)} (h : ArgDs P L n (t :: ts) xs ds) : ∃ x xs' d ds', xs = x :: xs' ∧ ds = d :: ds' ∧ ArgD P L n t x d ∧ ArgDs P L n ts xs' ds' := by
  match xs, ds, h with
  | x :: xs, d :: ds, h => exact ⟨x, xs, d, ds, rfl, rfl, h.1, h.2⟩
/-- beyond the list nothing stands -/
theorem GL_out {L : List RoE} {k : Nat} (h : L.length ≤ k) : GL L k = [] := by simp [GL, h]

/-- nil, as a slice of nothing -/
theorem VR_nils {ρ : Env} {v : Value} (k o : Nat) (h : VR ρ .nils v) : VR ρ (.slice true (.ro k) o 0) v := by
  simp only [VR] at h ⊢
  subst h
  exact ⟨none, 0, rfl, Nat.le_refl _, .inl ⟨rfl, rfl, rfl⟩⟩
theorem VR_may {ρ : Env} {v : Value} {mb : Bool} {r : Ref} {o m : Nat} (h : VR ρ (.slice mb r o m) v) : VR ρ (.slice true r o m) v := by
  simp only [VR] at h ⊢
  obtain ⟨ca, cap, h1, h2, h3⟩ := h
  refine ⟨ca, cap, h1, h2, ?_⟩
  rcases h3 with ⟨h3, h4, _⟩ | h3
  · exact .inl ⟨h3, h4, rfl⟩
  · exact .inr h3
end
end Go.Am
