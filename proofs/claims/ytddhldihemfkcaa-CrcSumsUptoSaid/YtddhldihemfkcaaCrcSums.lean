/-
  CrcSums, for what is of bulk at most 1048576: the sums of pieces are the bit by bit rule's.
-/
import Derived.Test.YtddhldihemfkcaaCrcLaw1
import Derived.Test.YtddhldihemfkcaaAmArgs
import Derived.Test.YtddhldihemfkcaaRows
namespace Go.Proofs.Ytddhldihemfkcaa
open Go.Am Go.ChangeShapes Go.WideShapes Go.ChangeAt Go.RowKit Crc
set_option maxRecDepth 100000

theorem one_le {H : Type} (d : DataW H) : 1 ≤ Rows.uptoBulk d := by
  cases d with
  | lit l => cases l <;> simp [Rows.uptoBulk]
  | nil => simp [Rows.uptoBulk]
  | ptr d => simp [Rows.uptoBulk]
  | slice elems spare => simp [Rows.uptoBulk]
  | agg parts => simp [Rows.uptoBulk]
  | iface t d => simp [Rows.uptoBulk]
  | map entries => simp [Rows.uptoBulk]
  | held h => simp [Rows.uptoBulk]
theorem length_le {H : Type} (l : List (DataW H)) : l.length ≤ Rows.uptoBulkAll l := by
  induction l with
  | nil => simp [Rows.uptoBulkAll]
  | cons x r ih => have := one_le x; simp only [Rows.uptoBulkAll, List.length_cons]; omega
theorem bulk_take {H : Type} (l : List (DataW H)) (i : Nat) (x : DataW H) (h : l[i]? = some x) : Rows.uptoBulkAll (l.take i) + Rows.uptoBulk x ≤ Rows.uptoBulkAll (l.take (i + 1)) := by
  induction l generalizing i with
  | nil => simp at h
  | cons y l ih =>
    cases i with
    | zero => simp at h; subst h; simp [Rows.uptoBulkAll]
    | succ i =>
      have := ih i (by simpa using h)
      simp only [List.take_succ_cons, Rows.uptoBulkAll] at *
      omega
theorem bulk_le {H : Type} (l : List (DataW H)) (i : Nat) : Rows.uptoBulkAll (l.take i) ≤ Rows.uptoBulkAll l := by
  induction l generalizing i with
  | nil => simp [Rows.uptoBulkAll]
  | cons y l ih =>
    cases i with
    | zero => simp [Rows.uptoBulkAll]
    | succ i => have := ih i; simp only [List.take_succ_cons, Rows.uptoBulkAll]; omega

theorem sums_main {H : Type} (L : List RoE) (B : Nat) (xs : List AV) (ds : List (DataW H)) (hN : ∀ k, (GL L k).all norw = true) (hA : ArgDs Try.prog L 8 [22, 23, 3] xs ds) (hk : Rows.uptoBulkAll ds ≤ 1048576) :
    ACalls ⟨Try.prog, GL L, B⟩ 3 xs [] fun v _ => v = .bool true := by
  obtain ⟨a, _, d1, _, rfl, rfl, h1, hA⟩ := hA.cons
  obtain ⟨b, _, d2, _, rfl, rfl, h2, hA⟩ := hA.cons
  obtain ⟨c, _, d3, _, rfl, rfl, h3, hA⟩ := hA.cons
  obtain ⟨rfl, rfl⟩ := hA.nil
  have h1 := ArgD.slice (e := 24) (by kernel_rfl) h1
  have h2 := ArgD.int (k := .u32) (by kernel_rfl) h2
  have h3 := ArgD.int (k := .i64) (by kernel_rfl) h3
  obtain ⟨s, e2, w2, rfl⟩ := TyD.asInt (k := .u32) (by kernel_rfl) h2
  obtain ⟨m, e3, w3, rfl⟩ := TyD.asInt (k := .i64) (by kernel_rfl) h3
  simp only [List.cons.injEq, and_true] at e2 e3
  subst e2 e3
  have ws := wf_u32 w2
  have wm := wf_i64 w3
  rw [← u_w32 ws]
  have c1 : Try.prog.cellsOf 24 = 1 := by kernel_rfl
  have c2 : Try.prog.cellsOf 5 = 1 := by kernel_rfl
  rcases TyD.asSlice (e := 24) (by kernel_rfl) h1 with ⟨e1, rfl⟩ | ⟨k, es, sp, en, e1, rfl, q1, q2, q3, q4⟩
  · simp only [List.cons.injEq, and_true] at e1
    subst e1
    refine ACalls.weaken (law1 (GL L) B L.length 0 true (w32 s) m wm.2 (by simp [lOk]) (by omega) (by simp [pieces]) (by rw [GL_out (Nat.le_refl _)]; rfl) (fun j hj => by omega)) ?_
    intro ρ vs hv
    simp only [VRs] at hv ⊢
    obtain ⟨v, vs', r1, r2, r3⟩ := hv
    exact ⟨v, vs', r1, VR_nils _ _ r2, r3⟩
  · simp only [List.cons.injEq, and_true] at e1
    subst e1
    have hG : GL L k = en.cells := GL_eq q1
    rw [c1, Nat.mul_one] at q2
    have key : ∀ j x, es[j]? = some x → (isRS (GL L k) j = true ∧ roO (GL L k) j = 0 ∧ okI .u8 (GL L (roK (GL L k) j)) 0 (roN (GL L k) j) = true) ∧ roN (GL L k) j ≤ Rows.uptoBulk x := by
      intro j x hx
      have hj := q4 j x hx
      rw [c1, Nat.mul_one] at hj
      have hjl : j < es.length := (List.getElem?_eq_some_iff.1 hx).1
      have hcell : ∀ v, List.take 1 (List.drop j en.cells) = [v] → en.cells[j]? = some v := fun v hv => by
        have := congrArg (fun l : List AV => l[0]?) hv
        simpa [List.getElem?_take, List.getElem?_drop] using this
      rcases TyD.asInts (kd := .u8) (e := 5) (by kernel_rfl) (by kernel_rfl) c2 hj with ⟨g1, rfl⟩ | ⟨k', ds', sp', g1, rfl, g3, g4⟩
      · have := hcell _ g1
        rw [hG]
        simp [isRS, roO, roK, roN, this, okI]
      · have hc := hcell _ g1
        rw [hG]
        have hb : ds'.length ≤ Rows.uptoBulk (DataW.slice ds' sp') := by
          have := length_le ds'
          simp only [Rows.uptoBulk]; omega
        simp only [isRS, roO, roK, roN, hc]
        exact ⟨⟨trivial, trivial, g4.ok⟩, hb⟩
    have hlOk : lOk (GL L) k es.length = true := by
      simp only [lOk, List.all_eq_true, List.mem_range, Bool.and_eq_true]
      intro j hj
      obtain ⟨⟨k1, k2, k3⟩, _⟩ := key j es[j] (List.getElem?_eq_getElem hj)
      exact ⟨k1, by rw [k2]; rfl, k3⟩
    have hlen : ∀ i, i ≤ es.length → (pieces (GL L) k 0 i).length ≤ Rows.uptoBulkAll (es.take i) := by
      intro i
      induction i with
      | zero => intro _; simp [pieces, Rows.uptoBulkAll]
      | succ i ih =>
        intro hi
        have hx := List.getElem?_eq_getElem (l := es) (i := i) (by omega)
        have b1 := bulk_take es i _ hx
        have b2 := (key i _ hx).2
        have b3 := ih (by omega)
        rw [pieces_succ, List.length_append, piece_len, Nat.zero_add]
        omega
    have htot : (pieces (GL L) k 0 es.length).length ≤ 1048576 := by
      have b1 := hlen es.length (Nat.le_refl _)
      rw [List.take_length] at b1
      simp only [Rows.uptoBulkAll, Rows.uptoBulk] at hk
      omega
    have hn : es.length ≤ 9223372036854775807 := by
      have := q3
      simp only [maxLen] at this
      omega
    exact law1 (GL L) B k es.length false (w32 s) m wm.2 hlOk hn (by omega) (hN k) (fun j _ => hN _)

theorem sums_lifted (os : Os) (started : os.Started) (H : Type) (enc : TypeId × Value → H) (F : Stop.Interp) :
    ReturnsInHanded {} Try.checked os 3 .any ((Rows.OpenSpec.upto Rows.crcSumsSpec).pre6 enc Try.prog Try.f3 Rows.crcSumsUptoRow.domain false) (((Rows.OpenSpec.upto Rows.crcSumsSpec).at F).post enc Try.prog Try.f3 false true false false) := by
  refine returnsInHanded_of_cond (C := Try.checked) (s := Rows.OpenSpec.upto Rows.crcSumsSpec) (k := Rows.uptoSmall) rfl (by kernel_rfl) started (by kernel_rfl) Try.func3
    (OpenSpec.witness (enc := enc) (C := Try.checked) (s := Rows.OpenSpec.upto Rows.crcSumsSpec) (k := Rows.uptoSmall) rfl false ⟨#[], #[.slice none 0 0, .int .u32 0, .int .i64 0], []⟩ 8 (by kernel_rfl) (by kernel_rfl) (by kernel_rfl)
      (x := ([.nil, .lit (.int .u32 0), .lit (.int .i64 0)], [], [])) (by kernel_rfl) rfl (by kernel_rfl)) ?_
  intro W base args ds gs before hval hW _ hk _
  have hW' := hW
  obtain ⟨p, q, hA, hV, rfl, _⟩ := hW'
  obtain ⟨rfl, rfl⟩ := trodVars_none hV
  have hk : Rows.uptoBulkAll ds ≤ 1048576 := by rw [List.append_nil] at hk; exact of_decide_eq_true hk
  have hpar : Try.f3.params.toList = [22, 23, 3] := by kernel_rfl
  refine law_contract (n := 8) (tb := 4) (by kernel_rfl) (fun t ht => ?_) (by kernel_rfl) (by kernel_rfl) rfl hval hW ?_ ?_
  · rw [hpar] at ht
    simp only [List.mem_cons, List.not_mem_nil, or_false] at ht
    rcases ht with rfl | rfl | rfl
    · exact ⟨by kernel_rfl, by kernel_rfl, of_decide_eq_true (by kernel_rfl)⟩
    · exact ⟨by kernel_rfl, by kernel_rfl, of_decide_eq_true (by kernel_rfl)⟩
    · exact ⟨by kernel_rfl, by kernel_rfl, of_decide_eq_true (by kernel_rfl)⟩
  · have hlen := (DataW.TrodAll.len hA).2
    rw [hpar] at hlen
    match ds, hlen with
    | [d1, d2, d3], _ => rfl
  · intro L B xs hN hA
    rw [hpar] at hA
    exact sums_main L B xs ds hN hA hk

theorem sums_over : Rows.crcSumsUptoRow.holds Try.pinned (Rows.OpenSpec.upto Rows.crcSumsSpec) :=
  OpenClaim.holds_of_cond 3 Try.f3 rfl rfl rfl rfl rfl rfl rfl ⟨rfl, rfl, rfl, rfl, rfl⟩ rfl rfl rfl rfl rfl (by kernel_rfl) Try.func3 (by kernel_rfl)
    (of_decide_eq_true (by kernel_rfl)) (by unfold Func.isWrapper; first | (rw [if_pos (by decide +kernel)]; kernel_rfl) | (rw [if_neg (by decide +kernel)]; exact ⟨rfl, rfl⟩))
    (fun os started H enc _ F => sums_lifted os started H enc F)
theorem crcSumsUpto_proved : Rows.CrcSumsUptoSaid := sums_over
#print axioms crcSumsUpto_proved
end Go.Proofs.Ytddhldihemfkcaa
