/-
  The pure operations of the abstract machine, against the model's.
-/
import Derived.Test.YtopenjkaifbnmaaAmRel
import Derived.ChangeKeysEq
namespace Go.Am
open Go.RowKit

theorem eqOp_some {op : BinOp} {c b : Bool} {v : AV} (h : eqOp op c b = some (true, v)) : c = true ∧ ((op = .eql ∧ v = .bool b) ∨ (op = .neq ∧ v = .bool (!b))) := by
  unfold eqOp at h
  split at h
  · simp at h; exact ⟨h.1, .inl ⟨rfl, h.2.symm⟩⟩
  · simp at h; exact ⟨h.1, .inr ⟨rfl, h.2.symm⟩⟩
  · simp at h

theorem isPtrT_some {d : Option TypeDesc} (h : isPtrT d = true) : ∃ e, d = some (.pointer e) := by
  unfold isPtrT at h; split at h
  · exact ⟨_, rfl⟩
  · simp at h
theorem isSliceT_some {d : Option TypeDesc} (h : isSliceT d = true) : ∃ e, d = some (.slice e) := by
  unfold isSliceT at h; split at h
  · exact ⟨_, rfl⟩
  · simp at h
theorem isFuncT_some {d : Option TypeDesc} (h : isFuncT d = true) : ∃ a b c, d = some (.func a b c) := by
  unfold isFuncT at h; split at h
  · exact ⟨_, _, _, rfl⟩
  · simp at h
theorem isBoolT_some {d : Option TypeDesc} (h : isBoolT d = true) : d = some .bool := by
  unfold isBoolT at h; split at h
  · rfl
  · simp at h

/-- '==' and '!=' where 'equal' says b -/
theorem binOp_eq {P : Program} {w : World} {op : BinOp} {t : TypeId} {x y : Value} {b : Bool} {v : AV} {ρ : Env}
    (he : binOp .eql t x y = (do pure (.bool (← Op.equal t x y)))) (hn : binOp .neq t x y = (do pure (.bool (!(← Op.equal t x y)))))
    (hb : (Op.equal t x y).run P w = .ok b w) (hv : (op = .eql ∧ v = .bool b) ∨ (op = .neq ∧ v = .bool (!b))) :
    ∃ cv, (binOp op t x y).run P w = .ok cv w ∧ VR ρ v cv := by
  rcases hv with ⟨rfl, rfl⟩ | ⟨rfl, rfl⟩
  · exact ⟨.bool b, by rw [he]; simp [hb], by simp [VR]⟩
  · exact ⟨.bool (!b), by rw [hn]; simp [hb], by simp [VR]⟩

def toV : AV → Value
  | .int k n => .int k n
  | .bool b => .bool b
  | _ => .tuple #[]

theorem binInt_sound {P : Program} {w : World} {ρ : Env} {op : BinOp} {k : IntKind} {a b : Int} {v : AV} (t : TypeId) (hs : op ≠ .shl ∧ op ≠ .shr) (h : binInt op k a b = some (true, v)) :
    ∃ cv, (binOp op t (.int k a) (.int k b)).run P w = .ok cv w ∧ VR ρ v cv := by
  cases op <;> simp only [binInt, Option.some.injEq, Prod.mk.injEq, true_and, Bool.not_eq_true', reduceCtorEq] at h <;> first
    | (subst h; refine ⟨toV (.int _ _), ?_, by simp only [VR, toV]; rfl⟩; simp [binOp, toV, Op.intArith, Op.intBits, kAnd, kOr, kXor, kAndNot]; done)
    | (subst h; refine ⟨toV (.bool _), ?_, by simp only [VR, toV]; rfl⟩; simp [binOp, toV, Op.intCmp]; done)
    | (obtain ⟨h0, rfl⟩ := h; refine ⟨toV (.int _ _), ?_, by simp only [VR, toV]; rfl⟩; simp [binOp, toV, Op.intDiv, (beq_eq_false_iff_ne.1 h0)]; done)

theorem binShift_sound {P : Program} {w : World} {ρ : Env} {op : BinOp} {k k' : IntKind} {a b : Int} {v : AV} (t : TypeId) (h : binShift op k a b = some (true, v)) :
    ∃ cv, (binOp op t (.int k a) (.int k' b)).run P w = .ok cv w ∧ VR ρ v cv := by
  cases op <;> simp only [binShift, Option.some.injEq, Prod.mk.injEq, reduceCtorEq] at h
  · obtain ⟨h0, rfl⟩ := h
    have h0 : ¬ b < 0 := by have := of_decide_eq_true h0; omega
    refine ⟨toV (.int _ _), ?_, by simp only [VR, toV]; rfl⟩
    simp [binOp, toV, Op.shift, h0, kShl, kShr]
  · obtain ⟨h0, rfl⟩ := h
    have h0 : ¬ b < 0 := by have := of_decide_eq_true h0; omega
    refine ⟨toV (.int _ _), ?_, by simp only [VR, toV]; rfl⟩
    simp [binOp, toV, Op.shift, h0, kShl, kShr]

theorem toList_mk (s : List UInt8) : (ByteArray.mk s.toArray).toList = s := by rw [ByteArray.toList_eq]

theorem binStr_sound {P : Program} {w : World} {ρ : Env} {op : BinOp} {a b : List UInt8} {v : AV} (t : TypeId) (h : binStr op a b = some (true, v)) :
    ∃ cv, (binOp op t (.string ⟨a.toArray⟩) (.string ⟨b.toArray⟩)).run P w = .ok cv w ∧ VR ρ v cv := by
  cases op <;> simp only [binStr, Option.some.injEq, Prod.mk.injEq, true_and, reduceCtorEq] at h
  · obtain ⟨h0, rfl⟩ := h
    have h0 := of_decide_eq_true h0
    refine ⟨.string ⟨(a ++ b).toArray⟩, ?_, by simp [VR]⟩
    have e1 : (ByteArray.mk a.toArray).size = a.length := by simp [ByteArray.size]
    have e2 : (ByteArray.mk b.toArray).size = b.length := by simp [ByteArray.size]
    have e3 : (ByteArray.mk a.toArray) ++ (ByteArray.mk b.toArray) = ⟨(a ++ b).toArray⟩ := by
      apply ByteArray.ext
      rw [ByteArray.data_append]
      simp
    have hm : ¬ (((ByteArray.mk a.toArray).size + (ByteArray.mk b.toArray).size : Nat) : Int) > IntKind.i64.max := by
      rw [e1, e2]; simp [IntKind.max, IntKind.bits, IntKind.signed]; omega
    simp only [binOp, Op.stringOp]
    rw [if_neg hm, e3]
    rfl
  · subst h
    refine ⟨toV (.bool _), ?_, by simp only [VR, toV]; rfl⟩
    simp [binOp, toV, Op.stringOp, toList_mk]
  · subst h
    refine ⟨toV (.bool _), ?_, by simp only [VR, toV]; rfl⟩
    simp [binOp, toV, Op.stringOp, toList_mk]

theorem run_typeInfo' {P : Program} {t : TypeId} {i : TypeInfo} (h : P.info? t = some i) (w : World) : (typeInfo t).run P w = .ok i w := by simp [typeInfo, h]

theorem sizeT_some {P : Program} {t : TypeId} {z : Nat} (h : sizeT P t = some z) : ∃ i, P.info? t = some i ∧ i.size = z := by
  unfold sizeT at h
  cases hi : P.info? t with
  | none => simp [hi] at h
  | some i => simp [hi] at h; exact ⟨i, rfl, h⟩

theorem run_sizeOf' {P : Program} {t : TypeId} {z : Nat} (h : sizeT P t = some z) (w : World) : (sizeOf t).run P w = .ok z w := by
  obtain ⟨i, hi, rfl⟩ := sizeT_some h
  simp [sizeOf, run_typeInfo' hi]

def aggD : TypeDesc → Bool
  | .struct _ | .array _ _ => true
  | _ => false

theorem isI_some {k : IntKind} {cs : List AV} {off : Nat} (h : isI k cs off = true) : cs[off]? = some (.int k (getI cs off)) := by
  unfold isI at h
  split at h
  · rename_i k' n hc
    simp at h; subst h
    simp [getI, hc]
  · simp at h
theorem isB_some {cs : List AV} {off : Nat} (h : isB cs off = true) : cs[off]? = some (.bool (getB cs off)) := by
  unfold isB at h
  split at h
  · rename_i b hc; simp [getB, hc]
  · simp at h

theorem isAgg_of {P : Program} {t : TypeId} {d : TypeDesc} (ht : P.underlying t = some d) (w : World) :
    (isAgg t).run P w = .ok (aggD d) w := by
  unfold isAgg
  simp only [Sem.run_bind, run_underlying ht, Result.andThen_ok]
  cases d <;> rfl

theorem part_sound {P : Program} {ρ : Env} {w : World} {cs : List AV} {vs : Array Value} (hv : VRs ρ cs vs.toList) {off : Nat} {t : TypeId} {v : AV} (h : partA P t cs off = some (true, v)) :
    ∃ cv, (part t vs off).run P w = .ok cv w ∧ VR ρ v cv := by
  have one : ∀ {d v}, P.underlying t = some d → aggD d = false → cs[off]? = some v → ∃ cv, (part t vs off).run P w = .ok cv w ∧ VR ρ v cv := by
    intro d v hd hb hx
    obtain ⟨cv, h1, h2⟩ := VRs_get hv off v hx
    refine ⟨cv, ?_, h2⟩
    have : vs[off]? = some cv := by simpa using h1
    unfold part
    simp only [Sem.run_bind, isAgg_of hd, Result.andThen_ok, hb, Bool.false_eq_true, if_false, this, Sem.run_pure]
  have many : ∀ {d z}, P.underlying t = some d → aggD d = true → sizeT P t = some z → off + z ≤ cs.length →
      ∃ cv, (part t vs off).run P w = .ok cv w ∧ VR ρ (.agg ((cs.drop off).take z)) cv := by
    intro d z hd hb hz hl
    refine ⟨.agg (vs.extract off (off + z)), ?_, ?_⟩
    · unfold part
      simp only [Sem.run_bind, isAgg_of hd, Result.andThen_ok, hb, if_true, run_sizeOf' hz, Sem.run_pure]
    · simp only [VR]
      refine ⟨_, rfl, ?_⟩
      have := VRs_take (VRs_drop hv off) z
      simpa [List.extract_eq_take_drop] using this
  unfold partA at h
  split at h
  · rename_i k hd
    simp only [Option.some.injEq, Prod.mk.injEq] at h
    obtain ⟨h1, rfl⟩ := h
    exact one hd rfl (isI_some h1)
  · rename_i hd
    simp only [Option.some.injEq, Prod.mk.injEq] at h
    obtain ⟨h1, rfl⟩ := h
    exact one hd rfl (isB_some h1)
  · rename_i fs hd
    split at h
    · rename_i z hz
      simp only [Option.some.injEq, Prod.mk.injEq, decide_eq_true_eq] at h
      obtain ⟨h1, rfl⟩ := h
      exact many hd rfl hz h1
    · simp at h
  · rename_i n e hd
    split at h
    · rename_i z hz
      simp only [Option.some.injEq, Prod.mk.injEq, decide_eq_true_eq] at h
      obtain ⟨h1, rfl⟩ := h
      exact many hd rfl hz h1
    · simp at h
  · rename_i d h1 h2 h3 h4 hd
    split at h
    · rename_i v' hv'
      simp only [Option.some.injEq, Prod.mk.injEq, true_and] at h
      subst h
      refine one hd ?_ hv'
      cases d <;> first | rfl | exact absurd rfl (h3 _) | exact absurd rfl (h4 _ _)
    · simp at h
  · simp at h


theorem eqFs_sound {P : Program} {ρ : Env} {w : World} {d : Nat} {rec : TypeId → AV → AV → Option (Bool × Bool)} (hrec : ∀ t x y cx cy b, VR ρ x cx → VR ρ y cy → rec t x y = some (true, b) → (Op.equalIn d t cx cy).run P w = .ok b w)
    {xs ys : List AV} {cxs cys : Array Value} (hx : VRs ρ xs cxs.toList) (hy : VRs ρ ys cys.toList) : ∀ (fs : List Field) (b : Bool), eqFs P rec xs ys fs = some (true, b) → (Op.eqFields d cxs cys fs).run P w = .ok b w
  | [], b, h => by simp [eqFs] at h; subst h; simp [Op.eqFields]
  | f :: fs, b, h => by
    unfold eqFs at h
    split at h
    · rename_i hn
      split at h
      · rename_i c1 a c2 b' h1 h2
        split at h
        · rename_i c3 r c4 s h3 h4
          simp only [Option.some.injEq, Prod.mk.injEq, Bool.and_eq_true] at h
          obtain ⟨⟨rfl, rfl, rfl, rfl⟩, rfl⟩ := h
          obtain ⟨ca, g1, g2⟩ := part_sound (w := w) hx h1
          obtain ⟨cb, g3, g4⟩ := part_sound (w := w) hy h2
          have g5 := hrec _ _ _ _ _ _ g2 g4 h3
          have ih := eqFs_sound hrec hx hy fs s h4
          simp only [Op.eqFields, if_pos hn, Sem.run_bind, g1, g3, g5, Result.andThen_ok]
          cases r
          · simp
          · simpa using ih
        · simp at h
      · simp at h
    · rename_i hn
      have ih := eqFs_sound hrec hx hy fs b h
      simp only [Op.eqFields, if_neg hn]
      exact ih

theorem eqIs_sound {P : Program} {ρ : Env} {w : World} {d : Nat} {rec : TypeId → AV → AV → Option (Bool × Bool)} (hrec : ∀ t x y cx cy b, VR ρ x cx → VR ρ y cy → rec t x y = some (true, b) → (Op.equalIn d t cx cy).run P w = .ok b w)
    {e : TypeId} {z : Nat} {xs ys : List AV} {cxs cys : Array Value} (hx : VRs ρ xs cxs.toList) (hy : VRs ρ ys cys.toList) : ∀ (is : List Nat) (b : Bool), eqIs P rec e z xs ys is = some (true, b) → (Op.eqItems d e z cxs cys is).run P w = .ok b w
  | [], b, h => by simp [eqIs] at h; subst h; simp [Op.eqItems]
  | i :: is, b, h => by
    unfold eqIs at h
    split at h
    · rename_i c1 a c2 b' h1 h2
      split at h
      · rename_i c3 r c4 s h3 h4
        simp only [Option.some.injEq, Prod.mk.injEq, Bool.and_eq_true] at h
        obtain ⟨⟨rfl, rfl, rfl, rfl⟩, rfl⟩ := h
        obtain ⟨ca, g1, g2⟩ := part_sound (w := w) hx h1
        obtain ⟨cb, g3, g4⟩ := part_sound (w := w) hy h2
        have g5 := hrec _ _ _ _ _ _ g2 g4 h3
        have ih := eqIs_sound hrec hx hy is s h4
        simp only [Op.eqItems, Sem.run_bind, g1, g3, g5, Result.andThen_ok]
        cases r
        · simp
        · simpa using ih
      · simp at h
    · simp at h

theorem eqV_sound {P : Program} {ρ : Env} {w : World} : ∀ (n d : Nat) (t : TypeId) (x y : AV) (cx cy : Value) (b : Bool), n ≤ d → VR ρ x cx → VR ρ y cy → eqV P n t x y = some (true, b) → (Op.equalIn d t cx cy).run P w = .ok b w
  | 0, d, t, x, y, cx, cy, b, _, _, _, h => by simp [eqV] at h
  | n + 1, d, t, x, y, cx, cy, b, hd, hx, hy, h => by
    obtain ⟨d, rfl⟩ : ∃ d', d = d' + 1 := ⟨d - 1, by omega⟩
    have hrec : ∀ t x y cx cy b, VR ρ x cx → VR ρ y cy → eqV P n t x y = some (true, b) → (Op.equalIn d t cx cy).run P w = .ok b w := fun t x y cx cy b h1 h2 h3 => eqV_sound n d t x y cx cy b (by omega) h1 h2 h3
    unfold eqV at h
    split at h
    · rename_i k hu
      split at h
      · simp only [Option.some.injEq, Prod.mk.injEq, decide_eq_true_eq] at h
        obtain ⟨rfl, rfl⟩ := h
        simp only [VR] at hx hy; subst hx hy
        exact run_equalIn_int w d t _ k _ _ hu
      · simp at h
    · rename_i hu
      split at h
      · simp only [Option.some.injEq, Prod.mk.injEq, true_and] at h
        subst h
        simp only [VR] at hx hy; subst hx hy
        exact run_equalIn_bool' w d t _ _ hu
      · simp at h
    · rename_i hu
      split at h
      · simp only [Option.some.injEq, Prod.mk.injEq, true_and] at h
        subst h
        simp only [VR] at hx hy; subst hx hy
        rw [run_equalIn_string w d t _ _ hu, toList_mk, toList_mk]
      · simp at h
    · rename_i fs hu
      split at h
      · split at h
        · simp at h
        · rename_i hs
          simp only [VR] at hx hy
          obtain ⟨cxs, rfl, hx⟩ := hx
          obtain ⟨cys, rfl, hy⟩ := hy
          have hf : P.fieldsOf t = fs := by simp [Program.fieldsOf, hu]
          rw [run_equalIn_struct w d t cxs cys (by rw [hf]; exact hu) hs, hf]
          exact eqFs_sound hrec hx hy _ _ h
      · simp at h
    · rename_i m e hu
      split at h
      · split at h
        · rename_i z hz
          simp only [VR] at hx hy
          obtain ⟨cxs, rfl, hx⟩ := hx
          obtain ⟨cys, rfl, hy⟩ := hy
          obtain ⟨i, hi, hsz⟩ := sizeT_some hz
          rw [run_equalIn_array w d cxs cys hu hi]
          have hc : P.cellsOf e = z := by simp [Program.cellsOf, hi, hsz]
          rw [hc]
          exact eqIs_sound hrec hx hy _ _ h
        · simp at h
      · simp at h
    · simp at h

theorem of_equalIn {P : Program} {w : World} {t : TypeId} {x y : Value} {r : Result Bool} (h : ∀ d, (Op.equalIn (d + 1) t x y).run P w = r) : (Op.equal t x y).run P w = r := h 9999

theorem equal_bool {P : Program} {w : World} {t : TypeId} (ht : P.underlying t = some .bool) (a b : Bool) : (Op.equal t (.bool a) (.bool b)).run P w = .ok (a == b) w := by
  exact of_equalIn fun d => by simp [Op.equalIn, run_underlying ht]
theorem equal_ptr_nil {P : Program} {w : World} {t e : TypeId} (ht : P.underlying t = some (.pointer e)) (a : Addr) : (Op.equal t (.pointer (some a)) (.pointer none)).run P w = .ok false w := by
  exact of_equalIn fun d => by simp [Op.equalIn, run_underlying ht]
theorem equal_nil_ptr {P : Program} {w : World} {t e : TypeId} (ht : P.underlying t = some (.pointer e)) (a : Option Addr) : (Op.equal t (.pointer none) (.pointer a)).run P w = .ok a.isNone w := by
  exact of_equalIn fun d => by simp [Op.equalIn, run_underlying ht]
theorem equal_slice_nil {P : Program} {w : World} {t e : TypeId} (ht : P.underlying t = some (.slice e)) (a : Option Addr) (n c : Nat) : (Op.equal t (.slice a n c) (.slice none 0 0)).run P w = .ok a.isNone w := by
  exact of_equalIn fun d => by cases a <;> simp [Op.equalIn, run_underlying ht]
theorem equal_func_nil {P : Program} {w : World} {t : TypeId} {x y : Array TypeId} {z : Bool} (ht : P.underlying t = some (.func x y z)) (f : Fn) (a b : Array Value) : (Op.equal t (.func f a b) .nilFunc).run P w = .ok false w := by
  exact of_equalIn fun d => by simp [Op.equalIn, run_underlying ht]
theorem equal_nil_func {P : Program} {w : World} {t : TypeId} {x y : Array TypeId} {z : Bool} (ht : P.underlying t = some (.func x y z)) : (Op.equal t .nilFunc .nilFunc).run P w = .ok true w := by
  exact of_equalIn fun d => by simp [Op.equalIn, run_underlying ht]

theorem binAV_sound {P : Program} {w : World} {ρ : Env} {op : BinOp} {t : TypeId} {x y v : AV} {cx cy : Value} (hx : VR ρ x cx) (hy : VR ρ y cy)
    (h : binAV P op t x y = some (true, v)) : ∃ cv, (binOp op t cx cy).run P w = .ok cv w ∧ VR ρ v cv := by
  unfold binAV at h
  split at h
  · rename_i k a k' b
    simp only [VR] at hx hy
    subst hx hy
    split at h
    · exact binShift_sound t h
    · exact binShift_sound t h
    · rename_i h1 h2
      split at h
      · rename_i hk; subst hk
        exact binInt_sound t ⟨h1, h2⟩ h
      · simp at h
  · simp only [VR] at hx hy
    subst hx hy
    exact binStr_sound t h
  · simp only [VR] at hx hy
    subst hx hy
    obtain ⟨hc, hv⟩ := eqOp_some h
    exact binOp_eq rfl rfl (equal_bool (isBoolT_some hc) _ _) hv
  · rename_i r off
    simp only [VR] at hx hy
    subst hy
    obtain ⟨hc, hv⟩ := eqOp_some h
    obtain ⟨e, he⟩ := isPtrT_some hc
    cases r with
    | rw i => obtain ⟨_, _, rfl⟩ := hx; exact binOp_eq rfl rfl (equal_ptr_nil he _) hv
    | ro i => obtain ⟨_, _, _, rfl⟩ := hx; exact binOp_eq rfl rfl (equal_ptr_nil he _) hv
  · rename_i r off
    simp only [VR] at hx hy
    subst hx
    obtain ⟨hc, hv⟩ := eqOp_some h
    obtain ⟨e, he⟩ := isPtrT_some hc
    cases r with
    | rw i => obtain ⟨_, _, rfl⟩ := hy; exact binOp_eq rfl rfl (equal_nil_ptr he _) hv
    | ro i => obtain ⟨_, _, _, rfl⟩ := hy; exact binOp_eq rfl rfl (equal_nil_ptr he _) hv
  · simp only [VR] at hx hy
    subst hx hy
    obtain ⟨hc, hv⟩ := eqOp_some h
    obtain ⟨e, he⟩ := isPtrT_some hc
    exact binOp_eq rfl rfl (equal_nil_ptr he _) hv
  · rename_i r off len
    simp only [VR] at hx hy
    subst hy
    obtain ⟨hc, hv⟩ := eqOp_some h
    obtain ⟨e, he⟩ := isSliceT_some hc
    obtain ⟨ca, cap, rfl, hl, hca⟩ := hx
    have hs : ∃ y, ca = some y := by
      rcases hca with ⟨_, _, h⟩ | ⟨h, _⟩ | h
      · simp at h
      · exact h
      · cases r with
        | rw i => obtain ⟨_, _, h, _⟩ := h; exact ⟨_, h⟩
        | ro i => obtain ⟨_, _, _, h⟩ := h; exact ⟨_, h⟩
    obtain ⟨y, rfl⟩ := hs
    exact binOp_eq rfl rfl (equal_slice_nil he _ _ _) hv
  · simp only [VR] at hx hy
    subst hx hy
    obtain ⟨hc, hv⟩ := eqOp_some h
    obtain ⟨e, he⟩ := isSliceT_some hc
    exact binOp_eq rfl rfl (equal_slice_nil he _ _ _) hv
  · simp only [VR] at hx hy
    subst hy
    obtain ⟨hc, hv⟩ := eqOp_some h
    obtain ⟨_, _, _, he⟩ := isFuncT_some hc
    obtain ⟨cs, rfl, _⟩ := hx
    exact binOp_eq rfl rfl (equal_func_nil he _ _ _) hv
  · simp only [VR] at hx hy
    subst hx hy
    obtain ⟨hc, hv⟩ := eqOp_some h
    obtain ⟨_, _, _, he⟩ := isFuncT_some hc
    exact binOp_eq rfl rfl (equal_nil_func he) hv
  · rename_i xs ys
    split at h
    · simp at h
    · split at h
      · rename_i c b he
        obtain ⟨hc, hv⟩ := eqOp_some h
        subst hc
        have := eqV_sound (P := P) (ρ := ρ) (w := w) 10 10000 t _ _ cx cy b (by omega) hx hy he
        simp only [VR] at hx hy
        obtain ⟨cxs, rfl, hx⟩ := hx
        obtain ⟨cys, rfl, hy⟩ := hy
        rcases hv with ⟨rfl, rfl⟩ | ⟨rfl, rfl⟩
        · exact ⟨.bool b, by rw [run_eql_struct, this]; rfl, by simp [VR]⟩
        · exact ⟨.bool (!b), by rw [run_neq_struct, this]; rfl, by simp [VR]⟩
      · simp at h
  · simp at h

def plainV : Value → Bool
  | .agg _ | .nilIface => false
  | _ => true

def plainA : AV → Bool
  | .undef | .agg _ => false
  | _ => true

theorem plain_of {ρ : Env} {x : AV} {cx : Value} (h : plainA x = true) (hx : VR ρ x cx) : plainV cx = true := by
  cases x with
  | undef => simp [plainA] at h
  | agg _ => simp [plainA] at h
  | ptr r off =>
    simp only [VR] at hx
    cases r with
    | rw i => obtain ⟨_, _, rfl⟩ := hx; rfl
    | ro i => obtain ⟨_, _, _, rfl⟩ := hx; rfl
  | slice mb r off len => simp only [VR] at hx; obtain ⟨_, _, rfl, _⟩ := hx; rfl
  | func f c => simp only [VR] at hx; obtain ⟨_, rfl, _⟩ := hx; rfl
  | tup c => simp only [VR] at hx; obtain ⟨_, rfl, _⟩ := hx; rfl
  | bool b => simp only [VR] at hx; subst hx; rfl
  | int k n => simp only [VR] at hx; subst hx; rfl
  | str s => simp only [VR] at hx; subst hx; rfl
  | nilp => simp only [VR] at hx; subst hx; rfl
  | nils => simp only [VR] at hx; subst hx; rfl
  | nilf => simp only [VR] at hx; subst hx; rfl

theorem eqGuard_plain {P : Program} {w : World} (op : BinOp) (t : TypeId) (x y : Operand) (a b : Value) (h : plainV a = true) : (eqGuard op t x y a b).run P w = .ok () w := by
  unfold eqGuard
  cases a <;> first
    | (simp [plainV] at h; done)
    | (cases op <;> rfl)

theorem binAV_plain {P : Program} {op : BinOp} {t : TypeId} {x y : AV} {r : Bool × AV} (h : binAV P op t x y = some r) : plainA x = true ∨ (∃ xs ys, x = .agg xs ∧ y = .agg ys ∧ P.eqGuardType P.depth t = false) := by
  unfold binAV at h
  split at h <;> first | exact .inl rfl | (simp at h; done) | skip
  rename_i xs ys
  split at h
  · simp at h
  · rename_i hg; exact .inr ⟨xs, ys, rfl, rfl, hg⟩

theorem binAV_guard {P : Program} {w : World} {ρ : Env} {op : BinOp} {t : TypeId} {x y : AV} {ox oy : Operand} {cx cy : Value} {r : Bool × AV} (hx : VR ρ x cx) (hy : VR ρ y cy) (h : binAV P op t x y = some r) : (eqGuard op t ox oy cx cy).run P w = .ok () w := by
  rcases binAV_plain h with h | ⟨xs, ys, rfl, rfl, hg⟩
  · exact eqGuard_plain _ _ _ _ _ _ (plain_of h hx)
  · simp only [VR] at hx hy
    obtain ⟨cxs, rfl, hx⟩ := hx
    obtain ⟨cys, rfl, hy⟩ := hy
    exact run_eqGuard_agg w op t ox oy _ _ hg

theorem unAV_sound {P : Program} {w : World} {ρ : Env} {op : UnOp} {x v : AV} {cx : Value} (hx : VR ρ x cx) (h : unAV op x = some (true, v)) :
    ∃ cv, (Op.unary op cx).run P w = .ok cv w ∧ VR ρ v cv := by
  unfold unAV at h
  split at h
  · simp only [VR] at hx; subst hx; simp only [Option.some.injEq, Prod.mk.injEq, true_and] at h; subst h
    exact ⟨_, rfl, by simp only [VR]⟩
  · simp only [VR] at hx; subst hx; simp only [Option.some.injEq, Prod.mk.injEq, true_and] at h; subst h
    exact ⟨_, rfl, by simp only [VR, kNot]⟩
  · simp only [VR] at hx; subst hx; simp only [Option.some.injEq, Prod.mk.injEq, true_and] at h; subst h
    exact ⟨_, rfl, by simp only [VR]⟩
  · simp at h

theorem convAV_sound {P : Program} {w : World} {ρ : Env} {s d : TypeId} {x v : AV} {cx : Value} (hx : VR ρ x cx) (h : convAV P s d x = some (true, v)) :
    ∃ cv, (convert s d cx).run P w = .ok cv w ∧ VR ρ v cv := by
  unfold convAV at h
  split at h
  · rename_i ds k k' n hs hd
    simp only [VR] at hx; subst hx; simp at h; subst h
    refine ⟨toV (.int _ _), ?_, by simp only [VR, toV]; rfl⟩
    unfold convert
    simp only [Sem.run_bind, run_underlying hs, run_underlying hd, Result.andThen_ok]
    simp [Conv.intToInt, toV]
  · rename_i ds st hs hd
    simp only [VR] at hx; subst hx; simp at h; subst h
    refine ⟨.string ⟨st.toArray⟩, ?_, by simp only [VR]⟩
    unfold convert
    simp only [Sem.run_bind, run_underlying hs, run_underlying hd, Result.andThen_ok]
    rfl
  · simp at h

theorem add_mk (b o n : Nat) : (Addr.add ⟨b, o, none⟩ n) = ⟨b, o + n, none⟩ := by
  unfold Addr.add; split
  · rename_i h; subst h; rfl
  · rfl

/-- a pointer, and the pointer n cells behind it -/
theorem PtrR.add {ρ : Env} {r : Ref} {off : Nat} {v : Value} (h : PtrR ρ r off v) : ∃ a : Addr, v = .pointer (some a) ∧ ∀ n, PtrR ρ r (off + n) (.pointer (some (a.add n))) := by
  cases r with
  | rw i => obtain ⟨e, he, rfl⟩ := h; exact ⟨_, rfl, fun n => ⟨e, he, by rw [add_mk]⟩⟩
  | ro i => obtain ⟨b, d, he, rfl⟩ := h; exact ⟨_, rfl, fun n => ⟨b, d, he, by rw [add_mk, Nat.add_assoc]⟩⟩

theorem fieldAV_sound {P : Program} {w : World} {ρ : Env} {s : TypeId} {f : Nat} {x v : AV} {cx : Value} (hx : VR ρ x cx) (h : fieldAV P s x f = some (true, v)) :
    ∃ cv, (Instr.fieldAt s cx f).run P w = .ok cv w ∧ VR ρ v cv := by
  unfold fieldAV at h
  split at h
  · rename_i fs r off hs
    split at h
    · rename_i fd hf
      split at h
      · simp at h
      · rename_i z hz hsz
        simp at h; subst h
        simp only [VR] at hx
        obtain ⟨a, rfl, ha⟩ := hx.add
        refine ⟨.pointer (some (a.add fd.offset)), ?_, by simp only [VR]; exact ha _⟩
        unfold Instr.fieldAt
        simp only [Sem.run_bind, run_underlying hs, Result.andThen_ok, hf, Instr.sureAddr, Sem.run_pure, fieldPlace, run_sizeOf' hsz, Sem.run_ite]
        rw [if_neg (by simpa using hz)]
        rfl
      · simp at h
    · simp at h
  · simp at h

theorem mulz_eq (i z : Nat) : mulz i z = i * z := by
  unfold mulz; split <;> simp

theorem indexAV_sound {P : Program} {w : World} {ρ : Env} {t : TypeId} {x i v : AV} {cx ci : Value} (hx : VR ρ x cx) (hi : VR ρ i ci) (h : indexAV P t x i = some (true, v)) :
    ∃ cv, (Instr.indexAt t cx ci).run P w = .ok cv w ∧ VR ρ v cv := by
  unfold indexAV at h
  split at h
  · rename_i k n
    simp only [VR] at hi; subst hi
    split at h
    · rename_i len e r off ht
      split at h
      · rename_i z hz
        simp only [Option.some.injEq, Prod.mk.injEq, Bool.and_eq_true, decide_eq_true_eq] at h
        obtain ⟨⟨h0, h1⟩, rfl⟩ := h
        simp only [VR] at hx
        obtain ⟨a, rfl, ha⟩ := hx.add
        refine ⟨.pointer (some (a.add (n.toNat * z))), ?_, by simp only [VR]; rw [mulz_eq, Nat.add_comm]; exact ha _⟩
        unfold Instr.indexAt
        simp only [Sem.run_bind, asIntOf, Sem.run_pure, run_underlying ht, Result.andThen_ok, Instr.sureAddr, Sem.run_ite, run_sizeOf' hz]
        rw [if_pos ⟨h0, h1⟩]
      · simp at h
    · rename_i e mb r off len ht
      split at h
      · rename_i z hz
        simp only [Option.some.injEq, Prod.mk.injEq, Bool.and_eq_true, decide_eq_true_eq] at h
        obtain ⟨⟨h0, h1⟩, rfl⟩ := h
        simp only [VR] at hx
        obtain ⟨ca, cap, rfl, hl, hc⟩ := hx
        have hp : ∃ a, ca = some a ∧ ∀ n, PtrR ρ r (off + n) (.pointer (some (a.add n))) := by
          rcases hc with ⟨_, h0, _⟩ | ⟨_, h0⟩ | hc
          · omega
          · omega
          · cases r with
            | rw i => obtain ⟨e, he, rfl, _⟩ := hc; exact ⟨_, rfl, fun n => ⟨e, he, by rw [add_mk]⟩⟩
            | ro i => obtain ⟨b, d, he, rfl⟩ := hc; exact ⟨_, rfl, fun n => ⟨b, d, he, by rw [add_mk, Nat.add_assoc]⟩⟩
        obtain ⟨a, rfl, ha⟩ := hp
        refine ⟨.pointer (some (a.add (n.toNat * z))), ?_, by simp only [VR]; rw [mulz_eq, Nat.add_comm]; exact ha _⟩
        unfold Instr.indexAt
        simp only [Sem.run_bind, asIntOf, Sem.run_pure, run_underlying ht, Result.andThen_ok, Sem.run_ite, run_sizeOf' hz]
        rw [if_pos ⟨h0, h1⟩]
      · simp at h
    · simp at h
  · simp at h

theorem lenAV_sound {P : Program} {w : World} {ρ : Env} {t ty : TypeId} {x v : AV} {cx : Value} (hx : VR ρ x cx) (h : lenAV P t x = some (true, v)) :
    ∃ cv, (Builtin.len_ #[t] ty #[cx]).run P w = .ok cv w ∧ VR ρ v cv := by
  unfold lenAV at h
  split at h
  · rename_i s ht
    simp only [VR] at hx; subst hx; simp at h; subst h
    refine ⟨toV (.int _ _), ?_, by simp only [VR, toV]; rfl⟩
    have e : (ByteArray.mk s.toArray).size = s.length := by show s.toArray.size = _; simp
    simp [Builtin.len_, run_underlying ht, goInt, toV, e]
  · rename_i n e ht
    simp at h; subst h
    refine ⟨toV (.int _ _), ?_, by simp only [VR, toV]; rfl⟩
    simp [Builtin.len_, run_underlying ht, goInt, toV]
  · rename_i e mb r off n ht
    simp only [VR] at hx
    obtain ⟨ca, cap, rfl, _⟩ := hx
    simp at h; subst h
    refine ⟨toV (.int _ _), ?_, by simp only [VR, toV]; rfl⟩
    simp [Builtin.len_, run_underlying ht, goInt, toV]
  · rename_i e ht
    simp only [VR] at hx; subst hx; simp at h; subst h
    refine ⟨toV (.int _ _), ?_, by simp only [VR, toV]; rfl⟩
    simp [Builtin.len_, run_underlying ht, goInt, toV]
  · simp at h

theorem maxAV_sound {P : Program} {w : World} {ρ : Env} {x y v : AV} {cx cy : Value} (ts : Array TypeId) (ty : TypeId) (hx : VR ρ x cx) (hy : VR ρ y cy) (h : maxAV x y = some (true, v)) :
    ∃ cv, (Builtin.max_ ts ty #[cx, cy]).run P w = .ok cv w ∧ VR ρ v cv := by
  unfold maxAV at h
  split at h
  · split at h
    · rename_i hk; subst hk
      simp only [VR] at hx hy; subst hx hy; simp at h; subst h
      refine ⟨toV (.int _ _), ?_, by simp only [VR, toV]; rfl⟩
      simp [Builtin.max_, Builtin.max2, toV]
    · simp at h
  · simp at h
theorem minAV_sound {P : Program} {w : World} {ρ : Env} {x y v : AV} {cx cy : Value} (ts : Array TypeId) (ty : TypeId) (hx : VR ρ x cx) (hy : VR ρ y cy) (h : minAV x y = some (true, v)) :
    ∃ cv, (Builtin.min_ ts ty #[cx, cy]).run P w = .ok cv w ∧ VR ρ v cv := by
  unfold minAV at h
  split at h
  · split at h
    · rename_i hk; subst hk
      simp only [VR] at hx hy; subst hx hy; simp at h; subst h
      refine ⟨toV (.int _ _), ?_, by simp only [VR, toV]; rfl⟩
      simp [Builtin.min_, Builtin.min2, toV]
    · simp at h
  · simp at h

end Go.Am
