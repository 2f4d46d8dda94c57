/-
  Slices: Same, on both sides; the summaries of 'do'.
-/
import Derived.Test.YtfalglcagngbnaaSlR
import Derived.Test.YtfalglcagngbnaaSlM
namespace Go.Am
open Go.Proofs
set_option maxRecDepth 100000
theorem eq_open {xs ys : List AV} (hx : ∀ i, i < 32 → isB xs i = true) (hy : ∀ i, i < 32 → isB ys i = true) : eqV Try.prog 9 55 (.agg xs) (.agg ys) = some (true, (List.range 32).all fun i => getB xs i == getB ys i) := by
  rw [eqV_array (P := Try.prog) (n := 8) (m := 32) (e := 4) (z := 1) (by kernel_rfl) (by kernel_rfl)]
  refine eqIs_spec (a := fun i => .bool (getB xs i)) (b := fun i => .bool (getB ys i)) _ fun i hi => ?_
  have hi := List.mem_range.1 hi
  rw [Nat.mul_one]
  exact ⟨partA_bool (by kernel_rfl) (hx i hi), partA_bool (by kernel_rfl) (hy i hi), eqV_bool (n := 7) (by kernel_rfl) _ _⟩
theorem seven {xs : List AV} (h : ∀ k, k < 224 → isI .i64 xs k = true) {i : Nat} (hi : i < 32) : (xs.drop (i * 7)).take 7 = l7 (getI xs (i * 7)) (getI xs (i * 7 + 1)) (getI xs (i * 7 + 2)) (getI xs (i * 7 + 3)) (getI xs (i * 7 + 4)) (getI xs (i * 7 + 5)) (getI xs (i * 7 + 6)) := by
  apply List.ext_getElem?
  intro j
  rw [List.getElem?_take]
  by_cases hj : j < 7
  · rw [if_pos hj, List.getElem?_drop, isI_cell (h (i * 7 + j) (by omega))]
    match j, hj with
    | 0, _ | 1, _ | 2, _ | 3, _ | 4, _ | 5, _ | 6, _ => rfl
  · rw [if_neg hj, List.getElem?_eq_none (by simp [l7]; omega)]
theorem eq_slots {xs ys : List AV} (lx : xs.length = 224) (ly : ys.length = 224) (hx : ∀ k, k < 224 → isI .i64 xs k = true) (hy : ∀ k, k < 224 → isI .i64 ys k = true) : eqV Try.prog 9 56 (.agg xs) (.agg ys) = some (true, (List.range 32).all fun i => s7 xs ys (i * 7)) := by
  rw [eqV_array (P := Try.prog) (n := 8) (m := 32) (e := 32) (z := 7) (by kernel_rfl) (by kernel_rfl)]
  refine eqIs_spec (a := fun i => .agg ((xs.drop (i * 7)).take 7)) (b := fun i => .agg ((ys.drop (i * 7)).take 7)) _ fun i hi => ?_
  have hi := List.mem_range.1 hi
  refine ⟨partA_struct (by kernel_rfl) (by kernel_rfl) (by omega), partA_struct (by kernel_rfl) (by kernel_rfl) (by omega), ?_⟩
  rw [seven hx hi, seven hy hi]
  exact eq_slot _ _ _ _ _ _ _ _ _ _ _ _ _ _
noncomputable def fD (t i : Nat) : Field := (fieldsT Try.prog t).getD i default
theorem f58 : fieldsT Try.prog 58 = [fD 58 0, fD 58 1, fD 58 2, fD 58 3] := by kernel_rfl
theorem f65 : fieldsT Try.prog 65 = [fD 65 0, fD 65 1, fD 65 2] := by kernel_rfl
section
variable {cs : List AV}
theorem part_get {o z i : Nat} (h : i < z) : ((cs.drop o).take z)[i]? = cs[o + i]? := by rw [List.getElem?_take, if_pos h, List.getElem?_drop]
theorem part_B {o z i : Nat} (h : i < z) : getB ((cs.drop o).take z) i = getB cs (o + i) := by unfold getB; rw [part_get h]
theorem part_I {o z i : Nat} (h : i < z) : getI ((cs.drop o).take z) i = getI cs (o + i) := by unfold getI; rw [part_get h]
theorem part_isB {o z i : Nat} (h : i < z) : isB ((cs.drop o).take z) i = isB cs (o + i) := by unfold isB; rw [part_get h]
theorem part_isI {o z i : Nat} (h : i < z) : isI .i64 ((cs.drop o).take z) i = isI .i64 cs (o + i) := by unfold isI; rw [part_get h]
end
theorem all_congr {f g : Nat → Bool} {n : Nat} (h : ∀ i, i < n → f i = g i) : (List.range n).all f = (List.range n).all g := by
  rw [Bool.eq_iff_iff]
  simp only [List.all_eq_true, List.mem_range]
  exact ⟨fun k i hi => by rw [← h i hi]; exact k i hi, fun k i hi => by rw [h i hi]; exact k i hi⟩
theorem eq58 {cs ds : List AV} (hs : okS cs = true) (hd : okS ds = true) : eqV Try.prog 10 58 (.agg cs) (.agg ds) = some (true, sameB cs ds) := by
  have l1 := okS_len hs
  have l2 := okS_len hd
  have key : eqFs Try.prog (eqV Try.prog 9) cs ds (fieldsT Try.prog 58) = some (true, (getB cs 0 == getB ds 0) && (((List.range 32).all fun i => getB ((cs.drop 1).take 32) i == getB ((ds.drop 1).take 32) i) && (((List.range 32).all fun i => s7 ((cs.drop 33).take 224) ((ds.drop 33).take 224) (i * 7)) && ((getI cs 257 == getI ds 257) && true)))) := by
    rw [f58]
    refine eqFs_cons (of_decide_eq_true (by kernel_rfl)) (a := .bool (getB cs 0)) (b := .bool (getB ds 0)) ?_ ?_ ?_ ?_
    · rw [show (fD 58 0).type = 4 by kernel_rfl, show (fD 58 0).offset = 0 by kernel_rfl]; exact partA_bool (by kernel_rfl) (okS_0 hs)
    · rw [show (fD 58 0).type = 4 by kernel_rfl, show (fD 58 0).offset = 0 by kernel_rfl]; exact partA_bool (by kernel_rfl) (okS_0 hd)
    · rw [show (fD 58 0).type = 4 by kernel_rfl]; exact eqV_bool (n := 8) (by kernel_rfl) _ _
    refine eqFs_cons (of_decide_eq_true (by kernel_rfl)) (a := .agg ((cs.drop 1).take 32)) (b := .agg ((ds.drop 1).take 32)) ?_ ?_ ?_ ?_
    · rw [show (fD 58 1).type = 55 by kernel_rfl, show (fD 58 1).offset = 1 by kernel_rfl]; exact partA_array (m := 32) (e := 4) (by kernel_rfl) (by kernel_rfl) (by omega)
    · rw [show (fD 58 1).type = 55 by kernel_rfl, show (fD 58 1).offset = 1 by kernel_rfl]; exact partA_array (m := 32) (e := 4) (by kernel_rfl) (by kernel_rfl) (by omega)
    · rw [show (fD 58 1).type = 55 by kernel_rfl]
      exact eq_open (fun i hi => by rw [part_isB hi, Nat.add_comm]; exact okS_open hs hi) (fun i hi => by rw [part_isB hi, Nat.add_comm]; exact okS_open hd hi)
    refine eqFs_cons (of_decide_eq_true (by kernel_rfl)) (a := .agg ((cs.drop 33).take 224)) (b := .agg ((ds.drop 33).take 224)) ?_ ?_ ?_ ?_
    · rw [show (fD 58 2).type = 56 by kernel_rfl, show (fD 58 2).offset = 33 by kernel_rfl]; exact partA_array (m := 32) (e := 32) (by kernel_rfl) (by kernel_rfl) (by omega)
    · rw [show (fD 58 2).type = 56 by kernel_rfl, show (fD 58 2).offset = 33 by kernel_rfl]; exact partA_array (m := 32) (e := 32) (by kernel_rfl) (by kernel_rfl) (by omega)
    · rw [show (fD 58 2).type = 56 by kernel_rfl]
      exact eq_slots (by simp; omega) (by simp; omega) (fun i hi => by rw [part_isI hi, Nat.add_comm]; exact okS_fld hs hi) (fun i hi => by rw [part_isI hi, Nat.add_comm]; exact okS_fld hd hi)
    refine eqFs_cons (of_decide_eq_true (by kernel_rfl)) (a := .int .i64 (getI cs 257)) (b := .int .i64 (getI ds 257)) ?_ ?_ ?_ rfl
    · rw [show (fD 58 3).type = 2 by kernel_rfl, show (fD 58 3).offset = 257 by kernel_rfl]; exact partA_int (by kernel_rfl) (okS_tick hs)
    · rw [show (fD 58 3).type = 2 by kernel_rfl, show (fD 58 3).offset = 257 by kernel_rfl]; exact partA_int (by kernel_rfl) (okS_tick hd)
    · rw [show (fD 58 3).type = 2 by kernel_rfl]; exact eqV_int (n := 8) (k' := .i64) (by kernel_rfl) _ _
  rw [eqV_struct (P := Try.prog) (n := 9) (by kernel_rfl), key, okS_made hs, okS_made hd]
  unfold sameB
  rw [all_congr (n := 32) (f := fun i => getB ((cs.drop 1).take 32) i == getB ((ds.drop 1).take 32) i) (g := fun i => getB cs (i + 1) == getB ds (i + 1)) fun i hi => by simp only [part_B hi, Nat.add_comm 1 i]]
  rw [all_congr (n := 32) (f := fun i => s7 ((cs.drop 33).take 224) ((ds.drop 33).take 224) (i * 7)) (g := fun i => s7 cs ds (i * 7 + 33)) fun i hi => by
    have e : ∀ (cs : List AV) j, j < 7 → getI ((cs.drop 33).take 224) (i * 7 + j) = getI cs (i * 7 + 33 + j) := fun cs j hj => by rw [part_I (by omega)]; congr 1; omega
    have e0 : ∀ (cs : List AV), getI ((cs.drop 33).take 224) (i * 7) = getI cs (i * 7 + 33) := fun cs => e cs 0 (by omega)
    simp only [s7, e0, e _ 1 (by omega), e _ 2 (by omega), e _ 3 (by omega), e _ 4 (by omega), e _ 5 (by omega), e _ 6 (by omega)]]
  rfl
theorem eq65 {cs ds : List AV} (hs : okS (Tt cs) = true) (hd : okS (Tt ds) = true) : eqV Try.prog 10 65 (.agg cs) (.agg ds) = some (true, sameB (Tt cs) (Tt ds)) := by
  have l1 := dLen hs
  have l2 := dLen hd
  have key : eqFs Try.prog (eqV Try.prog 9) cs ds (fieldsT Try.prog 65) = some (true, (((List.range 32).all fun i => getB ((cs.drop 0).take 32) i == getB ((ds.drop 0).take 32) i) && (((List.range 32).all fun i => s7 ((cs.drop 32).take 224) ((ds.drop 32).take 224) (i * 7)) && ((getI cs 256 == getI ds 256) && true)))) := by
    rw [f65]
    refine eqFs_cons (of_decide_eq_true (by kernel_rfl)) (a := .agg ((cs.drop 0).take 32)) (b := .agg ((ds.drop 0).take 32)) ?_ ?_ ?_ ?_
    · rw [show (fD 65 0).type = 55 by kernel_rfl, show (fD 65 0).offset = 0 by kernel_rfl]; exact partA_array (m := 32) (e := 4) (by kernel_rfl) (by kernel_rfl) (by omega)
    · rw [show (fD 65 0).type = 55 by kernel_rfl, show (fD 65 0).offset = 0 by kernel_rfl]; exact partA_array (m := 32) (e := 4) (by kernel_rfl) (by kernel_rfl) (by omega)
    · rw [show (fD 65 0).type = 55 by kernel_rfl]
      exact eq_open (fun i hi => by rw [part_isB hi, Nat.zero_add]; exact dB hs hi) (fun i hi => by rw [part_isB hi, Nat.zero_add]; exact dB hd hi)
    refine eqFs_cons (of_decide_eq_true (by kernel_rfl)) (a := .agg ((cs.drop 32).take 224)) (b := .agg ((ds.drop 32).take 224)) ?_ ?_ ?_ ?_
    · rw [show (fD 65 1).type = 56 by kernel_rfl, show (fD 65 1).offset = 32 by kernel_rfl]; exact partA_array (m := 32) (e := 32) (by kernel_rfl) (by kernel_rfl) (by omega)
    · rw [show (fD 65 1).type = 56 by kernel_rfl, show (fD 65 1).offset = 32 by kernel_rfl]; exact partA_array (m := 32) (e := 32) (by kernel_rfl) (by kernel_rfl) (by omega)
    · rw [show (fD 65 1).type = 56 by kernel_rfl]
      exact eq_slots (by simp; omega) (by simp; omega) (fun i hi => by rw [part_isI hi]; exact dI hs (by omega) (by omega)) (fun i hi => by rw [part_isI hi]; exact dI hd (by omega) (by omega))
    refine eqFs_cons (of_decide_eq_true (by kernel_rfl)) (a := .int .i64 (getI cs 256)) (b := .int .i64 (getI ds 256)) ?_ ?_ ?_ rfl
    · rw [show (fD 65 2).type = 2 by kernel_rfl, show (fD 65 2).offset = 256 by kernel_rfl]; exact partA_int (by kernel_rfl) (dI hs (by omega) (by omega))
    · rw [show (fD 65 2).type = 2 by kernel_rfl, show (fD 65 2).offset = 256 by kernel_rfl]; exact partA_int (by kernel_rfl) (dI hd (by omega) (by omega))
    · rw [show (fD 65 2).type = 2 by kernel_rfl]; exact eqV_int (n := 8) (k' := .i64) (by kernel_rfl) _ _
  rw [eqV_struct (P := Try.prog) (n := 9) (by kernel_rfl), key]
  unfold sameB
  rw [all_congr (n := 32) (f := fun i => getB ((cs.drop 0).take 32) i == getB ((ds.drop 0).take 32) i) (g := fun i => getB (Tt cs) (i + 1) == getB (Tt ds) (i + 1)) fun i hi => by simp only [part_B hi, Nat.zero_add]; rfl]
  rw [all_congr (n := 32) (f := fun i => s7 ((cs.drop 32).take 224) ((ds.drop 32).take 224) (i * 7)) (g := fun i => s7 (Tt cs) (Tt ds) (i * 7 + 33)) fun i hi => by
    have e : ∀ (cs : List AV) j, j < 7 → getI ((cs.drop 32).take 224) (i * 7 + j) = getI (Tt cs) (i * 7 + 33 + j) := fun cs j hj => by
      rw [part_I (by omega), show i * 7 + 33 + j = (32 + (i * 7 + j)) + 1 by omega]; rfl
    have e0 : ∀ (cs : List AV), getI ((cs.drop 32).take 224) (i * 7) = getI (Tt cs) (i * 7 + 33) := fun cs => e cs 0 (by omega)
    simp only [s7, e0, e _ 1 (by omega), e _ 2 (by omega), e _ 3 (by omega), e _ 4 (by omega), e _ 5 (by omega), e _ 6 (by omega)]]
  rfl
theorem eqA58 {cs ds : List AV} (hs : okS cs = true) (hd : okS ds = true) : eqA1 Try.prog 58 [.agg cs, .agg ds] = true ∧ eqA2 Try.prog 58 [.agg cs, .agg ds] = sameB cs ds := by
  simp only [eqA1, eqA2, eq58 hs hd, and_self]
theorem eqA65 {cs ds : List AV} (hs : okS (Tt cs) = true) (hd : okS (Tt ds) = true) : eqA1 Try.prog 65 [.agg cs, .agg ds] = true ∧ eqA2 Try.prog 65 [.agg cs, .agg ds] = sameB (Tt cs) (Tt ds) := by
  simp only [eqA1, eqA2, eq65 hs hd, and_self]
theorem p_same (G : Nat → List AV) (B : Nat) (cs ds : List AV) (hs : okS cs = true) (hd : okS ds = true) : ACalls (⟨Try.prog, G, B⟩ : Ctx) 21 [.ptr (.rw 0) 0, .ptr (.rw 1) 0] [some ⟨1, cs⟩, some ⟨1, ds⟩] fun v H => v = .bool (sameB cs ds) ∧ H.take 2 = [some ⟨1, cs⟩, some ⟨1, ds⟩] := by
  have l1 := okS_len hs
  have l2 := okS_len hd
  have := dcall_ok (C := (⟨Try.prog, G, B⟩ : Ctx)) (fuel := 300) (n0 := 20) (f := 21) (fn := Try.f21) (args := [.ptr (.rw 0) (.lit 0), .ptr (.rw 1) (.lit 0)]) (H := [some ⟨1, .var 8 cs⟩, some ⟨1, .var 9 ds⟩]) (keep := 2)
    (R := fun v H => v = .bool (sameB cs ds) ∧ H = [some ⟨1, cs⟩, some ⟨1, ds⟩]) (by rw [show loopsOf (bodyOf Try.f21) = [] by kernel_rfl]; exact dgood (inl := [26]) (ls := []) (M := 0) (mix G B) (by kernel_rfl) .nil .nil) (by kernel_rfl) (by kernel_rfl) (by kernel_rfl) (by
    rw [t21, subL_all l1, subL_all l2, (eqA58 hs hd).2]
    exact ⟨okS_0 hs, fun _ => ⟨okS_0 hd, fun _ => ⟨leB_iff.2 (by omega), leB_iff.2 (by omega), (eqA58 hs hd).1, rfl, rfl⟩, fun h => by rw [okS_made hd] at h; cases h⟩, fun h => by rw [okS_made hs] at h; cases h⟩)
  simp only [vVs, vV, vR, vN, vI, vHp, List.map_cons, List.map_nil, Option.map_some, vBlk, vL] at this
  exact this
theorem p_sames (G : Nat → List AV) (B : Nat) (cs : List AV) (hs : okS cs = true) : ACalls (⟨Try.prog, G, B⟩ : Ctx) 21 [.ptr (.rw 0) 0, .ptr (.rw 0) 0] [some ⟨1, cs⟩] fun v H => v = .bool true ∧ H.take 1 = [some ⟨1, cs⟩] := by
  have l1 := okS_len hs
  have := dcall_ok (C := (⟨Try.prog, G, B⟩ : Ctx)) (fuel := 300) (n0 := 20) (f := 21) (fn := Try.f21) (args := [.ptr (.rw 0) (.lit 0), .ptr (.rw 0) (.lit 0)]) (H := [some ⟨1, .var 8 cs⟩]) (keep := 1)
    (R := fun v H => v = .bool true ∧ H = [some ⟨1, cs⟩]) (by rw [show loopsOf (bodyOf Try.f21) = [] by kernel_rfl]; exact dgood (inl := [26]) (ls := []) (M := 0) (mix G B) (by kernel_rfl) .nil .nil) (by kernel_rfl) (by kernel_rfl) (by kernel_rfl) (by
    rw [t21s, subL_all l1, (eqA58 hs hs).2, sameB_refl]
    exact ⟨okS_0 hs, fun _ => ⟨okS_0 hs, okS_made hs, leB_iff.2 (by omega), leB_iff.2 (by omega), (eqA58 hs hs).1, rfl, rfl⟩, fun h => by rw [okS_made hs] at h; cases h⟩)
  simp only [vVs, vV, vR, vN, vI, vHp, List.map_cons, List.map_nil, Option.map_some, vBlk, vL] at this
  exact this
theorem r_same (G : Nat → List AV) (B : Nat) (cs ds : List AV) (hs : okS (Tt cs) = true) (hd : okS (Tt ds) = true) : ACalls (⟨Try.prog, G, B⟩ : Ctx) 22 [.ptr (.rw 0) 0, .ptr (.rw 1) 0] [some ⟨1, cs⟩, some ⟨1, ds⟩] fun v H => v = .bool (sameB (Tt cs) (Tt ds)) ∧ H.take 2 = [some ⟨1, cs⟩, some ⟨1, ds⟩] := by
  have l1 := dLen hs
  have l2 := dLen hd
  have := dcall_ok (C := (⟨Try.prog, G, B⟩ : Ctx)) (fuel := 300) (n0 := 20) (f := 22) (fn := Try.f22) (args := [.ptr (.rw 0) (.lit 0), .ptr (.rw 1) (.lit 0)]) (H := [some ⟨1, .var 8 cs⟩, some ⟨1, .var 9 ds⟩]) (keep := 2)
    (R := fun v H => v = .bool (sameB (Tt cs) (Tt ds)) ∧ H = [some ⟨1, cs⟩, some ⟨1, ds⟩]) (by rw [show loopsOf (bodyOf Try.f22) = [] by kernel_rfl]; exact dgood (inl := []) (ls := []) (M := 0) (mix G B) (by kernel_rfl) .nil .nil) (by kernel_rfl) (by kernel_rfl) (by kernel_rfl) (by
    rw [t22, subL_all l1, subL_all l2, (eqA65 hs hd).2]
    exact ⟨leB_iff.2 (by omega), leB_iff.2 (by omega), (eqA65 hs hd).1, rfl, rfl⟩)
  simp only [vVs, vV, vR, vN, vI, vHp, List.map_cons, List.map_nil, Option.map_some, vBlk, vL] at this
  exact this
def sameS : DSum := fun args H => match args with
  | [.ptr (.rw i) (.lit 0), .ptr (.rw j) (.lit 0)] => match Nat.beq i j with
    | true => match H[i]? with
      | some (some ⟨1, l⟩) => some (.chk (.uf 1300 okSU [.agg l]) (.one (.bool (.lit true)) []))
      | _ => none
    | false => match H[i]?, H[j]? with
      | some (some ⟨1, l⟩), some (some ⟨1, l2⟩) => some (.chk (.uf 1300 okSU [.agg l]) (.chk (.uf 1300 okSU [.agg l2]) (.one (.bool (.uf 1440 sameU [.agg l, .agg l2])) [])))
      | _, _ => none
  | _ => none
def rSameS : DSum := fun args H => match args with
  | [.ptr (.rw i) (.lit 0), .ptr (.rw j) (.lit 0)] => match Nat.beq i j with
    | true => none
    | false => match H[i]?, H[j]? with
      | some (some ⟨1, l⟩), some (some ⟨1, l2⟩) => some (.chk (.uf 1300 okSU [.agg (.app (.of [.bool (.lit true)]) l)]) (.chk (.uf 1300 okSU [.agg (.app (.of [.bool (.lit true)]) l2)]) (.one (.bool (.uf 1440 sameU [.agg (.app (.of [.bool (.lit true)]) l), .agg (.app (.of [.bool (.lit true)]) l2)])) [])))
      | _, _ => none
  | _ => none
theorem sameS_ok (G : Nat → List AV) (B : Nat) : DSumOk (⟨Try.prog, G, B⟩ : Ctx) 21 sameS := by
  intro args H o ho
  unfold sameS at ho
  split at ho
  · rename_i i j
    split at ho
    · rename_i hij
      have := Nat.eq_of_beq_eq_true hij
      subst this
      split at ho
      · rename_i l hi
        simp only [Option.some.injEq] at ho
        subst ho
        intro h1
        have h1 : okS (vL G l) = true := h1
        have key := p_sames G B (vL G l) h1
        exact DOut.get1g (C := (⟨Try.prog, G, B⟩ : Ctx)) (args0 := [.ptr (.rw 0) 0, .ptr (.rw 0) 0]) hi key (okS_flat h1 0) (by simp [bnds, bnd]) (by simp [vVs, vV, vR, vN, rens, ren]) (by simp [vV, bnd]) (by simp [vV])
      · simp at ho
    · rename_i hij
      have hne : i ≠ j := fun h => by rw [h] at hij; simp at hij
      split at ho
      · rename_i l l2 hi hj
        simp only [Option.some.injEq] at ho
        subst ho
        intro h1 h2
        have h1 : okS (vL G l) = true := h1
        have h2 : okS (vL G l2) = true := h2
        have key := p_same G B (vL G l) (vL G l2) h1 h2
        exact DOut.get2 (C := (⟨Try.prog, G, B⟩ : Ctx)) (args0 := [.ptr (.rw 0) 0, .ptr (.rw 1) 0]) hne hi hj key (okS_flat h1 0) (okS_flat h2 0) (by simp [bnds, bnd]) (by simp [vVs, vV, vR, vN, rens, ren]) (by simp [vV, bnd]) (by simp [vV])
      · simp at ho
  · simp at ho
theorem rSameS_ok (G : Nat → List AV) (B : Nat) : DSumOk (⟨Try.prog, G, B⟩ : Ctx) 22 rSameS := by
  intro args H o ho
  unfold rSameS at ho
  split at ho
  · rename_i i j
    split at ho
    · simp at ho
    · rename_i hij
      have hne : i ≠ j := fun h => by rw [h] at hij; simp at hij
      split at ho
      · rename_i l l2 hi hj
        simp only [Option.some.injEq] at ho
        subst ho
        intro h1 h2
        have h1 : okS (Tt (vL G l)) = true := h1
        have h2 : okS (Tt (vL G l2)) = true := h2
        have key := r_same G B (vL G l) (vL G l2) h1 h2
        exact DOut.get2 (C := (⟨Try.prog, G, B⟩ : Ctx)) (args0 := [.ptr (.rw 0) 0, .ptr (.rw 1) 0]) hne hi hj key (d_flat h1) (d_flat h2) (by simp [bnds, bnd]) (by simp [vVs, vV, vR, vN, rens, ren]) (by simp [vV, bnd]) (by simp [vV])
      · simp at ho
  · simp at ho
def progD : List (Nat × DSum) := (24, closeS) :: (36, copyS) :: (21, sameS) :: (22, rSameS) :: (32, rOpenS) :: (33, rCloseS) :: (34, rGiveS) :: (35, rPickS) :: progR
end Go.Am
