/-
  Slices: what the document tells: All, Waits, Fair, Of; two lists.
-/
import Derived.Test.YtfalglcagngbnaaSlX
namespace Go.Am
open Go.Proofs
set_option maxRecDepth 100000
theorem fixes1' {θ : List Nat} (h : θ.getD 0 0 = 0) : ∀ i, i < 1 → θ.getD i 0 = i := fun i hi => by
  match i, hi with
  | 0, _ => exact h
theorem fixes2' {θ : List Nat} (h : θ.getD 0 0 = 0) (h1 : θ.getD 1 0 = 1) : ∀ i, i < 2 → θ.getD i 0 = i := fun i hi => by
  match i, hi with
  | 0, _ => exact h
  | 1, _ => exact h1
theorem full7 {xs zs : List AV} (h : xs.length = 7) (hz : zs.length = 7) : setPart zs 0 (.agg xs) = xs := by
  show spl zs 0 xs = xs
  unfold spl
  rw [List.take_zero, List.nil_append, List.drop_eq_nil_of_le (by omega), List.append_nil]
theorem bnds_app {n : Nat} : ∀ {l m : List AV}, bnds n l = true → bnds n m = true → bnds n (l ++ m) = true
  | [], m, _, h => h
  | x :: l, m, h, h2 => by
    simp only [bnds, Bool.and_eq_true] at h
    simp only [List.cons_append, bnds, Bool.and_eq_true]
    exact ⟨h.1, bnds_app h.2 h2⟩
theorem sub7_flat {cs : List AV} (hs : okS cs = true) (n : Nat) : bnds 0 (sub7 cs n) = true := by
  have h := okS_flat hs 0
  rw [bnds_eq, List.all_eq_true] at h ⊢
  intro v hv
  unfold sub7 subL at hv
  exact h v (List.mem_of_mem_drop (List.mem_of_mem_take hv))
theorem allC_flat {cs : List AV} (hs : okS cs = true) : ∀ os : List Nat, bnds 0 (allC cs os) = true
  | [] => rfl
  | o :: os => by
    have e : allC cs (o :: os) = sub7 cs o ++ allC cs os := by simp [allC]
    rw [e]
    exact bnds_app (sub7_flat hs o) (allC_flat hs os)
/-! ### All -/
theorem ra_loop (G : Nat → List AV) (B : Nat) (ds : List AV) (hs : okS (Tt ds) = true) :
    AWp (⟨Try.prog, G, B⟩ : Ctx) 1 (.loop (loopN Try.f44 0)) (fl 29 [0, 3, 4] [.ptr (.rw 0) 0, .slice true (.rw 1) 0 0, .int .i64 0]) [some ⟨1, ds⟩, some ⟨7, []⟩]
      (lv 29 [0, 3, 4] fun e vs H => e = .exit 0 ∧ wk [.ptr (.rw 0) 0, .slice true (.rw 1) 0 (opens' (Tt ds) 32).length, .undef] vs ∧ H = [some ⟨1, ds⟩, some ⟨7, allC (Tt ds) (opens' (Tt ds) 32)⟩]) := by
  refine aloop_lv (fun j vs H => ∃ i : Nat, i ≤ 32 ∧ j = 32 - i ∧ vs = [.ptr (.rw 0) 0, .slice true (.rw 1) 0 (opens' (Tt ds) i).length, .int .i64 (i : Int)] ∧ H = [some ⟨1, ds⟩, some ⟨7, allC (Tt ds) (opens' (Tt ds) i)⟩]) 32 ⟨0, by omega, rfl, rfl, rfl⟩ ?_
  rintro j vs H ⟨i, hi, rfl, rfl, rfl⟩
  refine dloop_ok (C := (⟨Try.prog, G, B⟩ : Ctx)) (dgNN G B) (fuel := 200) (n0 := 10) (m := 1) (c := loopN Try.f44 0) (vs := [.ptr (.rw 0) (.lit 0), .slice true (.rw 1) (.lit 0) (.var 4 (opens' (Tt ds) i).length), .int .i64 (.var 6 (i : Int))]) (H := [some ⟨1, .var 8 ds⟩, some ⟨7, .var 9 (allC (Tt ds) (opens' (Tt ds) i))⟩]) (by simp) ?_
  rw [ra_b]
  have hl := dLen hs
  have hc := opens_len (Tt ds) i
  have hlt := opens_lt (Tt ds) i
  have hal := allC_len hs (os := opens' (Tt ds) i) fun j hj => by have := (hlt j hj).1; omega
  refine ⟨fun h => ?_, fun h => ?_⟩
  · have h32 := of_decide_eq_true h
    have hi' : i < 32 := by omega
    rw [Int.toNat_natCast]
    have e7 : subL ds (i * 7 + 32) 7 = sub7 (Tt ds) i := rfl
    have l7' := sub7_len hs hi'
    rw [e7]
    refine ⟨decide_eq_true (by omega), h, dB hs hi', fun hb => ?_, fun hb => ?_⟩
    · rw [full7 l7' rfl, subL_all l7']
      refine ⟨decide_eq_true (by omega), h, leB_iff.2 (by omega), by rw [l7']; rfl, leB_iff.2 (by omega), sub_cells hs hi', leB_iff.2 (by omega), by rw [hal]; exact Nat.beq_refl _, ?_⟩
      have eo : opens' (Tt ds) (i + 1) = opens' (Tt ds) i ++ [i] := by simp only [opens', show sO (Tt ds) i = true from hb, if_true]
      refine ⟨32 - (i + 1), by omega, .inr ⟨_, _, ⟨i + 1, by omega, rfl, rfl, rfl⟩, ?_⟩⟩
      rw [eo, allC_app]
      have f1 := allC_flat hs (opens' (Tt ds) i)
      have f2 := sub7_flat hs i
      refine View.renM (θ := [0, 3]) (by simp) (fixes1' rfl) (by decide) ⟨⟨bnds_mono (Nat.zero_le _) _ (d_flat hs), by rw [rens_flat _ _ (d_flat hs)]; rfl⟩, ⟨bnds_mono (Nat.zero_le _) _ (bnds_app f1 f2), by rw [rens_flat _ _ (bnds_app f1 f2)]; rfl⟩, trivial⟩ (by simp [bnds, bnd]) ?_
      have e5 := i64_in (n := ((i : Nat) : Int) + 1) (by omega)
      simp [rens, ren, wk] at e5 ⊢
      exact e5
    · have eo : opens' (Tt ds) (i + 1) = opens' (Tt ds) i := by simp only [opens', show sO (Tt ds) i = false from hb, Bool.false_eq_true, if_false]
      exact ⟨32 - (i + 1), by omega, .inl ⟨i + 1, by omega, rfl, by rw [i64_in (by omega), eo]; rfl, by rw [eo]⟩⟩
  · have : i = 32 := by have := of_decide_eq_false h; omega
    subst this
    exact ⟨rfl, by simp [wk], rfl⟩
def cntU : List AV → Nat := fun ys => match ys with
  | [.agg cs] => (opens' cs 32).length
  | _ => 0
def allU : List AV → List AV := fun ys => match ys with
  | [.agg cs] => allC cs (opens' cs 32)
  | _ => []
def raL : DL := ⟨0, 29, [0, 3, 4], fun vs H => match vs, H with
  | [.ptr (.rw 0) (.lit 0), .nils, .int .i64 (.lit 0)], [some ⟨1, l⟩] =>
    some (.chk (.uf 1300 okSU [.agg (.app (.of [.bool (.lit true)]) l)]) (.one (.exit 0) [.ptr (.rw 0) (.lit 0), .slice true (.rw 1) (.lit 0) (.uf 1510 cntU [.agg (.app (.of [.bool (.lit true)]) l)]), .undef] [some ⟨1, l⟩, some ⟨7, .uf 1511 allU [.agg (.app (.of [.bool (.lit true)]) l)]⟩]))
  | _, _ => none⟩
theorem raL_ok (G : Nat → List AV) (B : Nat) : DLoopOk (⟨Try.prog, G, B⟩ : Ctx) 1 (loopN Try.f44 0) raL := by
  refine .of fun vs H o ho n Q hQ => ?_
  simp only [raL] at ho
  split at ho
  · rename_i l
    simp only [Option.some.injEq] at ho
    subst ho
    obtain ⟨h1, h2⟩ := hQ
    have h1 : okS (Tt (vL G l)) = true := h1
    refine lone ?_ h2
    simp only [raL, vVs, vV, vR, vN, vI, vL, vHp, List.map_cons, List.map_nil, Option.map_some, vBlk]
    exact AWp.nil (H := [some ⟨1, _⟩]) 7 (by simp) (nilrs_fl (vs := [.ptr (.rw 0) 0, .slice true (.rw 1) 0 0, .int .i64 0]) ⟨.inl rfl, .inr ⟨rfl, rfl⟩, .inl rfl, trivial⟩) ⟨⟨rfl, nilrs_refl _⟩, trivial⟩ (ra_loop G B _ h1)
  · simp at ho
theorem dg44 (G : Nat → List AV) (B : Nat) : DGood (⟨Try.prog, G, B⟩ : Ctx) (Dc Try.prog [] [] [raL] 1) (loopsOf (bodyOf Try.f44)) := dgood (mix G B) (by kernel_rfl) .nil (.cast (.cons (i := 0) (by kernel_rfl) rfl (raL_ok G B) .nil) (by kernel_rfl))
theorem t44 (G : Nat → List AV) (ds : List AV) (Q : Ex → List AV → Hp → Prop) (R : AV → Hp → Prop) : vT G Q R (dcall (Dc Try.prog [] [] [raL] 1) 200 10 Try.f44 [.ptr (.rw 0) (.lit 0)] [some ⟨1, .var 8 ds⟩] 2) = (
    okSU [.agg (([.bool (true)] : List AV) ++ ds)] = true ∧
    R (.slice true (.rw 1) (0) (cntU [.agg (([.bool (true)] : List AV) ++ ds)])) [some ⟨1, ds⟩, some ⟨7, (allU [.agg (([.bool (true)] : List AV) ++ ds)])⟩]) := by kernel_rfl
theorem r_all (G : Nat → List AV) (B : Nat) (ds : List AV) (hs : okS (Tt ds) = true) : ACalls (⟨Try.prog, G, B⟩ : Ctx) 44 [.ptr (.rw 0) 0] [some ⟨1, ds⟩] fun v H => v = .slice true (.rw 1) 0 (opens' (Tt ds) 32).length ∧ H = [some ⟨1, ds⟩, some ⟨7, allC (Tt ds) (opens' (Tt ds) 32)⟩] := by
  have := dcall_ok (C := (⟨Try.prog, G, B⟩ : Ctx)) (fuel := 200) (n0 := 10) (f := 44) (fn := Try.f44) (args := [.ptr (.rw 0) (.lit 0)]) (H := [some ⟨1, .var 8 ds⟩]) (keep := 2)
    (R := fun v H => v = .slice true (.rw 1) 0 (opens' (Tt ds) 32).length ∧ H = [some ⟨1, ds⟩, some ⟨7, allC (Tt ds) (opens' (Tt ds) 32)⟩]) (dg44 G B) (by kernel_rfl) (by kernel_rfl) (by kernel_rfl) (by
    rw [t44]
    exact ⟨hs, rfl, rfl⟩)
  refine ACalls.keep (k := 2) this (by simp) ?_ (by simp [bnd]) (by simp)
  have m2 : ∀ {l : List AV}, bnds 0 l = true → bnds 2 l = true := fun h => bnds_mono (Nat.zero_le _) _ h
  simp only [hpB, List.length_cons, List.length_nil, Nat.zero_add, Nat.reduceAdd, m2 (d_flat hs), m2 (allC_flat hs _), Bool.and_self]
def rAllS : DSum := fun args H => match args with
  | [.ptr (.rw i) (.lit 0)] => match H[i]? with
    | some (some ⟨1, l⟩) => some (.chk (.uf 1300 okSU [.agg (.app (.of [.bool (.lit true)]) l)]) (.one (.slice true (.rw H.length) (.lit 0) (.uf 1510 cntU [.agg (.app (.of [.bool (.lit true)]) l)])) [.new ⟨7, .uf 1511 allU [.agg (.app (.of [.bool (.lit true)]) l)]⟩]))
    | _ => none
  | _ => none
theorem rAllS_ok (G : Nat → List AV) (B : Nat) : DSumOk (⟨Try.prog, G, B⟩ : Ctx) 44 rAllS := by
  intro args H o ho
  unfold rAllS at ho
  split at ho
  · rename_i i
    split at ho
    · rename_i l hi
      simp only [Option.some.injEq] at ho
      subst ho
      intro h1
      have h1 : okS (Tt (vL G l)) = true := h1
      have key := r_all G B (vL G l) h1
      exact DOut.new1 (C := (⟨Try.prog, G, B⟩ : Ctx)) (v0 := .slice true (.rw 1) 0 (opens' (Tt (vL G l)) 32).length) hi key (d_flat h1) (allC_flat h1 _) (by simp [vVs, bnds]) (by simp [bnd]) (by simp [vV, vR, vN, ren, List.getD]; rfl)
    · simp at ho
  · simp at ho
/-! ### Waits -/
def okDU : List AV → Bool := fun ys => match ys with
  | [.agg cs] => okCU [.agg cs] && @decide ((0 ≤ tk cs ∧ tk cs ≤ 1000000) ∧ ∀ i, i < 32 → sO cs i = true → 0 ≤ sL cs i ∧ sL cs i ≤ tk cs) (by infer_instance)
  | _ => false
theorem okDU_iff {cs : List AV} : okDU [.agg cs] = true ↔ okD cs 1000000 := by
  simp only [okDU, okD, Bool.and_eq_true, decide_eq_true_eq, okCU_iff]
/-- the earliest pick among the first k + 1 of them -/
def mF (cs : List AV) (os : List Nat) : Nat → List AV
  | 0 => sub7 cs (os.getD 0 0)
  | k + 1 => if getI (sub7 cs (os.getD (k + 1) 0)) 5 < getI (mF cs os k) 5 then sub7 cs (os.getD (k + 1) 0) else mF cs os k
theorem mF_mem {cs : List AV} {os : List Nat} : ∀ k, k < os.length → ∃ j ∈ os, mF cs os k = sub7 cs j
  | 0, h => ⟨os.getD 0 0, by rw [List.getD_eq_getElem?_getD, List.getElem?_eq_getElem h]; exact List.getElem_mem h, rfl⟩
  | k + 1, h => by
    simp only [mF]
    split
    · exact ⟨os.getD (k + 1) 0, by rw [List.getD_eq_getElem?_getD, List.getElem?_eq_getElem h]; exact List.getElem_mem h, rfl⟩
    · exact mF_mem k (by omega)
theorem wStep_eq {cs : List AV} (hD : okD cs 1000000) {j o : Nat} (hj : j < 32) (hjo : sO cs j = true) (ho : o < 32) (hoo : sO cs o = true) :
    wStep cs (sub7 cs o) (getI (sub7 cs j) 0, tk cs - getI (sub7 cs j) 5, true) = (if getI (sub7 cs o) 5 < getI (sub7 cs j) 5 then (getI (sub7 cs o) 0, tk cs - getI (sub7 cs o) 5, true) else (getI (sub7 cs j) 0, tk cs - getI (sub7 cs j) 5, true)) := by
  have h1 := hD.2.2 j hj hjo
  have h2 := hD.2.2 o ho hoo
  have h3 := hD.2.1
  have e1 : getI (sub7 cs j) 5 = sL cs j := sub7_get (by omega)
  have e2 : getI (sub7 cs o) 5 = sL cs o := sub7_get (by omega)
  have ew : w64 (tk cs - sL cs o) = tk cs - sL cs o := i64_in (by omega)
  simp only [wStep, Bool.not_true, Bool.false_or, e1, e2, ew, decide_eq_true_eq]
  by_cases hc : sL cs o < sL cs j
  · rw [if_pos (by omega), if_pos hc]
  · rw [if_neg (by omega), if_neg hc]
theorem mF_wF {cs : List AV} (hD : okD cs 1000000) : ∀ k, k < (opens' cs 32).length → ((opens' cs 32).take (k + 1)).foldl (fun p j => wStep cs (sub7 cs j) p) (0, 0, false) = (getI (mF cs (opens' cs 32) k) 0, tk cs - getI (mF cs (opens' cs 32) k) 5, true)
  | 0, h => by
    have e : (opens' cs 32).take (0 + 1) = [(opens' cs 32).getD 0 0] := by
      rw [List.take_add_one, List.take_zero, List.nil_append, List.getElem?_eq_getElem h, List.getD_eq_getElem?_getD, List.getElem?_eq_getElem h]; rfl
    rw [e]
    obtain ⟨hl, ho⟩ := opens_lt cs 32 ((opens' cs 32).getD 0 0) (by rw [List.getD_eq_getElem?_getD, List.getElem?_eq_getElem h]; exact List.getElem_mem h)
    have h2 := hD.2.2 _ hl ho
    have h3 := hD.2.1
    have e2 : getI (sub7 cs ((opens' cs 32).getD 0 0)) 5 = sL cs ((opens' cs 32).getD 0 0) := sub7_get (by omega)
    have ew : w64 (tk cs - sL cs ((opens' cs 32).getD 0 0)) = tk cs - sL cs ((opens' cs 32).getD 0 0) := i64_in (by omega)
    simp only [List.foldl_cons, List.foldl_nil, wStep, Bool.not_false, Bool.true_or, if_true, mF, e2, ew]
  | k + 1, h => by
    have ih := mF_wF hD k (by omega)
    have e : (opens' cs 32).take (k + 1 + 1) = (opens' cs 32).take (k + 1) ++ [(opens' cs 32).getD (k + 1) 0] := by
      rw [List.take_add_one, List.getElem?_eq_getElem h, List.getD_eq_getElem?_getD, List.getElem?_eq_getElem h]; rfl
    rw [e, List.foldl_append, ih]
    obtain ⟨hl, ho⟩ := opens_lt cs 32 ((opens' cs 32).getD (k + 1) 0) (by rw [List.getD_eq_getElem?_getD, List.getElem?_eq_getElem h]; exact List.getElem_mem h)
    obtain ⟨j, hj, ej⟩ := mF_mem (cs := cs) k (by omega : k < (opens' cs 32).length)
    obtain ⟨jl, jo⟩ := opens_lt cs 32 j hj
    simp only [List.foldl_cons, List.foldl_nil, mF]
    rw [ej, wStep_eq hD jl jo hl ho]
    split <;> rfl
theorem all_get {cs : List AV} (hs : okS cs = true) {os : List Nat} (hl : ∀ j ∈ os, j < 32) {i : Nat} (hi : i < os.length) {j : Nat} (hj : j < 7) : (allC cs os)[i * 7 + j]? = (sub7 cs (os.getD i 0))[j]? := by
  have e := allC_sub hs hl i (os.getD i 0) (by rw [List.getD_eq_getElem?_getD, List.getElem?_eq_getElem hi]; rfl)
  rw [← e]
  unfold subL
  rw [List.getElem?_take, if_pos hj, List.getElem?_drop]
theorem all_I {cs : List AV} (hs : okS cs = true) {os : List Nat} (hl : ∀ j ∈ os, j < 32) {i : Nat} (hi : i < os.length) {j : Nat} (hj : j < 7) : getI (allC cs os) (i * 7 + j) = getI (sub7 cs (os.getD i 0)) j := by
  unfold getI; rw [all_get hs hl hi hj]
theorem all_isI {cs : List AV} (hs : okS cs = true) {os : List Nat} (hl : ∀ j ∈ os, j < 32) {i : Nat} (hi : i < os.length) {j : Nat} (hj : j < 7) : isI .i64 (allC cs os) (i * 7 + j) = true := by
  have hm : os.getD i 0 < 32 := hl _ (by rw [List.getD_eq_getElem?_getD, List.getElem?_eq_getElem hi]; exact List.getElem_mem hi)
  have := okS_isF hs (o := os.getD i 0 * 7 + 33 + j) (by omega) (by omega)
  unfold isI at this ⊢
  rw [all_get hs hl hi hj]
  unfold sub7 subL
  rw [List.getElem?_take, if_pos hj, List.getElem?_drop]
  exact this
theorem all_sub {cs : List AV} (hs : okS cs = true) {os : List Nat} (hl : ∀ j ∈ os, j < 32) {i : Nat} (hi : i < os.length) : subL (allC cs os) (i * 7) 7 = sub7 cs (os.getD i 0) := allC_sub hs hl i _ (by rw [List.getD_eq_getElem?_getD, List.getElem?_eq_getElem hi]; rfl)
theorem getD_mem {os : List Nat} {i : Nat} (hi : i < os.length) : os.getD i 0 ∈ os := by rw [List.getD_eq_getElem?_getD, List.getElem?_eq_getElem hi]; exact List.getElem_mem hi
theorem rw_loop (G : Nat → List AV) (B : Nat) (ds : List AV) (hs : okS (Tt ds) = true) (h0 : 0 < (opens' (Tt ds) 32).length) :
    AWp (⟨Try.prog, G, B⟩ : Ctx) 1 (.loop (loopN Try.f41 0)) (fl 43 [0, 5, 6, 7] [.ptr (.rw 0) 0, .slice true (.rw 1) 0 (opens' (Tt ds) 32).length, .ptr (.rw 2) 0, .int .i64 1]) [some ⟨1, ds⟩, some ⟨7, allC (Tt ds) (opens' (Tt ds) 32)⟩, some ⟨1, sub7 (Tt ds) ((opens' (Tt ds) 32).getD 0 0)⟩]
      (lv 43 [0, 5, 6, 7] fun e vs H => e = .exit 0 ∧ wk [.ptr (.rw 0) 0, .undef, .ptr (.rw 2) 0, .undef] vs ∧ H = [some ⟨1, ds⟩, some ⟨7, allC (Tt ds) (opens' (Tt ds) 32)⟩, some ⟨1, mF (Tt ds) (opens' (Tt ds) 32) ((opens' (Tt ds) 32).length - 1)⟩]) := by
  have hlt := opens_lt (Tt ds) 32
  have hlen := opens_len (Tt ds) 32
  generalize hos : opens' (Tt ds) 32 = os at *
  have hm : ∀ j ∈ os, j < 32 := fun j hj => (hlt j hj).1
  have hal := allC_len hs (os := os) hm
  refine aloop_lv (fun j vs H => ∃ i : Nat, 1 ≤ i ∧ i ≤ os.length ∧ j = os.length - i ∧ vs = [.ptr (.rw 0) 0, .slice true (.rw 1) 0 os.length, .ptr (.rw 2) 0, .int .i64 (i : Int)] ∧ H = [some ⟨1, ds⟩, some ⟨7, allC (Tt ds) os⟩, some ⟨1, mF (Tt ds) os (i - 1)⟩]) (os.length - 1) ⟨1, by omega, by omega, rfl, rfl, rfl⟩ ?_
  rintro j vs H ⟨i, hi1, hi, rfl, rfl, rfl⟩
  refine dloop_ok (C := (⟨Try.prog, G, B⟩ : Ctx)) (dgNN G B) (fuel := 200) (n0 := 10) (m := 1) (c := loopN Try.f41 0) (vs := [.ptr (.rw 0) (.lit 0), .slice true (.rw 1) (.lit 0) (.var 4 os.length), .ptr (.rw 2) (.lit 0), .int .i64 (.var 6 (i : Int))]) (H := [some ⟨1, .var 8 ds⟩, some ⟨7, .var 9 (allC (Tt ds) os)⟩, some ⟨1, .var 10 (mF (Tt ds) os (i - 1))⟩]) (by simp) ?_
  rw [rw_b]
  obtain ⟨mj, hmj, ej⟩ := mF_mem (cs := Tt ds) (os := os) (i - 1) (by omega)
  have l7m : (mF (Tt ds) os (i - 1)).length = 7 := by rw [ej]; exact sub7_len hs (hm mj hmj)
  refine ⟨fun h => ?_, fun h => ?_⟩
  · have h' := of_decide_eq_true h
    have hi' : i < os.length := by omega
    have ho := hm _ (getD_mem hi')
    rw [Int.toNat_natCast]
    have e5 : getI (allC (Tt ds) os) (i * 7 + 5) = getI (sub7 (Tt ds) (os.getD i 0)) 5 := all_I hs hm hi' (by omega)
    have eM : ∀ c : Bool, decide (getI (sub7 (Tt ds) (os.getD i 0)) 5 < getI (mF (Tt ds) os (i - 1)) 5) = c → mF (Tt ds) os i = if c then sub7 (Tt ds) (os.getD i 0) else mF (Tt ds) os (i - 1) := fun c hc => by
      obtain ⟨k, rfl⟩ : ∃ k, i = k + 1 := ⟨i - 1, by omega⟩
      simp only [mF, Nat.add_sub_cancel] at hc ⊢
      cases c with
      | true => rw [if_pos (of_decide_eq_true hc), if_pos rfl]
      | false => rw [if_neg (of_decide_eq_false hc)]; rfl
    have i5 : isI .i64 (mF (Tt ds) os (i - 1)) 5 = true := by
      rw [ej]
      have := okS_isF hs (o := mj * 7 + 33 + 5) (by omega) (by have := hm mj hmj; omega)
      unfold isI at this ⊢
      unfold sub7 subL
      rw [List.getElem?_take, if_pos (by omega), List.getElem?_drop]
      exact this
    rw [e5, all_sub hs hm hi', full7 (sub7_len hs ho) l7m, i64_in (by omega)]
    refine ⟨decide_eq_true (by omega), h, all_isI hs hm hi' (by omega), i5, fun hc => ⟨decide_eq_true (by omega), h, leB_iff.2 (by omega), sub_cells hs ho, by rw [sub7_len hs ho]; rfl, leB_iff.2 (by omega), ?_⟩, fun hc => ?_⟩
    · refine ⟨os.length - (i + 1), by omega, .inl ⟨i + 1, by omega, by omega, rfl, rfl, ?_⟩⟩
      rw [Nat.add_sub_cancel, eM true hc]; rfl
    · refine ⟨os.length - (i + 1), by omega, .inl ⟨i + 1, by omega, by omega, rfl, rfl, ?_⟩⟩
      rw [Nat.add_sub_cancel, eM false hc]; rfl
  · have := of_decide_eq_false h
    have e : i = os.length := by omega
    exact ⟨rfl, by simp [wk], by rw [e]⟩
def minU : List AV → List AV := fun ys => match ys with
  | [.agg cs] => mF cs (opens' cs 32) ((opens' cs 32).length - 1)
  | _ => []
/-- all, as they are told, and the first of them -/
def stU : List AV → Bool := fun ys => match ys with
  | [.agg cs, .agg x, .int _ c] => okS cs && (samCs x (allC cs (opens' cs 32)) && decide (c = ((opens' cs 32).length : Int)))
  | _ => false
def st1U : List AV → Bool := fun ys => match ys with
  | [.agg cs, .agg m] => samCs m (sub7 cs ((opens' cs 32).getD 0 0)) && Nat.ble 1 (opens' cs 32).length
  | _ => false
theorem stU_iff {cs x : List AV} {c : Int} (h : stU [.agg cs, .agg x, .int .i64 c] = true) : okS cs = true ∧ x = allC cs (opens' cs 32) ∧ c = ((opens' cs 32).length : Int) := by
  simp only [stU, Bool.and_eq_true, decide_eq_true_eq] at h
  exact ⟨h.1, samCs_eq h.2.1, h.2.2⟩
def rwL : DL := ⟨0, 43, [0, 5, 6, 7], fun vs H => match vs, H with
  | [.ptr (.rw 0) (.lit 0), .slice true (.rw 1) (.lit 0) c, .ptr (.rw 2) (.lit 0), .int .i64 (.lit 1)], [some ⟨1, l⟩, some ⟨7, x⟩, some ⟨1, m⟩] =>
    some (.chk (.uf 1513 stU [.agg (.app (.of [.bool (.lit true)]) l), .agg x, .int .i64 (.ofN c)]) (.chk (.uf 1514 st1U [.agg (.app (.of [.bool (.lit true)]) l), .agg m]) (.one (.exit 0) [.ptr (.rw 0) (.lit 0), .undef, .ptr (.rw 2) (.lit 0), .undef] [some ⟨1, l⟩, some ⟨7, x⟩, some ⟨1, .uf 1515 minU [.agg (.app (.of [.bool (.lit true)]) l)]⟩])))
  | _, _ => none⟩
theorem rwL_ok (G : Nat → List AV) (B : Nat) : DLoopOk (⟨Try.prog, G, B⟩ : Ctx) 1 (loopN Try.f41 0) rwL := by
  refine .of fun vs H o ho n Q hQ => ?_
  simp only [rwL] at ho
  split at ho
  · rename_i c l x m
    simp only [Option.some.injEq] at ho
    subst ho
    obtain ⟨h1, h2, h3⟩ := hQ
    obtain ⟨g1, g2, g3⟩ := stU_iff (cs := Tt (vL G l)) (x := vL G x) (c := ((vN G c : Nat) : Int)) h1
    have h2 : st1U [.agg (Tt (vL G l)), .agg (vL G m)] = true := h2
    simp only [st1U, Bool.and_eq_true] at h2
    have g4 := samCs_eq h2.1
    have g5 : vN G c = (opens' (Tt (vL G l)) 32).length := by omega
    refine lone ?_ h3
    simp only [rwL, vVs, vV, vR, vN, vI, vL, vHp, List.map_cons, List.map_nil, Option.map_some, vBlk]
    rw [g2, g4, g5]
    exact rw_loop G B (vL G l) g1 (Nat.le_of_ble_eq_true h2.2)
  · simp at ho
theorem dg41 (G : Nat → List AV) (B : Nat) : DGood (⟨Try.prog, G, B⟩ : Ctx) (Dc Try.prog [] [(44, rAllS)] [rwL] 1) (loopsOf (bodyOf Try.f41)) := dgood (mix G B) (by kernel_rfl) (.cons (rAllS_ok G B) .nil) (.cast (.cons (i := 0) (by kernel_rfl) rfl (rwL_ok G B) .nil) (by kernel_rfl))
theorem t41 (G : Nat → List AV) (ds : List AV) (Q : Ex → List AV → Hp → Prop) (R : AV → Hp → Prop) : vT G Q R (dcall (Dc Try.prog [] [(44, rAllS)] [rwL] 1) 200 10 Try.f41 [.ptr (.rw 0) (.lit 0)] [some ⟨1, .var 8 ds⟩] 1) = (
    okSU [.agg (([.bool (true)] : List AV) ++ ds)] = true ∧
    (((((cntU [.agg (([.bool (true)] : List AV) ++ ds)] : Nat) : Int) : Int) == 0) = true →
      R (.tup [.int .i64 (0), .int .i64 (0), .bool (false)]) [some ⟨1, ds⟩]) ∧
    (((((cntU [.agg (([.bool (true)] : List AV) ++ ds)] : Nat) : Int) : Int) == 0) = false →
      decide ((0 : Int) < ((cntU [.agg (([.bool (true)] : List AV) ++ ds)] : Nat) : Int)) = true ∧
      leB (7) (List.length (allU [.agg (([.bool (true)] : List AV) ++ ds)])) = true ∧
      cellsB (subL (allU [.agg (([.bool (true)] : List AV) ++ ds)]) (0) (7)) = true ∧
      Nat.beq (List.length (subL (allU [.agg (([.bool (true)] : List AV) ++ ds)]) (0) (7))) (7) = true ∧
      stU [.agg (([.bool (true)] : List AV) ++ ds), .agg (allU [.agg (([.bool (true)] : List AV) ++ ds)]), .int .i64 (((cntU [.agg (([.bool (true)] : List AV) ++ ds)] : Nat) : Int))] = true ∧
      st1U [.agg (([.bool (true)] : List AV) ++ ds), .agg (subL (allU [.agg (([.bool (true)] : List AV) ++ ds)]) (0) (7))] = true ∧
      isI .i64 (minU [.agg (([.bool (true)] : List AV) ++ ds)]) (0) = true ∧
      isI .i64 ds (256) = true ∧
      isI .i64 (minU [.agg (([.bool (true)] : List AV) ++ ds)]) (5) = true ∧
      R (.tup [.int .i64 (getI (minU [.agg (([.bool (true)] : List AV) ++ ds)]) (0)), .int .i64 (IntKind.wrap .i64 (getI ds (256) - getI (minU [.agg (([.bool (true)] : List AV) ++ ds)]) (5))), .bool (true)]) [some ⟨1, ds⟩])) := by kernel_rfl
end Go.Am
