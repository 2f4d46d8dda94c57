/-
  Slices: the document's Waits, Fair, Of told; two lists.
-/
import Derived.Test.YtfalglcagngbnaaSlY
namespace Go.Am
open Go.Proofs
set_option maxRecDepth 100000
theorem sub7_sam {cs : List AV} (hs : okS cs = true) {n : Nat} (hn : n < 32) : (sub7 cs n).all (fun x => samC x x) = true := by
  have := ok7_cells (sub_ok7 hs hn)
  unfold sub7
  rw [this]
  simp [l7, samC]
theorem allC_sam {cs : List AV} (hs : okS cs = true) : ∀ {os : List Nat}, (∀ j ∈ os, j < 32) → (allC cs os).all (fun x => samC x x) = true
  | [], _ => rfl
  | o :: os, h => by
    have e : allC cs (o :: os) = sub7 cs o ++ allC cs os := by simp [allC]
    rw [e, List.all_append, sub7_sam hs (h o (by simp)), allC_sam hs fun j hj => h j (by simp [hj])]; rfl
theorem st_ok {cs : List AV} (hs : okS cs = true) : stU [.agg cs, .agg (allC cs (opens' cs 32)), .int .i64 ((opens' cs 32).length : Int)] = true := by
  simp only [stU, hs, samCs_refl (allC_sam hs (os := opens' cs 32) fun j hj => (opens_lt cs 32 j hj).1), decide_true, Bool.and_self]
theorem r_waits (G : Nat → List AV) (B : Nat) (ds : List AV) (hD : okD (Tt ds) 1000000) : ACalls (⟨Try.prog, G, B⟩ : Ctx) 41 [.ptr (.rw 0) 0] [some ⟨1, ds⟩] fun v H => v = .tup [.int .i64 (wF (Tt ds) 32).1, .int .i64 (wF (Tt ds) 32).2.1, .bool (wF (Tt ds) 32).2.2] ∧ H.take 1 = [some ⟨1, ds⟩] := by
  have hs := (okT_iff.1 hD.1.1).1
  have := dcall_ok (C := (⟨Try.prog, G, B⟩ : Ctx)) (fuel := 200) (n0 := 10) (f := 41) (fn := Try.f41) (args := [.ptr (.rw 0) (.lit 0)]) (H := [some ⟨1, .var 8 ds⟩]) (keep := 1)
    (R := fun v H => v = .tup [.int .i64 (wF (Tt ds) 32).1, .int .i64 (wF (Tt ds) 32).2.1, .bool (wF (Tt ds) 32).2.2] ∧ H = [some ⟨1, ds⟩]) (dg41 G B) (by kernel_rfl) (by kernel_rfl) (by kernel_rfl) (by
    rw [t41]
    have hw := wF_fold (Tt ds) 32
    have hm : ∀ j ∈ opens' (Tt ds) 32, j < 32 := fun j hj => (opens_lt (Tt ds) 32 j hj).1
    have hal := allC_len hs hm
    have ec : cntU [.agg (([AV.bool true] : List AV) ++ ds)] = (opens' (Tt ds) 32).length := rfl
    have ea : allU [.agg (([AV.bool true] : List AV) ++ ds)] = allC (Tt ds) (opens' (Tt ds) 32) := rfl
    have em : minU [.agg (([AV.bool true] : List AV) ++ ds)] = mF (Tt ds) (opens' (Tt ds) 32) ((opens' (Tt ds) 32).length - 1) := rfl
    simp only [ec, ea, em]
    refine ⟨hs, fun h => ?_, fun h => ?_⟩
    · have h0 : (opens' (Tt ds) 32).length = 0 := by simpa using h
      have e0 : opens' (Tt ds) 32 = [] := List.eq_nil_of_length_eq_zero h0
      rw [hw, e0]
      constructor <;> first | rfl | trivial
    · have h0 : 0 < (opens' (Tt ds) 32).length := by
        have : ¬ (opens' (Tt ds) 32).length = 0 := by simpa using h
        omega
      have es : subL (allC (Tt ds) (opens' (Tt ds) 32)) 0 7 = sub7 (Tt ds) ((opens' (Tt ds) 32).getD 0 0) := by
        have := all_sub hs hm h0
        rwa [Nat.zero_mul] at this
      have hn := hm _ (getD_mem h0)
      obtain ⟨j, hj, ej⟩ := mF_mem (cs := Tt ds) (os := opens' (Tt ds) 32) ((opens' (Tt ds) 32).length - 1) (by omega)
      obtain ⟨jl, jo⟩ := opens_lt (Tt ds) 32 j hj
      have h7 := ok7_cells (sub_ok7 hs jl)
      have hk := mF_wF hD ((opens' (Tt ds) 32).length - 1) (by omega)
      rw [show (opens' (Tt ds) 32).length - 1 + 1 = (opens' (Tt ds) 32).length by omega, List.take_length, ← hw] at hk
      have iI : ∀ k, k < 7 → isI .i64 (mF (Tt ds) (opens' (Tt ds) 32) ((opens' (Tt ds) 32).length - 1)) k = true := fun k hk => by
        rw [ej]
        unfold sub7
        rw [h7]
        match k, hk with
        | 0, _ | 1, _ | 2, _ | 3, _ | 4, _ | 5, _ | 6, _ => rfl
      rw [es]
      refine ⟨decide_eq_true (by omega), leB_iff.2 (by omega), sub_cells hs hn, by rw [sub7_len hs hn]; rfl, st_ok hs, ?_, iI 0 (by omega), dI hs (by omega) (by omega), iI 5 (by omega), ?_⟩
      · show (samCs (sub7 (Tt ds) ((opens' (Tt ds) 32).getD 0 0)) (sub7 (Tt ds) ((opens' (Tt ds) 32).getD 0 0)) && Nat.ble 1 (opens' (Tt ds) 32).length) = true
        rw [samCs_refl (sub7_sam hs hn), show Nat.ble 1 (opens' (Tt ds) 32).length = true by rw [Nat.ble_eq]; exact h0]; rfl
      · rw [hk]
        have h5 := hD.2.2 j jl jo
        have hb := hD.2.1
        have e5 : getI (mF (Tt ds) (opens' (Tt ds) 32) ((opens' (Tt ds) 32).length - 1)) 5 = sL (Tt ds) j := by rw [ej]; exact sub7_get (by omega)
        have et : getI ds 256 = tk (Tt ds) := rfl
        rw [e5, et, i64_in (by omega)]
        constructor <;> first | rfl | trivial)
  simp only [vVs, vV, vR, vN, vI, vHp, List.map_cons, List.map_nil, Option.map_some, vBlk, vL] at this
  exact this
def rWaitsS : DSum := fun args H => match args with
  | [.ptr (.rw i) (.lit 0)] => match H[i]? with
    | some (some ⟨1, l⟩) => some (.chk (.uf 1512 okDU [.agg (.app (.of [.bool (.lit true)]) l)]) (.one (.tup [.int .i64 (.uf 1405 wS32 [.agg (.app (.of [.bool (.lit true)]) l)]), .int .i64 (.uf 1406 wT32 [.agg (.app (.of [.bool (.lit true)]) l)]), .bool (.uf 1407 wO32 [.agg (.app (.of [.bool (.lit true)]) l)])]) []))
    | _ => none
  | _ => none
theorem rWaitsS_ok (G : Nat → List AV) (B : Nat) : DSumOk (⟨Try.prog, G, B⟩ : Ctx) 41 rWaitsS := by
  intro args H o ho
  unfold rWaitsS at ho
  split at ho
  · rename_i i
    split at ho
    · rename_i l hi
      simp only [Option.some.injEq] at ho
      subst ho
      intro h1
      have h1 : okD (Tt (vL G l)) 1000000 := okDU_iff.1 h1
      have hs := (okT_iff.1 h1.1.1).1
      have key := r_waits G B (vL G l) h1
      exact DOut.get1 (C := (⟨Try.prog, G, B⟩ : Ctx)) hi key (d_flat hs) (by simp [vVs, bnds]) (by simp [vV, vVs, bnd, bnds]) (by simp [vV])
    · simp at ho
  · simp at ho
/-! ### Fair -/
theorem fB_eq {cs : List AV} (hD : okD cs 1000000) {o : Nat} (ho : o < 32) (hoo : sO cs o = true) (w : Int) : fB cs (sub7 cs o) w = (!decide (getI (sub7 cs o) 6 > w) && !decide (IntKind.wrap .i64 (IntKind.wrap .i64 (tk cs - getI (sub7 cs o) 5) + 1) > w)) := by
  have h2 := hD.2.2 o ho hoo
  have h3 := hD.2.1
  have e2 : getI (sub7 cs o) 5 = sL cs o := sub7_get (by omega)
  have ew : w64 (tk cs - sL cs o) = tk cs - sL cs o := i64_in (by omega)
  have ew' : IntKind.wrap .i64 (tk cs - sL cs o) = tk cs - sL cs o := i64_in (by omega)
  simp only [fB, e2, ew, ew']
  rw [i64_in (n := tk cs - sL cs o + 1) (by omega)]
  congr 1
  · by_cases h : getI (sub7 cs o) 6 ≤ w
    · rw [decide_eq_true h, decide_eq_false (by omega)]; rfl
    · rw [decide_eq_false h, decide_eq_true (by omega)]; rfl
  · by_cases h : tk cs - sL cs o < w
    · rw [decide_eq_true h, decide_eq_false (by omega)]; rfl
    · rw [decide_eq_false h, decide_eq_true (by omega)]; rfl
theorem rf_loop (G : Nat → List AV) (B : Nat) (ds : List AV) (hD : okD (Tt ds) 1000000) (w : Int) :
    AWp (⟨Try.prog, G, B⟩ : Ctx) 1 (.loop (loopN Try.f42 0)) (fl 39 [0, 1, 5, 6, 4] [.ptr (.rw 0) 0, .int .i64 w, .slice true (.rw 1) 0 (opens' (Tt ds) 32).length, .int .i64 0, .bool false]) [some ⟨1, ds⟩, some ⟨7, allC (Tt ds) (opens' (Tt ds) 32)⟩]
      (lv 39 [0, 1, 5, 6, 4] fun e vs H => H = [some ⟨1, ds⟩, some ⟨7, allC (Tt ds) (opens' (Tt ds) 32)⟩] ∧ (fairF (Tt ds) w 32 = true → e = .exit 0 ∧ wk [.undef, .undef, .undef, .undef, .undef] vs) ∧ (fairF (Tt ds) w 32 = false → e = .ret ∧ wk [.undef, .undef, .undef, .undef, .bool false] vs)) := by
  have hs := (okT_iff.1 hD.1.1).1
  rw [fairF_all]
  have hlt := opens_lt (Tt ds) 32
  have hlen := opens_len (Tt ds) 32
  generalize hos : opens' (Tt ds) 32 = os at *
  have hm : ∀ j ∈ os, j < 32 := fun j hj => (hlt j hj).1
  refine aloop_lv (fun j vs H => ∃ i : Nat, i ≤ os.length ∧ j = os.length - i ∧ vs = [.ptr (.rw 0) 0, .int .i64 w, .slice true (.rw 1) 0 os.length, .int .i64 (i : Int), .bool false] ∧ H = [some ⟨1, ds⟩, some ⟨7, allC (Tt ds) os⟩] ∧ ∀ k, k < i → fB (Tt ds) (sub7 (Tt ds) (os.getD k 0)) w = true) os.length ⟨0, by omega, by omega, rfl, rfl, fun k hk => by omega⟩ ?_
  rintro j vs H ⟨i, hi, rfl, rfl, rfl, hall⟩
  refine dloop_ok (C := (⟨Try.prog, G, B⟩ : Ctx)) (dgNN G B) (fuel := 200) (n0 := 10) (m := 1) (c := loopN Try.f42 0) (vs := [.ptr (.rw 0) (.lit 0), .int .i64 (.var 7 w), .slice true (.rw 1) (.lit 0) (.var 4 os.length), .int .i64 (.var 6 (i : Int)), .bool (.lit false)]) (H := [some ⟨1, .var 8 ds⟩, some ⟨7, .var 9 (allC (Tt ds) os)⟩]) (by simp) ?_
  rw [rf_b]
  refine ⟨fun h => ?_, fun h => ?_⟩
  · have h' := of_decide_eq_true h
    have hi' : i < os.length := by omega
    have hmem := getD_mem hi'
    have ho := hm _ hmem
    have ef := fB_eq hD ho (hlt _ hmem).2 w
    rw [Int.toNat_natCast]
    have e5 : getI (allC (Tt ds) os) (i * 7 + 5) = getI (sub7 (Tt ds) (os.getD i 0)) 5 := all_I hs hm hi' (by omega)
    have e6 : getI (allC (Tt ds) os) (i * 7 + 6) = getI (sub7 (Tt ds) (os.getD i 0)) 6 := all_I hs hm hi' (by omega)
    have et : getI ds 256 = tk (Tt ds) := rfl
    simp only [e5, e6, et]
    have bad : fB (Tt ds) (sub7 (Tt ds) (os.getD i 0)) w = false → True ∧ ((os.all fun j => fB (Tt ds) (sub7 (Tt ds) j) w) = true → Ex.ret = .exit 0 ∧ wk [.undef, .undef, .undef, .undef, .undef] [AV.ptr (.rw 0) 0, .int .i64 w, .slice true (.rw 1) 0 os.length, .int .i64 (i : Int), .bool false]) ∧ ((os.all fun j => fB (Tt ds) (sub7 (Tt ds) j) w) = false → True ∧ wk [.undef, .undef, .undef, .undef, .bool false] [AV.ptr (.rw 0) 0, .int .i64 w, .slice true (.rw 1) 0 os.length, .int .i64 (i : Int), .bool false]) := fun hf =>
      ⟨trivial, fun q => (by rw [List.all_eq_true] at q; have := q _ hmem; rw [hf] at this; cases this), fun _ => ⟨trivial, by simp [wk]⟩⟩
    refine ⟨decide_eq_true (by omega), h, all_isI hs hm hi' (by omega), fun h6 => bad (by rw [ef, h6]; rfl), fun h6 => ⟨dI hs (by omega) (by omega), decide_eq_true (by omega), h, all_isI hs hm hi' (by omega), fun h5 => bad (by rw [ef, h5]; simp), fun h5 => ?_⟩⟩
    rw [i64_in (n := ((i : Nat) : Int) + 1) (by omega)]
    refine ⟨os.length - (i + 1), by omega, .inl ⟨i + 1, by omega, rfl, rfl, trivial, fun k hk => ?_⟩⟩
    by_cases hki : k = i
    · subst hki; rw [ef, h6, h5]; rfl
    · exact hall k (by omega)
  · have := of_decide_eq_false h
    have e : i = os.length := by omega
    have ea : (os.all fun j => fB (Tt ds) (sub7 (Tt ds) j) w) = true := by
      rw [List.all_eq_true]
      intro j hj
      obtain ⟨k, hk, hkj⟩ := List.getElem_of_mem hj
      have := hall k (by omega)
      rw [List.getD_eq_getElem?_getD, List.getElem?_eq_getElem hk] at this
      simpa [hkj] using this
    exact ⟨rfl, fun _ => ⟨rfl, by simp [wk]⟩, fun q => by rw [ea] at q; cases q⟩
def rfL : DL := ⟨0, 39, [0, 1, 5, 6, 4], fun vs H => match vs, H with
  | [.ptr (.rw 0) (.lit 0), .int .i64 w, .slice true (.rw 1) (.lit 0) c, .int .i64 (.lit 0), .bool (.lit false)], [some ⟨1, l⟩, some ⟨7, x⟩] =>
    some (.chk (.uf 1513 stU [.agg (.app (.of [.bool (.lit true)]) l), .agg x, .int .i64 (.ofN c)]) (.chk (.uf 1512 okDU [.agg (.app (.of [.bool (.lit true)]) l)]) (.tst (.uf 1411 fairU [.agg (.app (.of [.bool (.lit true)]) l), .int .i64 w]) (.one (.exit 0) [.undef, .undef, .undef, .undef, .undef] [some ⟨1, l⟩, some ⟨7, x⟩]) (.one .ret [.undef, .undef, .undef, .undef, .bool (.lit false)] [some ⟨1, l⟩, some ⟨7, x⟩]))))
  | _, _ => none⟩
theorem rfL_ok (G : Nat → List AV) (B : Nat) : DLoopOk (⟨Try.prog, G, B⟩ : Ctx) 1 (loopN Try.f42 0) rfL := by
  refine .of fun vs H o ho n Q hQ => ?_
  simp only [rfL] at ho
  split at ho
  · rename_i w c l x
    simp only [Option.some.injEq] at ho
    subst ho
    obtain ⟨h1, h2, h3, h4⟩ := hQ
    obtain ⟨g1, g2, g3⟩ := stU_iff (cs := Tt (vL G l)) (x := vL G x) (c := ((vN G c : Nat) : Int)) h1
    have h2 : okD (Tt (vL G l)) 1000000 := okDU_iff.1 h2
    have g5 : vN G c = (opens' (Tt (vL G l)) 32).length := by omega
    simp only [rfL, vVs, vV, vR, vN, vI, vB, vL, vHp, List.map_cons, List.map_nil, Option.map_some, vBlk]
    rw [g2, g5]
    refine (rf_loop G B (vL G l) h2 (vI G w)).lmono ?_
    rintro e vs'' H'' ⟨rfl, q1, q2⟩
    cases hf : fairF (Tt (vL G l)) (vI G w) 32 with
    | true =>
      obtain ⟨rfl, q3⟩ := q1 hf
      refine .inl ⟨_, q3, ?_⟩
      have := h3 hf
      simp only [lHolds, vVs, vV, vR, vN, vI, vB, vL, vHp, List.map_cons, List.map_nil, Option.map_some, vBlk] at this
      rw [g2] at this
      exact this
    | false =>
      obtain ⟨rfl, q3⟩ := q2 hf
      refine .inl ⟨_, q3, ?_⟩
      have := h4 hf
      simp only [lHolds, vVs, vV, vR, vN, vI, vB, vL, vHp, List.map_cons, List.map_nil, Option.map_some, vBlk] at this
      rw [g2] at this
      exact this
  · simp at ho
theorem dg42 (G : Nat → List AV) (B : Nat) : DGood (⟨Try.prog, G, B⟩ : Ctx) (Dc Try.prog [] [(44, rAllS)] [rfL] 1) (loopsOf (bodyOf Try.f42)) := dgood (mix G B) (by kernel_rfl) (.cons (rAllS_ok G B) .nil) (.cast (.cons (i := 0) (by kernel_rfl) rfl (rfL_ok G B) .nil) (by kernel_rfl))
theorem t42 (G : Nat → List AV) (ds : List AV) (w : Int) (Q : Ex → List AV → Hp → Prop) (R : AV → Hp → Prop) : vT G Q R (dcall (Dc Try.prog [] [(44, rAllS)] [rfL] 1) 200 10 Try.f42 [.ptr (.rw 0) (.lit 0), .int .i64 (.var 7 w)] [some ⟨1, .var 8 ds⟩] 1) = (
    okSU [.agg (([.bool (true)] : List AV) ++ ds)] = true ∧
    stU [.agg (([.bool (true)] : List AV) ++ ds), .agg (allU [.agg (([.bool (true)] : List AV) ++ ds)]), .int .i64 (((cntU [.agg (([.bool (true)] : List AV) ++ ds)] : Nat) : Int))] = true ∧
    okDU [.agg (([.bool (true)] : List AV) ++ ds)] = true ∧
    (fairU [.agg (([.bool (true)] : List AV) ++ ds), .int .i64 (w)] = true →
      R (.bool (true)) [some ⟨1, ds⟩]) ∧
    (fairU [.agg (([.bool (true)] : List AV) ++ ds), .int .i64 (w)] = false →
      R (.bool (false)) [some ⟨1, ds⟩])) := by kernel_rfl
theorem r_fair (G : Nat → List AV) (B : Nat) (ds : List AV) (w : Int) (hD : okD (Tt ds) 1000000) : ACalls (⟨Try.prog, G, B⟩ : Ctx) 42 [.ptr (.rw 0) 0, .int .i64 w] [some ⟨1, ds⟩] fun v H => v = .bool (fairF (Tt ds) w 32) ∧ H.take 1 = [some ⟨1, ds⟩] := by
  have hs := (okT_iff.1 hD.1.1).1
  have := dcall_ok (C := (⟨Try.prog, G, B⟩ : Ctx)) (fuel := 200) (n0 := 10) (f := 42) (fn := Try.f42) (args := [.ptr (.rw 0) (.lit 0), .int .i64 (.var 7 w)]) (H := [some ⟨1, .var 8 ds⟩]) (keep := 1)
    (R := fun v H => v = .bool (fairF (Tt ds) w 32) ∧ H = [some ⟨1, ds⟩]) (dg42 G B) (by kernel_rfl) (by kernel_rfl) (by kernel_rfl) (by
    rw [t42]
    have ef : fairU [.agg (([AV.bool true] : List AV) ++ ds), .int .i64 w] = fairF (Tt ds) w 32 := rfl
    rw [ef]
    exact ⟨hs, st_ok hs, okDU_iff.2 hD, fun h => ⟨by rw [h], rfl⟩, fun h => ⟨by rw [h], rfl⟩⟩)
  simp only [vVs, vV, vR, vN, vI, vHp, List.map_cons, List.map_nil, Option.map_some, vBlk, vL] at this
  exact this
def rFairS : DSum := fun args H => match args with
  | [.ptr (.rw i) (.lit 0), .int .i64 w] => match H[i]? with
    | some (some ⟨1, l⟩) => some (.chk (.uf 1512 okDU [.agg (.app (.of [.bool (.lit true)]) l)]) (.one (.bool (.uf 1411 fairU [.agg (.app (.of [.bool (.lit true)]) l), .int .i64 w])) []))
    | _ => none
  | _ => none
theorem rFairS_ok (G : Nat → List AV) (B : Nat) : DSumOk (⟨Try.prog, G, B⟩ : Ctx) 42 rFairS := by
  intro args H o ho
  unfold rFairS at ho
  split at ho
  · rename_i i w
    split at ho
    · rename_i l hi
      simp only [Option.some.injEq] at ho
      subst ho
      intro h1
      have h1 : okD (Tt (vL G l)) 1000000 := okDU_iff.1 h1
      have hs := (okT_iff.1 h1.1.1).1
      have key := r_fair G B (vL G l) (vI G w) h1
      exact DOut.get1 (C := (⟨Try.prog, G, B⟩ : Ctx)) hi key (d_flat hs) (by simp [vVs, vV, bnds, bnd]) (by simp [vV, bnd]) (by simp [vV])
    · simp at ho
  · simp at ho
end Go.Am
