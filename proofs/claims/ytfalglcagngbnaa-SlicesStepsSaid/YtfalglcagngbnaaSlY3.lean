/-
  Slices: the document's Of told; two lists.
-/
import Derived.Test.YtfalglcagngbnaaSlY2
namespace Go.Am
open Go.Proofs
set_option maxRecDepth 100000
def ofF (cs : List AV) (a : Int) (os : List Nat) : List AV := (os.filter fun j => sA cs j == a).map fun j => AV.int .i64 (sN cs j)
theorem ofF_app (cs : List AV) (a : Int) (os : List Nat) (o : Nat) : ofF cs a (os ++ [o]) = if sA cs o == a then ofF cs a os ++ [.int .i64 (sN cs o)] else ofF cs a os := by
  unfold ofF
  rw [List.filter_append, List.map_append]
  by_cases h : (sA cs o == a) = true
  · rw [if_pos h]; simp [List.filter_cons, h]
  · rw [if_neg h]; simp [List.filter_cons, h]
theorem ofF_len (cs : List AV) (a : Int) (os : List Nat) : (ofF cs a os).length ≤ os.length := by
  unfold ofF
  rw [List.length_map]
  exact List.length_filter_le ..
theorem ofF_flat (cs : List AV) (a : Int) (os : List Nat) (n : Nat) : bnds n (ofF cs a os) = true := by
  rw [bnds_eq, List.all_eq_true]
  intro v hv
  obtain ⟨j, _, rfl⟩ := List.mem_map.1 hv
  rfl
theorem ofF_isI (cs : List AV) (a : Int) (os : List Nat) {i : Nat} (h : i < (ofF cs a os).length) : isI .i64 (ofF cs a os) i = true := by
  have := List.getElem_mem h
  obtain ⟨j, _, ej⟩ := List.mem_map.1 (show (ofF cs a os)[i] ∈ _ from this)
  unfold isI
  rw [List.getElem?_eq_getElem h, ← ej]; rfl
theorem rof_loop (G : Nat → List AV) (B : Nat) (ds : List AV) (hs : okS (Tt ds) = true) (a : Int) :
    AWp (⟨Try.prog, G, B⟩ : Ctx) 1 (.loop (loopN Try.f40 0)) (fl 32 [0, 1, 5, 6, 7] [.ptr (.rw 0) 0, .int .i64 a, .slice true (.rw 2) 0 0, .slice true (.rw 1) 0 (opens' (Tt ds) 32).length, .int .i64 0]) [some ⟨1, ds⟩, some ⟨7, allC (Tt ds) (opens' (Tt ds) 32)⟩, some ⟨1, []⟩]
      (lv 32 [0, 1, 5, 6, 7] fun e vs H => e = .exit 0 ∧ wk [.undef, .undef, .slice true (.rw 2) 0 (ofF (Tt ds) a (opens' (Tt ds) 32)).length, .undef, .undef] vs ∧ H = [some ⟨1, ds⟩, some ⟨7, allC (Tt ds) (opens' (Tt ds) 32)⟩, some ⟨1, ofF (Tt ds) a (opens' (Tt ds) 32)⟩]) := by
  have hlt := opens_lt (Tt ds) 32
  have hlen := opens_len (Tt ds) 32
  generalize hos : opens' (Tt ds) 32 = os at *
  have hm : ∀ j ∈ os, j < 32 := fun j hj => (hlt j hj).1
  refine aloop_lv (fun j vs H => ∃ i : Nat, i ≤ os.length ∧ j = os.length - i ∧ vs = [.ptr (.rw 0) 0, .int .i64 a, .slice true (.rw 2) 0 (ofF (Tt ds) a (os.take i)).length, .slice true (.rw 1) 0 os.length, .int .i64 (i : Int)] ∧ H = [some ⟨1, ds⟩, some ⟨7, allC (Tt ds) os⟩, some ⟨1, ofF (Tt ds) a (os.take i)⟩]) os.length ⟨0, by omega, by omega, rfl, rfl⟩ ?_
  rintro j vs H ⟨i, hi, rfl, rfl, rfl⟩
  refine dloop_ok (C := (⟨Try.prog, G, B⟩ : Ctx)) (dgNN G B) (fuel := 200) (n0 := 10) (m := 1) (c := loopN Try.f40 0) (vs := [.ptr (.rw 0) (.lit 0), .int .i64 (.var 7 a), .slice true (.rw 2) (.lit 0) (.var 5 (ofF (Tt ds) a (os.take i)).length), .slice true (.rw 1) (.lit 0) (.var 4 os.length), .int .i64 (.var 6 (i : Int))]) (H := [some ⟨1, .var 8 ds⟩, some ⟨7, .var 9 (allC (Tt ds) os)⟩, some ⟨1, .var 10 (ofF (Tt ds) a (os.take i))⟩]) (by simp) ?_
  rw [rof_b]
  refine ⟨fun h => ?_, fun h => ?_⟩
  · have h' := of_decide_eq_true h
    have hi' : i < os.length := by omega
    rw [Int.toNat_natCast]
    have e1 : getI (allC (Tt ds) os) (i * 7 + 1) = sA (Tt ds) (os.getD i 0) := by rw [all_I hs hm hi' (by omega)]; exact sub7_get (by omega)
    have e0 : getI (allC (Tt ds) os) (i * 7) = sN (Tt ds) (os.getD i 0) := by
      have : getI (allC (Tt ds) os) (i * 7 + 0) = _ := all_I hs hm hi' (by omega)
      rw [Nat.add_zero] at this
      rw [this]; exact sub7_get (by omega)
    have i0 : isI .i64 (allC (Tt ds) os) (i * 7) = true := by
      have := all_isI hs hm hi' (j := 0) (by omega)
      rwa [Nat.add_zero] at this
    have et : os.take (i + 1) = os.take i ++ [os.getD i 0] := by
      rw [List.take_add_one, List.getElem?_eq_getElem hi', List.getD_eq_getElem?_getD, List.getElem?_eq_getElem hi']; rfl
    have hle := ofF_len (Tt ds) a (os.take i)
    have htk : (os.take i).length ≤ i := by simp; omega
    rw [e1, e0]
    refine ⟨decide_eq_true (by omega), h, all_isI hs hm hi' (by omega), fun hc => ⟨decide_eq_true (by omega), h, i0, leB_iff.2 (by omega), Nat.beq_refl _, ?_⟩, fun hc => ?_⟩
    · have eo : ofF (Tt ds) a (os.take (i + 1)) = ofF (Tt ds) a (os.take i) ++ [.int .i64 (sN (Tt ds) (os.getD i 0))] := by rw [et, ofF_app, if_pos hc]
      refine ⟨os.length - (i + 1), by omega, .inr ⟨_, _, ⟨i + 1, by omega, rfl, rfl, rfl⟩, ?_⟩⟩
      rw [eo]
      have f1 := ofF_flat (Tt ds) a (os.take i) 0
      have f2 : bnds 0 (ofF (Tt ds) a (os.take i) ++ [.int .i64 (sN (Tt ds) (os.getD i 0))]) = true := bnds_app f1 rfl
      have f3 := allC_flat hs os
      refine View.renM (θ := [0, 1, 4]) (by simp) (fixes1' rfl) (by decide) ⟨⟨bnds_mono (Nat.zero_le _) _ (d_flat hs), by rw [rens_flat _ _ (d_flat hs)]; rfl⟩, ⟨bnds_mono (Nat.zero_le _) _ f3, by rw [rens_flat _ _ f3]; rfl⟩, ⟨bnds_mono (Nat.zero_le _) _ f2, by rw [rens_flat _ _ f2]; rfl⟩, trivial⟩ (by simp [bnds, bnd]) ?_
      have e5 := i64_in (n := ((i : Nat) : Int) + 1) (by omega)
      simp [rens, ren, wk] at e5 ⊢
      exact e5
    · have eo : ofF (Tt ds) a (os.take (i + 1)) = ofF (Tt ds) a (os.take i) := by rw [et, ofF_app, if_neg (by rw [hc]; simp)]
      exact ⟨os.length - (i + 1), by omega, .inl ⟨i + 1, by omega, rfl, by rw [i64_in (by omega), eo]; rfl, by rw [eo]⟩⟩
  · have := of_decide_eq_false h
    have e : i = os.length := by omega
    subst e
    rw [List.take_length]
    exact ⟨rfl, by simp [wk], rfl⟩
def ofNU : List AV → Nat := fun ys => match ys with
  | [.agg cs, .int _ a] => (ofF cs a (opens' cs 32)).length
  | _ => 0
def ofU : List AV → List AV := fun ys => match ys with
  | [.agg cs, .int _ a] => ofF cs a (opens' cs 32)
  | _ => []
def rofL : DL := ⟨0, 32, [0, 1, 5, 6, 7], fun vs H => match vs, H with
  | [.ptr (.rw 0) (.lit 0), .int .i64 a, .nils, .slice true (.rw 1) (.lit 0) c, .int .i64 (.lit 0)], [some ⟨1, l⟩, some ⟨7, x⟩] =>
    some (.chk (.uf 1513 stU [.agg (.app (.of [.bool (.lit true)]) l), .agg x, .int .i64 (.ofN c)]) (.one (.exit 0) [.undef, .undef, .slice true (.rw 2) (.lit 0) (.uf 1516 ofNU [.agg (.app (.of [.bool (.lit true)]) l), .int .i64 a]), .undef, .undef] [some ⟨1, l⟩, some ⟨7, x⟩, some ⟨1, .uf 1517 ofU [.agg (.app (.of [.bool (.lit true)]) l), .int .i64 a]⟩]))
  | _, _ => none⟩
theorem rofL_ok (G : Nat → List AV) (B : Nat) : DLoopOk (⟨Try.prog, G, B⟩ : Ctx) 1 (loopN Try.f40 0) rofL := by
  refine .of fun vs H o ho n Q hQ => ?_
  simp only [rofL] at ho
  split at ho
  · rename_i a c l x
    simp only [Option.some.injEq] at ho
    subst ho
    obtain ⟨h1, h3⟩ := hQ
    obtain ⟨g1, g2, g3⟩ := stU_iff (cs := Tt (vL G l)) (x := vL G x) (c := ((vN G c : Nat) : Int)) h1
    have g5 : vN G c = (opens' (Tt (vL G l)) 32).length := by omega
    refine lone ?_ h3
    simp only [rofL, vVs, vV, vR, vN, vI, vL, vHp, List.map_cons, List.map_nil, Option.map_some, vBlk]
    rw [g2, g5]
    exact AWp.nil (H := [some ⟨1, _⟩, some ⟨7, _⟩]) 1 (by simp) (nilrs_fl (vs := [.ptr (.rw 0) 0, .int .i64 (vI G a), .slice true (.rw 2) 0 0, .slice true (.rw 1) 0 (opens' (Tt (vL G l)) 32).length, .int .i64 0]) ⟨.inl rfl, .inl rfl, .inr ⟨rfl, rfl⟩, .inl rfl, .inl rfl, trivial⟩) ⟨⟨rfl, nilrs_refl _⟩, ⟨rfl, nilrs_refl _⟩, trivial⟩ (rof_loop G B _ g1 (vI G a))
  · simp at ho
theorem dg40 (G : Nat → List AV) (B : Nat) : DGood (⟨Try.prog, G, B⟩ : Ctx) (Dc Try.prog [] [(44, rAllS)] [rofL] 1) (loopsOf (bodyOf Try.f40)) := dgood (mix G B) (by kernel_rfl) (.cons (rAllS_ok G B) .nil) (.cast (.cons (i := 0) (by kernel_rfl) rfl (rofL_ok G B) .nil) (by kernel_rfl))
theorem t40 (G : Nat → List AV) (ds : List AV) (a : Int) (Q : Ex → List AV → Hp → Prop) (R : AV → Hp → Prop) : vT G Q R (dcall (Dc Try.prog [] [(44, rAllS)] [rofL] 1) 200 10 Try.f40 [.ptr (.rw 0) (.lit 0), .int .i64 (.var 7 a)] [some ⟨1, .var 8 ds⟩] 3) = (
    okSU [.agg (([.bool (true)] : List AV) ++ ds)] = true ∧
    stU [.agg (([.bool (true)] : List AV) ++ ds), .agg (allU [.agg (([.bool (true)] : List AV) ++ ds)]), .int .i64 (((cntU [.agg (([.bool (true)] : List AV) ++ ds)] : Nat) : Int))] = true ∧
    R (.slice true (.rw 2) (0) (ofNU [.agg (([.bool (true)] : List AV) ++ ds), .int .i64 (a)])) [some ⟨1, ds⟩, some ⟨7, (allU [.agg (([.bool (true)] : List AV) ++ ds)])⟩, some ⟨1, (ofU [.agg (([.bool (true)] : List AV) ++ ds), .int .i64 (a)])⟩]) := by kernel_rfl
theorem r_of (G : Nat → List AV) (B : Nat) (ds : List AV) (hs : okS (Tt ds) = true) (a : Int) : ACalls (⟨Try.prog, G, B⟩ : Ctx) 40 [.ptr (.rw 0) 0, .int .i64 a] [some ⟨1, ds⟩] fun v H => v = .slice true (.rw 1) 0 (ofF (Tt ds) a (opens' (Tt ds) 32)).length ∧ H = [some ⟨1, ds⟩, some ⟨1, ofF (Tt ds) a (opens' (Tt ds) 32)⟩] := by
  have key := dcall_ok (C := (⟨Try.prog, G, B⟩ : Ctx)) (fuel := 200) (n0 := 10) (f := 40) (fn := Try.f40) (args := [.ptr (.rw 0) (.lit 0), .int .i64 (.var 7 a)]) (H := [some ⟨1, .var 8 ds⟩]) (keep := 3)
    (R := fun v H => v = .slice true (.rw 2) 0 (ofF (Tt ds) a (opens' (Tt ds) 32)).length ∧ H = [some ⟨1, ds⟩, some ⟨7, allC (Tt ds) (opens' (Tt ds) 32)⟩, some ⟨1, ofF (Tt ds) a (opens' (Tt ds) 32)⟩]) (dg40 G B) (by kernel_rfl) (by kernel_rfl) (by kernel_rfl) (by
    rw [t40]
    exact ⟨hs, st_ok hs, rfl, rfl⟩)
  have m3 : ∀ {l : List AV}, bnds 0 l = true → bnds 3 l = true := fun h => bnds_mono (Nat.zero_le _) _ h
  have f1 := ofF_flat (Tt ds) a (opens' (Tt ds) 32) 0
  have f3 := allC_flat hs (opens' (Tt ds) 32)
  have key := key.keep (by simp [vHp]) (by simp only [hpB, List.length_cons, List.length_nil, Nat.zero_add, Nat.reduceAdd, m3 (d_flat hs), m3 f1, m3 f3, Bool.and_self]) (by simp [bnd]) (by simp)
  refine key.view fun v H' ⟨h1, h2⟩ => ⟨_, _, ⟨rfl, rfl⟩, ?_⟩
  subst h1 h2
  refine View.renM (θ := [0, 2]) (by simp [vHp]) (fixes1' rfl) (by decide) ⟨⟨bnds_mono (Nat.zero_le _) _ (d_flat hs), by rw [rens_flat _ _ (d_flat hs)]; rfl⟩, ⟨bnds_mono (Nat.zero_le _) _ f1, by rw [rens_flat _ _ f1]; rfl⟩, trivial⟩ (by simp [bnds, bnd]) ?_
  simp [rens, ren, wk]
def rOfS : DSum := fun args H => match args with
  | [.ptr (.rw i) (.lit 0), .int .i64 a] => match H[i]? with
    | some (some ⟨1, l⟩) => some (.chk (.uf 1300 okSU [.agg (.app (.of [.bool (.lit true)]) l)]) (.one (.slice true (.rw H.length) (.lit 0) (.uf 1516 ofNU [.agg (.app (.of [.bool (.lit true)]) l), .int .i64 a])) [.new ⟨1, .uf 1517 ofU [.agg (.app (.of [.bool (.lit true)]) l), .int .i64 a]⟩]))
    | _ => none
  | _ => none
theorem rOfS_ok (G : Nat → List AV) (B : Nat) : DSumOk (⟨Try.prog, G, B⟩ : Ctx) 40 rOfS := by
  intro args H o ho
  unfold rOfS at ho
  split at ho
  · rename_i i a
    split at ho
    · rename_i l hi
      simp only [Option.some.injEq] at ho
      subst ho
      intro h1
      have h1 : okS (Tt (vL G l)) = true := h1
      have key := r_of G B (vL G l) h1 (vI G a)
      exact DOut.new1 (C := (⟨Try.prog, G, B⟩ : Ctx)) (v0 := .slice true (.rw 1) 0 (ofF (Tt (vL G l)) (vI G a) (opens' (Tt (vL G l)) 32)).length) hi key (d_flat h1) (ofF_flat _ _ _ 0) (by simp [vVs, vV, bnds, bnd]) (by simp [bnd]) (by simp [vV, vR, vN, ren, List.getD]; rfl)
    · simp at ho
  · simp at ho
/-! ### two lists -/
theorem si_loop (G : Nat → List AV) (B : Nat) (xs : List AV) (c : Nat) (hx : ∀ i, i < c → isI .i64 xs i = true) (hc : c ≤ 1000) :
    AWp (⟨Try.prog, G, B⟩ : Ctx) 2 (.loop (loopN Try.f38 0)) (fl 26 [0, 1, 5, 4] [.slice true (.rw 0) 0 c, .slice true (.rw 1) 0 c, .int .i64 0, .bool false]) [some ⟨1, xs⟩, some ⟨1, xs⟩]
      (lv 26 [0, 1, 5, 4] fun e vs H => e = .exit 0 ∧ wk [.undef, .undef, .undef, .undef] vs ∧ H = [some ⟨1, xs⟩, some ⟨1, xs⟩]) := by
  refine aloop_lv (fun j vs H => ∃ i : Nat, i ≤ c ∧ j = c - i ∧ vs = [.slice true (.rw 0) 0 c, .slice true (.rw 1) 0 c, .int .i64 (i : Int), .bool false] ∧ H = [some ⟨1, xs⟩, some ⟨1, xs⟩]) c ⟨0, by omega, rfl, rfl, rfl⟩ ?_
  rintro j vs H ⟨i, hi, rfl, rfl, rfl⟩
  refine dloop_ok (C := (⟨Try.prog, G, B⟩ : Ctx)) (dgNN G B) (fuel := 200) (n0 := 10) (m := 2) (c := loopN Try.f38 0) (vs := [.slice true (.rw 0) (.lit 0) (.var 4 c), .slice true (.rw 1) (.lit 0) (.var 5 c), .int .i64 (.var 6 (i : Int)), .bool (.lit false)]) (H := [some ⟨1, .var 9 xs⟩, some ⟨1, .var 10 xs⟩]) (by simp) ?_
  rw [si_b]
  refine ⟨fun h => ?_, fun h => ⟨rfl, by simp [wk], rfl⟩⟩
  have h' := of_decide_eq_true h
  have hi' : i < c := by omega
  rw [Int.toNat_natCast]
  refine ⟨decide_eq_true (by omega), h, hx i hi', decide_eq_true (by omega), h, hx i hi', fun _ => ?_, fun q => by simp at q⟩
  rw [i64_in (by omega)]
  exact ⟨c - (i + 1), by omega, .inl ⟨i + 1, by omega, rfl, rfl, rfl⟩⟩
def twinU : List AV → Bool := fun ys => match ys with
  | [.agg x, .agg y, .int _ c, .int _ d] => samCs x y && (decide (c = d ∧ 0 ≤ c ∧ c ≤ 1000) && (List.range c.toNat).all fun i => isI .i64 x i)
  | _ => false
theorem twin_iff {x y : List AV} {c d : Nat} (h : twinU [.agg x, .agg y, .int .i64 (c : Int), .int .i64 (d : Int)] = true) : y = x ∧ d = c ∧ c ≤ 1000 ∧ ∀ i, i < c → isI .i64 x i = true := by
  simp only [twinU, Bool.and_eq_true, decide_eq_true_eq, List.all_eq_true, List.mem_range, Int.toNat_natCast] at h
  exact ⟨(samCs_eq h.1).symm, by omega, by omega, h.2.2⟩
def siL : DL := ⟨0, 26, [0, 1, 5, 4], fun vs H => match vs, H with
  | [.slice true (.rw 0) (.lit 0) c, .slice true (.rw 1) (.lit 0) d, .int .i64 (.lit 0), .bool (.lit false)], [some ⟨1, x⟩, some ⟨1, y⟩] =>
    some (.chk (.uf 1518 twinU [.agg x, .agg y, .int .i64 (.ofN c), .int .i64 (.ofN d)]) (.one (.exit 0) [.undef, .undef, .undef, .undef] [some ⟨1, x⟩, some ⟨1, y⟩]))
  | _, _ => none⟩
theorem siL_ok (G : Nat → List AV) (B : Nat) : DLoopOk (⟨Try.prog, G, B⟩ : Ctx) 2 (loopN Try.f38 0) siL := by
  refine .of fun vs H o ho n Q hQ => ?_
  simp only [siL] at ho
  split at ho
  · rename_i c d x y
    simp only [Option.some.injEq] at ho
    subst ho
    obtain ⟨h1, h3⟩ := hQ
    obtain ⟨g1, g2, g3, g4⟩ := twin_iff (x := vL G x) (y := vL G y) (c := vN G c) (d := vN G d) h1
    refine lone ?_ h3
    simp only [siL, vVs, vV, vR, vN, vI, vB, vL, vHp, List.map_cons, List.map_nil, Option.map_some, vBlk]
    rw [g1, g2]
    exact si_loop G B _ _ g4 g3
  · simp at ho
theorem dg38 (G : Nat → List AV) (B : Nat) : DGood (⟨Try.prog, G, B⟩ : Ctx) (Dc Try.prog [] [] [siL] 2) (loopsOf (bodyOf Try.f38)) := dgood (mix G B) (by kernel_rfl) .nil (.cast (.cons (i := 0) (by kernel_rfl) rfl (siL_ok G B) .nil) (by kernel_rfl))
theorem t38 (G : Nat → List AV) (xs ys : List AV) (c d : Nat) (Q : Ex → List AV → Hp → Prop) (R : AV → Hp → Prop) : vT G Q R (dcall (Dc Try.prog [] [] [siL] 2) 200 10 Try.f38 [.slice true (.rw 0) (.lit 0) (.var 4 c), .slice true (.rw 1) (.lit 0) (.var 5 d)] [some ⟨1, .var 9 xs⟩, some ⟨1, .var 10 ys⟩] 2) = (
    (((((c : Nat) : Int) : Int) == ((d : Nat) : Int)) = true →
      twinU [.agg xs, .agg ys, .int .i64 (((c : Nat) : Int)), .int .i64 (((d : Nat) : Int))] = true ∧
      R (.bool (true)) [some ⟨1, xs⟩, some ⟨1, ys⟩]) ∧
    (((((c : Nat) : Int) : Int) == ((d : Nat) : Int)) = false →
      R (.bool (false)) [some ⟨1, xs⟩, some ⟨1, ys⟩])) := by kernel_rfl
theorem r_ints (G : Nat → List AV) (B : Nat) (xs : List AV) (c : Nat) (hc : c ≤ 1000) (hx : ∀ i, i < c → isI .i64 xs i = true) (h : samCs xs xs = true) : ACalls (⟨Try.prog, G, B⟩ : Ctx) 38 [.slice true (.rw 0) 0 c, .slice true (.rw 1) 0 c] [some ⟨1, xs⟩, some ⟨1, xs⟩] fun v H => v = .bool true ∧ H.take 2 = [some ⟨1, xs⟩, some ⟨1, xs⟩] := by
  have := dcall_ok (C := (⟨Try.prog, G, B⟩ : Ctx)) (fuel := 200) (n0 := 10) (f := 38) (fn := Try.f38) (args := [.slice true (.rw 0) (.lit 0) (.var 4 c), .slice true (.rw 1) (.lit 0) (.var 5 c)]) (H := [some ⟨1, .var 9 xs⟩, some ⟨1, .var 10 xs⟩]) (keep := 2)
    (R := fun v H => v = .bool true ∧ H = [some ⟨1, xs⟩, some ⟨1, xs⟩]) (dg38 G B) (by kernel_rfl) (by kernel_rfl) (by kernel_rfl) (by
    rw [t38]
    have tw : twinU [.agg xs, .agg xs, .int .i64 (c : Int), .int .i64 (c : Int)] = true := by
      simp only [twinU, Bool.and_eq_true, decide_eq_true_eq, List.all_eq_true, List.mem_range, Int.toNat_natCast]
      exact ⟨h, ⟨trivial, by omega, by omega⟩, hx⟩
    refine ⟨fun _ => ⟨tw, rfl, rfl⟩, fun q => by simp at q⟩)
  simp only [vVs, vV, vR, vN, vI, vHp, List.map_cons, List.map_nil, Option.map_some, vBlk, vL] at this
  exact this
def flat2U : List AV → Bool := fun ys => match ys with
  | [.agg cs] => bnds 0 cs
  | _ => false
def intsS : DSum := fun args H => match args with
  | [.slice true (.rw i) (.lit 0) c, .slice true (.rw j) (.lit 0) d] => match Nat.beq i j with
    | true => none
    | false => match H[i]?, H[j]? with
      | some (some ⟨1, x⟩), some (some ⟨1, y⟩) => some (.chk (.uf 1518 twinU [.agg x, .agg y, .int .i64 (.ofN c), .int .i64 (.ofN d)]) (.chk (.uf 1519 flat2U [.agg x]) (.one (.bool (.lit true)) [])))
      | _, _ => none
  | _ => none
theorem samCs_self : ∀ {x y : List AV}, samCs x y = true → samCs x x = true
  | [], _, _ => rfl
  | a :: x, [], h => by simp [samCs] at h
  | a :: x, b :: y, h => by
    simp only [samCs, Bool.and_eq_true] at h ⊢
    have e := samC_eq h.1
    have h1 := h.1
    rw [← e] at h1
    exact ⟨h1, samCs_self h.2⟩
theorem intsS_ok (G : Nat → List AV) (B : Nat) : DSumOk (⟨Try.prog, G, B⟩ : Ctx) 38 intsS := by
  intro args H o ho
  unfold intsS at ho
  split at ho
  · rename_i i c j d
    split at ho
    · simp at ho
    · rename_i hij
      have hne : i ≠ j := fun h => by rw [h] at hij; simp at hij
      split at ho
      · rename_i x y hi hj
        simp only [Option.some.injEq] at ho
        subst ho
        intro h1 h2
        have h0 : twinU [.agg (vL G x), .agg (vL G y), .int .i64 ((vN G c : Nat) : Int), .int .i64 ((vN G d : Nat) : Int)] = true := h1
        have hsam : samCs (vL G x) (vL G y) = true := by
          simp only [twinU, Bool.and_eq_true] at h0
          exact h0.1
        obtain ⟨g1, g2, g3, g4⟩ := twin_iff h0
        have h2 : bnds 0 (vL G x) = true := h2
        have key := r_ints G B (vL G x) (vN G c) g3 g4 (samCs_self hsam)
        refine DOut.get2 (C := (⟨Try.prog, G, B⟩ : Ctx)) (args0 := [.slice true (.rw 0) 0 (vN G c), .slice true (.rw 1) 0 (vN G c)]) (b0 := ⟨1, x⟩) (b1 := ⟨1, y⟩) hne hi hj ?_ h2 (by show bnds 0 (vL G y) = true; rw [g1]; exact h2) (by simp [bnds, bnd]) (by simp [vVs, vV, vR, vN, rens, ren, g2]) (by simp [vV, bnd]) (by simp [vV])
        simp only [vBlk, vV, vB]
        rw [g1]
        exact key
      · simp at ho
  · simp at ho
end Go.Am
