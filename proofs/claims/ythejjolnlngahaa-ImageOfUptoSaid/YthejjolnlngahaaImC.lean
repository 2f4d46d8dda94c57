/-
  Images: the section in which a place lies.
-/
import Derived.Test.YthejjolnlngahaaImB
namespace Go.Am
open Go.Proofs
set_option maxRecDepth 100000
def sA (cs : List AV) (k : Nat) : Int := getI cs (k * 4)
def sR (cs : List AV) (k : Nat) : Int := getI cs (k * 4 + 1)
def sN (cs : List AV) (k : Nat) : Nat := roN cs (k * 4 + 2)
def sZ (cs : List AV) (k : Nat) : Int := getI cs (k * 4 + 3)
def secsOk (cs : List AV) (n : Nat) : Bool := allTo (fun k => leafsOk cs (k * 4) [.int .i64, .int .i64, .sl, .int .i64]) n
theorem secsOk_at {cs : List AV} {n k : Nat} (h : secsOk cs n = true) (hk : k < n) : leafsOk cs (k * 4) [.int .i64, .int .i64, .sl, .int .i64] = true := allTo_iff.1 h k hk
theorem secsOk_is {cs : List AV} {n k : Nat} (h : secsOk cs n = true) (hk : k < n) : isI .i64 cs (k * 4) = true ∧ isRS cs (k * 4 + 2) = true := by
  have := secsOk_at h hk
  simp only [leafsOk, leafOk, Bool.and_eq_true] at this
  exact ⟨this.1, this.2.2.1⟩
def hitB (cs : List AV) (x : Int) (h : Bool) (k : Nat) : Bool := decide (sA cs k ≤ x) && decide (IntKind.wrap .i64 (x - sA cs k) ≤ IntKind.wrap .i64 ((sN cs k : Int) - wdF h))
def hitR (cs : List AV) (x : Int) (h : Bool) (k : Nat) : Bool := decide (sA cs k ≤ x) && (decide (x ≤ 8192) && decide (IntKind.wrap .i64 (x + wdF h) ≤ IntKind.wrap .i64 (sA cs k + (sN cs k : Int))))
def datN (cs : List AV) (n : Nat) (x : Int) (h : Bool) : Nat := fstF (hitB cs x h) n
def inN (cs : List AV) (n : Nat) (x : Int) (h : Bool) : Nat := fstF (hitR cs x h) n
def inF (cs : List AV) (n : Nat) (x : Int) (h : Bool) : Int := if inN cs n x h < n then (inN cs n x h : Int) else -1
def datU : List AV → Nat := fun xs => match xs with
  | [.agg cs, .int _ n, .int _ x, .bool h] => datN cs n.toNat x h
  | _ => 0
def inU : List AV → Int := fun xs => match xs with
  | [.agg cs, .int _ n, .int _ x, .bool h] => inF cs n.toNat x h
  | _ => 0
def secsU : List AV → Bool := fun xs => match xs with
  | [.agg cs, .int _ n] => secsOk cs n.toNat && Nat.ble n.toNat 1000000
  | _ => false
theorem secsU_iff {cs : List AV} {n : Nat} : secsU [.agg cs, .int .i64 (n : Int)] = true ↔ secsOk cs n = true ∧ n ≤ 1000000 := by
  simp only [secsU, int_nat, Bool.and_eq_true]
  exact ⟨fun ⟨h1, h2⟩ => ⟨h1, Nat.le_of_ble_eq_true h2⟩, fun ⟨h1, h2⟩ => ⟨h1, Nat.ble_eq_true_of_le h2⟩⟩
def dtQ (G : Nat → List AV) (ks n : Nat) (x : Int) (h : Bool) : List AV → Bool := stQ (secsU [.agg (G ks), .int .i64 (n : Int)]) [.slice true (.ro ks) 0 n, .ptr (.rw 0) 0, .nilp, .int .i64 (n : Int), .int .i64 0] [some ⟨1, [.int .i64 x, .bool h]⟩]
def dtO (ks n : Nat) (x : Int) (h : Bool) : LOut := .tst (.cmp .lss (.ofN (.uf 1707 datU [.agg (.ro (.var 2 ks)), .int .i64 (.ofN (.var 3 n)), .int .i64 (.var 6 x), .bool (.var 7 h)])) (.ofN (.var 3 n))) (.one .ret [.undef, .undef, .ptr (.ro (.var 2 ks)) (.mul (.uf 1707 datU [.agg (.ro (.var 2 ks)), .int .i64 (.ofN (.var 3 n)), .int .i64 (.var 6 x), .bool (.var 7 h)]) 4), .undef, .undef] [some ⟨1, .of [.int .i64 (.var 6 x), .bool (.var 7 h)]⟩]) (.one (.exit 0) [.undef, .undef, .nilp, .undef, .undef] [some ⟨1, .of [.int .i64 (.var 6 x), .bool (.var 7 h)]⟩])
theorem t34 (G : Nat → List AV) (ks n : Nat) (x : Int) (h : Bool) (Q : Ex → List AV → Hp → Prop) (R : AV → Hp → Prop) : vT G Q R (dcall (Dc Try.prog [] [] [(DLat 1706 (dtQ G ks n x h) 0 42 [0, 3, 4, 8, 9] (dtO ks n x h))] 1) 300 20 Try.f34 [.slice true (.ro (.var 2 ks)) (.lit 0) (.var 3 n), .agg (.of [.int .i64 (.var 6 x), .bool (.var 7 h)])] [] 0) = (
    (dtQ G ks n x h) [.agg ([.slice true (.ro (ks)) (0) (n), .ptr (.rw 0) (0), .nilp, .int .i64 (((n : Nat) : Int)), .int .i64 (0)] : List AV), .agg ([.tup [.int .i64 (1), .agg ([.int .i64 (x), .bool (h)] : List AV)]] : List AV)] = true ∧
    (decide ((((datU [.agg (G (ks)), .int .i64 (((n : Nat) : Int)), .int .i64 (x), .bool (h)] : Nat) : Int) : Int) < ((n : Nat) : Int)) = true →
      R (.ptr (.ro (ks)) ((datU [.agg (G (ks)), .int .i64 (((n : Nat) : Int)), .int .i64 (x), .bool (h)]) * 4)) []) ∧
    (decide ((((datU [.agg (G (ks)), .int .i64 (((n : Nat) : Int)), .int .i64 (x), .bool (h)] : Nat) : Int) : Int) < ((n : Nat) : Int)) = false →
      R (.nilp) [])) := by kernel_rfl
def inQ (G : Nat → List AV) (ks n kp m : Nat) (s x : Int) (h : Bool) : List AV → Bool := stQ (secsU [.agg (G ks), .int .i64 (n : Int)]) [.ptr (.rw 0) 0, .ptr (.rw 1) 0, .int .i64 0, .int .i64 0] [some ⟨1, [.int .i64 s, .slice true (.ro ks) 0 n, .slice true (.ro kp) 0 m]⟩, some ⟨1, [.int .i64 x, .bool h]⟩]
def inO (ks n kp m : Nat) (s x : Int) (h : Bool) : LOut := .tst (.cmp .eql (.uf 1709 inU [.agg (.ro (.var 2 ks)), .int .i64 (.ofN (.var 3 n)), .int .i64 (.var 6 x), .bool (.var 7 h)]) (.lit (-1))) (.one (.exit 0) [.undef, .undef, .undef, .undef] [some ⟨1, .of [.int .i64 (.var 1 s), .slice true (.ro (.var 2 ks)) (.lit 0) (.var 3 n), .slice true (.ro (.var 4 kp)) (.lit 0) (.var 5 m)]⟩, some ⟨1, .of [.int .i64 (.var 6 x), .bool (.var 7 h)]⟩]) (.one .ret [.undef, .undef, .int .i64 (.uf 1709 inU [.agg (.ro (.var 2 ks)), .int .i64 (.ofN (.var 3 n)), .int .i64 (.var 6 x), .bool (.var 7 h)]), .undef] [some ⟨1, .of [.int .i64 (.var 1 s), .slice true (.ro (.var 2 ks)) (.lit 0) (.var 3 n), .slice true (.ro (.var 4 kp)) (.lit 0) (.var 5 m)]⟩, some ⟨1, .of [.int .i64 (.var 6 x), .bool (.var 7 h)]⟩])
theorem t37 (G : Nat → List AV) (ks n kp m : Nat) (s x : Int) (h : Bool) (Q : Ex → List AV → Hp → Prop) (R : AV → Hp → Prop) : vT G Q R (dcall (Dc Try.prog [] [] [(DLat 1708 (inQ G ks n kp m s x h) 0 44 [2, 3, 4, 5] (inO ks n kp m s x h))] 2) 300 20 Try.f37 [.agg (.of [.int .i64 (.var 1 s), .slice true (.ro (.var 2 ks)) (.lit 0) (.var 3 n), .slice true (.ro (.var 4 kp)) (.lit 0) (.var 5 m)]), .agg (.of [.int .i64 (.var 6 x), .bool (.var 7 h)])] [] 0) = (
    (inQ G ks n kp m s x h) [.agg ([.ptr (.rw 0) (0), .ptr (.rw 1) (0), .int .i64 (0), .int .i64 (0)] : List AV), .agg ([.tup [.int .i64 (1), .agg ([.int .i64 (s), .slice true (.ro (ks)) (0) (n), .slice true (.ro (kp)) (0) (m)] : List AV)], .tup [.int .i64 (1), .agg ([.int .i64 (x), .bool (h)] : List AV)]] : List AV)] = true ∧
    (((inU [.agg (G (ks)), .int .i64 (((n : Nat) : Int)), .int .i64 (x), .bool (h)] : Int) == (-1)) = true →
      R (.int .i64 ((-1))) []) ∧
    (((inU [.agg (G (ks)), .int .i64 (((n : Nat) : Int)), .int .i64 (x), .bool (h)] : Int) == (-1)) = false →
      R (.int .i64 (inU [.agg (G (ks)), .int .i64 (((n : Nat) : Int)), .int .i64 (x), .bool (h)])) [])) := by kernel_rfl
theorem fst_at {p : Nat → Bool} {n i : Nat} (h1 : i ≤ fstF p n) (h2 : i < n) : p i = decide (i = fstF p n) := by
  obtain ⟨g1, g2, g3⟩ := fstF_spec (p := p) (k := n)
  by_cases e : i = fstF p n
  · rw [decide_eq_true e, e]; exact g2 (by omega)
  · rw [decide_eq_false e]; exact g3 i (by omega)
theorem datU_eq {cs : List AV} {n : Nat} {x : Int} {h : Bool} : datU [.agg cs, .int .i64 (n : Int), .int .i64 x, .bool h] = datN cs n x h := by simp only [datU, int_nat]
theorem inU_eq {cs : List AV} {n : Nat} {x : Int} {h : Bool} : inU [.agg cs, .int .i64 (n : Int), .int .i64 x, .bool h] = inF cs n x h := by simp only [inU, int_nat]
theorem wdU_eq {h : Bool} : wdU [.bool h] = wdF h := rfl
theorem dtL_ok (G : Nat → List AV) (B : Nat) (ks n : Nat) (x : Int) (h : Bool) : DLoopOk (⟨Try.prog, G, B⟩ : Ctx) 1 (loopN Try.f34 0) (DLat 1706 (dtQ G ks n x h) 0 42 [0, 3, 4, 8, 9] (dtO ks n x h)) := by
  refine DLat_ok rfl fun hc => ?_
  obtain ⟨hk, hn⟩ := secsU_iff.1 hc
  have hle : datN (G ks) n x h ≤ n := fstF_spec.1
  refine scan (datN (G ks) n x h) (fun i => [.slice true (.ro ks) 0 n, .ptr (.rw 0) 0, .nilp, .int .i64 (n : Int), .int .i64 (i : Int)]) (fun _ => [some ⟨1, [.int .i64 x, .bool h]⟩]) fun i hi => ?_
  refine dloop_ok (C := (⟨Try.prog, G, B⟩ : Ctx)) (by rw [show loopsOf (loopN Try.f34 0) = [] by kernel_rfl]; exact dgood (inl := []) (ls := []) (M := 1) (mixI G B) (by kernel_rfl) (progIb_ok G B) .nil) (fuel := 300) (n0 := 20) (m := 1) (c := loopN Try.f34 0) (vs := [.slice true (.ro (.var 2 ks)) (.lit 0) (.var 3 n), .ptr (.rw 0) (.lit 0), .nilp, .int .i64 (.ofN (.var 3 n)), .int .i64 (.ofN (.var 8 i))]) (H := [some ⟨1, .of [.int .i64 (.var 6 x), .bool (.var 7 h)]⟩]) (by simp) ?_
  rw [dt_b]
  have fb : hpB 1 [some ⟨1, [.int .i64 x, .bool h]⟩] = true := by simp [hpB, bnds, bnd]
  have key : i < n → hitB (G ks) x h i = decide (i = datN (G ks) n x h) := fun h2 => fst_at hi h2
  simp only [hitB, sA, sN] at key
  have nx : hitB (G ks) x h i = false → i < n → i < datN (G ks) n x h := fun h1 h2 => by
    have := fst_at hi h2
    rw [h1] at this
    have := of_decide_eq_false this.symm
    unfold datN at *; omega
  refine ⟨fun h1 => ?_, fun h1 => ?_⟩
  · have h1' := of_decide_eq_true h1
    have hin : i < n := by omega
    obtain ⟨t1, t2⟩ := secsOk_is hk hin
    rw [i64_in (n := (i : Int) + 1) (by omega)]
    refine ⟨decide_eq_true (by omega), h1, t1, fun h2 => ⟨t1, t2, fun h3 => ?_, fun h3 => ?_⟩, fun h2 => ?_⟩
    · have e : i = datN (G ks) n x h := of_decide_eq_true (by rw [← key hin, Bool.and_eq_true]; exact ⟨h2, h3⟩)
      refine .inl ⟨?_, rfl, .inr ?_⟩
      · show decide (((datU [.agg (G ks), .int .i64 (n : Int), .int .i64 x, .bool h] : Nat) : Int) < (n : Int)) = true
        rw [datU_eq, ← e]; exact h1
      · refine View.same (H := [some ⟨1, [.int .i64 x, .bool h]⟩]) (by simp) fb ?_
        show fv 1 [.undef, .undef, .ptr (.ro ks) (datU [.agg (G ks), .int .i64 (n : Int), .int .i64 x, .bool h] * 4), .undef, .undef] _
        rw [datU_eq, ← e]; simp [fv, bnd]
    · exact ⟨nx (by unfold hitB sA sN; rw [Bool.and_eq_false_iff]; exact .inr h3) hin, .inr (View.same (H := [some ⟨1, [.int .i64 x, .bool h]⟩]) (by simp) fb (by simp [fv, bnd, bnds]))⟩
    · exact ⟨nx (by unfold hitB sA sN; rw [Bool.and_eq_false_iff]; exact .inl h2) hin, .inr (View.same (H := [some ⟨1, [.int .i64 x, .bool h]⟩]) (by simp) fb (by simp [fv, bnd, bnds]))⟩
  · have h1' := of_decide_eq_false h1
    refine .inr ⟨?_, rfl, .inl ⟨by simp [vVs, vV, wk], rfl⟩⟩
    show decide (((datU [.agg (G ks), .int .i64 (n : Int), .int .i64 x, .bool h] : Nat) : Int) < (n : Int)) = false
    rw [datU_eq]; exact decide_eq_false (by omega)
theorem ACalls.drop0 {C : Ctx} {f : FuncId} {args : List AV} {v0 : AV} (h : ACalls C f args [] fun v _ => v = v0) (hb : bnd 0 v0 = true) (hu : v0 ≠ .undef) : ACalls C f args [] fun v H => v = v0 ∧ H = [] := by
  refine h.view fun v H' hj => ⟨v0, [], ⟨rfl, rfl⟩, ?_⟩
  subst hj
  exact View.same (H := []) (G := H') (by simp) rfl (by simp [fv, hb])
theorem dt_call (G : Nat → List AV) (B : Nat) (ks n : Nat) (x : Int) (h : Bool) (hk : secsU [.agg (G ks), .int .i64 (n : Int)] = true) : ACalls (⟨Try.prog, G, B⟩ : Ctx) 34 [.slice true (.ro ks) 0 n, .agg [.int .i64 x, .bool h]] [] fun v H => v = (if datN (G ks) n x h < n then .ptr (.ro ks) (datN (G ks) n x h * 4) else .nilp) ∧ H = [] := by
  have := dcall_ok (C := (⟨Try.prog, G, B⟩ : Ctx)) (fuel := 300) (n0 := 20) (f := 34) (fn := Try.f34) (args := [.slice true (.ro (.var 2 ks)) (.lit 0) (.var 3 n), .agg (.of [.int .i64 (.var 6 x), .bool (.var 7 h)])]) (H := []) (keep := 0)
    (R := fun v _ => v = (if datN (G ks) n x h < n then .ptr (.ro ks) (datN (G ks) n x h * 4) else .nilp)) (dgood (inl := []) (ls := [(DLat 1706 (dtQ G ks n x h) 0 42 [0, 3, 4, 8, 9] (dtO ks n x h))]) (M := 1) (mixI G B) (by kernel_rfl) .nil (.cast (.cons (i := 0) (by kernel_rfl) rfl (dtL_ok G B ks n x h) .nil) (by kernel_rfl))) (by kernel_rfl) (by kernel_rfl) (by kernel_rfl) (by
    rw [t34]
    refine ⟨stQ_refl hk rfl rfl, fun e => ?_, fun e => ?_⟩
    · rw [datU_eq] at *; have : ((datN (G ks) n x h : Nat) : Int) < (n : Int) := of_decide_eq_true e; exact (if_pos (by omega)).symm
    · rw [datU_eq] at *; have : ¬ ((datN (G ks) n x h : Nat) : Int) < (n : Int) := of_decide_eq_false e; exact (if_neg (by omega)).symm)
  refine ACalls.drop0 this ?_ ?_ <;> split <;> simp [bnd]
theorem inL_ok (G : Nat → List AV) (B : Nat) (ks n kp m : Nat) (s x : Int) (h : Bool) : DLoopOk (⟨Try.prog, G, B⟩ : Ctx) 2 (loopN Try.f37 0) (DLat 1708 (inQ G ks n kp m s x h) 0 44 [2, 3, 4, 5] (inO ks n kp m s x h)) := by
  refine DLat_ok rfl fun hc => ?_
  obtain ⟨hk, hn⟩ := secsU_iff.1 hc
  have hle : inN (G ks) n x h ≤ n := fstF_spec.1
  refine scan (inN (G ks) n x h) (fun i => [.ptr (.rw 0) 0, .ptr (.rw 1) 0, .int .i64 0, .int .i64 (i : Int)]) (fun _ => [some ⟨1, [.int .i64 s, .slice true (.ro ks) 0 n, .slice true (.ro kp) 0 m]⟩, some ⟨1, [.int .i64 x, .bool h]⟩]) fun i hi => ?_
  refine dloop_ok (C := (⟨Try.prog, G, B⟩ : Ctx)) (by rw [show loopsOf (loopN Try.f37 0) = [] by kernel_rfl]; exact dgood (inl := []) (ls := []) (M := 2) (mixI G B) (by kernel_rfl) (progIb_ok G B) .nil) (fuel := 300) (n0 := 20) (m := 2) (c := loopN Try.f37 0) (vs := [.ptr (.rw 0) (.lit 0), .ptr (.rw 1) (.lit 0), .int .i64 (.lit 0), .int .i64 (.ofN (.var 8 i))]) (H := [some ⟨1, .of [.int .i64 (.var 1 s), .slice true (.ro (.var 2 ks)) (.lit 0) (.var 3 n), .slice true (.ro (.var 4 kp)) (.lit 0) (.var 5 m)]⟩, some ⟨1, .of [.int .i64 (.var 6 x), .bool (.var 7 h)]⟩]) (by simp) ?_
  rw [in_b]
  have fb : hpB 2 [some ⟨1, [.int .i64 s, .slice true (.ro ks) 0 n, .slice true (.ro kp) 0 m]⟩, some ⟨1, [.int .i64 x, .bool h]⟩] = true := by simp [hpB, bnds, bnd]
  have key : i < n → hitR (G ks) x h i = decide (i = inN (G ks) n x h) := fun h2 => fst_at hi h2
  simp only [hitR, sA, sN] at key
  have nx : hitR (G ks) x h i = false → i < n → i < inN (G ks) n x h := fun h1 h2 => by
    have := fst_at hi h2
    rw [h1] at this
    have := of_decide_eq_false this.symm
    unfold inN at *; omega
  refine ⟨fun h1 => ?_, fun h1 => ?_⟩
  · have h1' := of_decide_eq_true h1
    have hin : i < n := by omega
    rw [i64_in (n := (i : Int) + 1) (by omega)]
    refine ⟨decide_eq_true (by omega), h1, secsOk_at hk hin, fun h2 => ⟨fun h3 => ⟨fun h4 => ?_, fun h4 => ?_⟩, fun h3 => ?_⟩, fun h2 => ?_⟩
    · have e : i = inN (G ks) n x h := of_decide_eq_true (by rw [← key hin, Bool.and_eq_true, Bool.and_eq_true]; exact ⟨h2, h3, h4⟩)
      have e2 : inF (G ks) n x h = (i : Int) := by unfold inF; rw [← e, if_pos hin]
      refine .inr ⟨?_, rfl, .inr ?_⟩
      · show (inU [.agg (G ks), .int .i64 (n : Int), .int .i64 x, .bool h] == (-1 : Int)) = false
        rw [inU_eq, e2]; exact beq_eq_false_iff_ne.2 (by omega)
      · refine View.same (H := [some ⟨1, [.int .i64 s, .slice true (.ro ks) 0 n, .slice true (.ro kp) 0 m]⟩, some ⟨1, [.int .i64 x, .bool h]⟩]) (by simp) fb ?_
        show fv 2 [.undef, .undef, .int .i64 (inU [.agg (G ks), .int .i64 (n : Int), .int .i64 x, .bool h]), .undef] _
        rw [inU_eq, e2]; simp [fv, bnd]
    · exact ⟨nx (by unfold hitR sA sN; rw [Bool.and_eq_false_iff, Bool.and_eq_false_iff]; exact .inr (.inr h4)) hin, .inr (View.same (H := [some ⟨1, [.int .i64 s, .slice true (.ro ks) 0 n, .slice true (.ro kp) 0 m]⟩, some ⟨1, [.int .i64 x, .bool h]⟩]) (by simp) fb (by simp [fv, bnd, bnds]))⟩
    · exact ⟨nx (by unfold hitR sA sN; rw [Bool.and_eq_false_iff, Bool.and_eq_false_iff]; exact .inr (.inl h3)) hin, .inr (View.same (H := [some ⟨1, [.int .i64 s, .slice true (.ro ks) 0 n, .slice true (.ro kp) 0 m]⟩, some ⟨1, [.int .i64 x, .bool h]⟩]) (by simp) fb (by simp [fv, bnd, bnds]))⟩
    · exact ⟨nx (by unfold hitR sA sN; rw [Bool.and_eq_false_iff]; exact .inl h2) hin, .inr (View.same (H := [some ⟨1, [.int .i64 s, .slice true (.ro ks) 0 n, .slice true (.ro kp) 0 m]⟩, some ⟨1, [.int .i64 x, .bool h]⟩]) (by simp) fb (by simp [fv, bnd, bnds]))⟩
  · have h1' := of_decide_eq_false h1
    refine .inl ⟨?_, rfl, .inl ⟨by simp [vVs, vV, wk], rfl⟩⟩
    show (inU [.agg (G ks), .int .i64 (n : Int), .int .i64 x, .bool h] == (-1 : Int)) = true
    rw [inU_eq]; unfold inF; rw [if_neg (by omega)]; rfl
theorem in_call (G : Nat → List AV) (B : Nat) (ks n kp m : Nat) (s x : Int) (h : Bool) (hk : secsU [.agg (G ks), .int .i64 (n : Int)] = true) : ACalls (⟨Try.prog, G, B⟩ : Ctx) 37 [.agg [.int .i64 s, .slice true (.ro ks) 0 n, .slice true (.ro kp) 0 m], .agg [.int .i64 x, .bool h]] [] fun v H => v = .int .i64 (inF (G ks) n x h) ∧ H = [] := by
  have := dcall_ok (C := (⟨Try.prog, G, B⟩ : Ctx)) (fuel := 300) (n0 := 20) (f := 37) (fn := Try.f37) (args := [.agg (.of [.int .i64 (.var 1 s), .slice true (.ro (.var 2 ks)) (.lit 0) (.var 3 n), .slice true (.ro (.var 4 kp)) (.lit 0) (.var 5 m)]), .agg (.of [.int .i64 (.var 6 x), .bool (.var 7 h)])]) (H := []) (keep := 0)
    (R := fun v _ => v = .int .i64 (inF (G ks) n x h)) (dgood (inl := []) (ls := [(DLat 1708 (inQ G ks n kp m s x h) 0 44 [2, 3, 4, 5] (inO ks n kp m s x h))]) (M := 2) (mixI G B) (by kernel_rfl) .nil (.cast (.cons (i := 0) (by kernel_rfl) rfl (inL_ok G B ks n kp m s x h) .nil) (by kernel_rfl))) (by kernel_rfl) (by kernel_rfl) (by kernel_rfl) (by
    rw [t37, inU_eq]
    refine ⟨stQ_refl hk rfl rfl, fun e => ?_, fun e => rfl⟩
    rw [eq_of_beq e])
  exact ACalls.drop0 this rfl (by simp)
end Go.Am
