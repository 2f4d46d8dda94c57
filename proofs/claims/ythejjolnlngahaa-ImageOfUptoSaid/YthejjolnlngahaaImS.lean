/-
  ImageOf: what the law calls.
-/
import Derived.Test.YthejjolnlngahaaImR
namespace Go.Am
open Go.Proofs
set_option maxRecDepth 100000
theorem mu_b (G : Nat → List AV) (s : Int) (k n kp m i : Nat) (x : Int) (Q : Ex → List AV → Hp → Prop) (R : AV → Hp → Prop) : vT G Q R (dloop (Dc Try.prog [] [] [] 1) 300 20 1 (loopN Try.f10 0) 40 [1, 2, 3, 4] [.ptr (.rw 0) (.lit 0), .bool (.lit false), .int .i64 (.var 8 x), .int .i64 (.ofN (.var 9 i))] [some ⟨1, .of [.int .i64 (.var 4 s), .slice true (.ro (.var 1 k)) (.lit 0) (.var 2 n), .slice true (.ro (.var 5 kp)) (.lit 0) (.var 6 m)]⟩]) = (
    (decide ((((i : Nat) : Int) : Int) < ((n : Nat) : Int)) = true →
      (decide ((((i : Nat) : Int) : Int) < 20) = true →
        decide ((0 : Int) ≤ ((i : Nat) : Int)) = true ∧
        decide ((((i : Nat) : Int) : Int) < ((n : Nat) : Int)) = true ∧
        isRS (G (k)) ((i) * 4 + 2) = true ∧
        Q .normal [.ptr (.rw 0) (0), .bool (false), .int .i64 (IntKind.wrap .i64 (x + (if 99999 < ((roN (G (k)) ((i) * 4 + 2) : Nat) : Int) then 99999 else ((roN (G (k)) ((i) * 4 + 2) : Nat) : Int)))), .int .i64 (IntKind.wrap .i64 (((i : Nat) : Int) + 1))] [some ⟨1, ([.int .i64 (s), .slice true (.ro (k)) (0) (n), .slice true (.ro (kp)) (0) (m)] : List AV)⟩]) ∧
      (decide ((((i : Nat) : Int) : Int) < 20) = false →
        Q (.exit 0) [.ptr (.rw 0) (0), .bool (false), .int .i64 (x), .int .i64 (((i : Nat) : Int))] [some ⟨1, ([.int .i64 (s), .slice true (.ro (k)) (0) (n), .slice true (.ro (kp)) (0) (m)] : List AV)⟩])) ∧
    (decide ((((i : Nat) : Int) : Int) < ((n : Nat) : Int)) = false →
      Q (.exit 0) [.ptr (.rw 0) (0), .bool (false), .int .i64 (x), .int .i64 (((i : Nat) : Int))] [some ⟨1, ([.int .i64 (s), .slice true (.ro (k)) (0) (n), .slice true (.ro (kp)) (0) (m)] : List AV)⟩])) := by kernel_rfl
def muX (cs : List AV) : Nat → Int
  | 0 => 0
  | i + 1 => IntKind.wrap .i64 (muX cs i + (if 99999 < ((roN cs (i * 4 + 2) : Nat) : Int) then 99999 else ((roN cs (i * 4 + 2) : Nat) : Int)))
def muU : List AV → Int := fun xs => match xs with
  | [.agg cs, .int _ n] => muX cs (min n.toNat 20)
  | _ => 0
def muQ (G : Nat → List AV) (s : Int) (k n kp m : Nat) : List AV → Bool := stQ (secsOk (G k) n) [.ptr (.rw 0) 0, .bool false, .int .i64 0, .int .i64 0] [some ⟨1, [.int .i64 s, .slice true (.ro k) 0 n, .slice true (.ro kp) 0 m]⟩]
def muO (s : Int) (k n kp m : Nat) : LOut := .one (.exit 0) [.ptr (.rw 0) (.lit 0), .undef, .int .i64 (.uf 1750 muU [.agg (.ro (.var 1 k)), .int .i64 (.ofN (.var 2 n))]), .undef] [some ⟨1, .of [.int .i64 (.var 4 s), .slice true (.ro (.var 1 k)) (.lit 0) (.var 2 n), .slice true (.ro (.var 5 kp)) (.lit 0) (.var 6 m)]⟩]
theorem t10 (G : Nat → List AV) (s : Int) (k n kp m : Nat) (Q : Ex → List AV → Hp → Prop) (R : AV → Hp → Prop) : vT G Q R (dcall (Dc Try.prog [] [] [(DLat 1751 (muQ G s k n kp m) 0 40 [1, 2, 3, 4] (muO s k n kp m))] 1) 300 20 Try.f10 [.agg (.of [.int .i64 (.var 4 s), .slice true (.ro (.var 1 k)) (.lit 0) (.var 2 n), .slice true (.ro (.var 5 kp)) (.lit 0) (.var 6 m)])] [] 0) = (
    (muQ G s k n kp m) [.agg ([.ptr (.rw 0) (0), .bool (false), .int .i64 (0), .int .i64 (0)] : List AV), .agg ([.tup [.int .i64 (1), .agg ([.int .i64 (s), .slice true (.ro (k)) (0) (n), .slice true (.ro (kp)) (0) (m)] : List AV)]] : List AV)] = true ∧
    (decide ((((n : Nat) : Int) : Int) > 20) = true →
      R (.bool (true)) []) ∧
    (decide ((((n : Nat) : Int) : Int) > 20) = false →
      (decide ((((m : Nat) : Int) : Int) > 1000) = true →
        R (.bool (true)) []) ∧
      (decide ((((m : Nat) : Int) : Int) > 1000) = false →
        R (.bool (decide ((muU [.agg (G (k)), .int .i64 (((n : Nat) : Int))] : Int) > 60000))) []))) := by kernel_rfl
theorem muU_eq {cs : List AV} {n : Nat} : muU [.agg cs, .int .i64 (n : Int)] = muX cs (min n 20) := by simp only [muU, int_nat]
theorem muL_ok (G : Nat → List AV) (B : Nat) (s : Int) (k n kp m : Nat) : DLoopOk (⟨Try.prog, G, B⟩ : Ctx) 1 (loopN Try.f10 0) (DLat 1751 (muQ G s k n kp m) 0 40 [1, 2, 3, 4] (muO s k n kp m)) := by
  refine DLat_ok rfl fun hk => ?_
  refine scan (min n 20) (fun i => [.ptr (.rw 0) 0, .bool false, .int .i64 (muX (G k) i), .int .i64 (i : Int)]) (fun _ => [some ⟨1, [.int .i64 s, .slice true (.ro k) 0 n, .slice true (.ro kp) 0 m]⟩]) fun i hi => ?_
  refine dloop_ok (C := (⟨Try.prog, G, B⟩ : Ctx)) (by rw [show loopsOf (loopN Try.f10 0) = [] by kernel_rfl]; exact dgood (inl := []) (ls := []) (M := 1) (mixI G B) (by kernel_rfl) .nil .nil) (fuel := 300) (n0 := 20) (m := 1) (c := loopN Try.f10 0) (vs := [.ptr (.rw 0) (.lit 0), .bool (.lit false), .int .i64 (.var 8 (muX (G k) i)), .int .i64 (.ofN (.var 9 i))]) (H := [some ⟨1, .of [.int .i64 (.var 4 s), .slice true (.ro (.var 1 k)) (.lit 0) (.var 2 n), .slice true (.ro (.var 5 kp)) (.lit 0) (.var 6 m)]⟩]) (by simp) ?_
  rw [mu_b]
  have fin : ¬ (i < n ∧ i < 20) → (muO s k n kp m).post G 1 (.exit 0) [.ptr (.rw 0) 0, .bool false, .int .i64 (muX (G k) i), .int .i64 (i : Int)] [some ⟨1, [.int .i64 s, .slice true (.ro k) 0 n, .slice true (.ro kp) 0 m]⟩] := fun h => by
    refine ⟨rfl, .inl ⟨?_, rfl⟩⟩
    show wk [.ptr (.rw 0) 0, .undef, .int .i64 (muU [.agg (G k), .int .i64 (n : Int)]), .undef] _
    rw [muU_eq, show min n 20 = i by omega]; simp [wk]
  refine ⟨fun h1 => ⟨fun h2 => ?_, fun h2 => ?_⟩, fun h1 => ?_⟩
  · have h1' := of_decide_eq_true h1
    have h2' : (i : Int) < 20 := of_decide_eq_true h2
    rw [i64_in (n := (i : Int) + 1) (by omega)]
    exact ⟨decide_eq_true (by omega), h1, (secsOk_is hk (by omega)).2, by omega, .inl ⟨rfl, rfl⟩⟩
  · have h2' : ¬ (i : Int) < 20 := of_decide_eq_false h2
    exact fin (by omega)
  · have h1' := of_decide_eq_false h1
    exact fin (by omega)
def muchB (cs : List AV) (n m : Nat) : Bool := decide (n > 20) || (decide (m > 1000) || decide (muX cs (min n 20) > 60000))
def muchU : List AV → Bool := fun xs => match xs with
  | [.agg cs, .int _ n, .int _ m] => muchB cs n.toNat m.toNat
  | _ => false
theorem muchU_eq {cs : List AV} {n m : Nat} : muchU [.agg cs, .int .i64 (n : Int), .int .i64 (m : Int)] = muchB cs n m := by simp only [muchU, int_nat]
def secOkU : List AV → Bool := fun xs => match xs with
  | [.agg cs, .int _ n] => secsOk cs n.toNat
  | _ => false
theorem much_call (G : Nat → List AV) (B : Nat) (s : Int) (k n kp m : Nat) (hk : secsOk (G k) n = true) : ACalls (⟨Try.prog, G, B⟩ : Ctx) 10 [.agg [.int .i64 s, .slice true (.ro k) 0 n, .slice true (.ro kp) 0 m]] [] fun v _ => v = .bool (muchB (G k) n m) := by
  have := dcall_ok (C := (⟨Try.prog, G, B⟩ : Ctx)) (fuel := 300) (n0 := 20) (f := 10) (fn := Try.f10) (args := [.agg (.of [.int .i64 (.var 4 s), .slice true (.ro (.var 1 k)) (.lit 0) (.var 2 n), .slice true (.ro (.var 5 kp)) (.lit 0) (.var 6 m)])]) (H := []) (keep := 0)
    (R := fun v _ => v = .bool (muchB (G k) n m)) (dgood (inl := []) (ls := [(DLat 1751 (muQ G s k n kp m) 0 40 [1, 2, 3, 4] (muO s k n kp m))]) (M := 1) (mixI G B) (by kernel_rfl) .nil (.cast (.cons (i := 0) (by kernel_rfl) rfl (muL_ok G B s k n kp m) .nil) (by kernel_rfl))) (by kernel_rfl) (by kernel_rfl) (by kernel_rfl) (by
    rw [t10, muU_eq]
    refine ⟨stQ_refl hk rfl rfl, fun h1 => ?_, fun h1 => ⟨fun h2 => ?_, fun h2 => ?_⟩⟩
    · have h1 : (n : Int) > 20 := of_decide_eq_true h1
      unfold muchB; rw [decide_eq_true (p := n > 20) (by omega)]; rfl
    · have h2 : (m : Int) > 1000 := of_decide_eq_true h2
      unfold muchB; rw [decide_eq_true (p := m > 1000) (by omega), Bool.true_or, Bool.or_true]
    · have h1 : ¬ (n : Int) > 20 := of_decide_eq_false h1
      have h2 : ¬ (m : Int) > 1000 := of_decide_eq_false h2
      unfold muchB; rw [decide_eq_false (p := n > 20) (by omega), decide_eq_false (p := m > 1000) (by omega)]; rfl)
  exact this.monoK fun v H h => h
def muchS : DSum := fun args _ => match args with
  | [.agg (.of [.int .i64 _, .slice _ (.ro k) (.lit 0) n, .slice _ (.ro _) (.lit 0) m])] => some (.chk (.uf 1753 secOkU [.agg (.ro k), .int .i64 (.ofN n)]) (.one (.bool (.uf 1752 muchU [.agg (.ro k), .int .i64 (.ofN n), .int .i64 (.ofN m)])) []))
  | _ => none
theorem muchS_ok (G : Nat → List AV) (B : Nat) : DSumOk (⟨Try.prog, G, B⟩ : Ctx) 10 muchS := by
  intro args H o ho
  unfold muchS at ho
  split at ho
  · rename_i s mb k n mb' k' m
    simp only [Option.some.injEq] at ho
    subst ho
    intro hk
    have hk : secsOk (G (vN G k)) (vN G n) = true := by
      have hk : secOkU [.agg (G (vN G k)), .int .i64 (vN G n : Int)] = true := hk
      simpa only [secOkU, int_nat] using hk
    have key := ACalls.drop0 (much_call G B (vI G s) (vN G k) (vN G n) (vN G k') (vN G m) hk) rfl (by simp)
    rw [← muchU_eq] at key
    refine DOut.ro0 (C := (⟨Try.prog, G, B⟩ : Ctx)) (key.weaken fun ρ vs hv => ?_) (by simp [vVs, vV, vL, vR, bnds, bnd]) (by simp [vV, bnd])
    simp only [vVs, vV, vL, vR, vN, VRs, VR] at hv ⊢
    obtain ⟨v, vs', e, ⟨ws, e2, w1, t1, e3, q1, w2, t2, e4, q2, w3, t3, e5, q3, q4⟩, q6⟩ := hv
    exact ⟨v, vs', e, ⟨ws, e2, w1, t1, e3, q1, w2, t2, e4, (by have := VR_may (show VR ρ (.slice mb (.ro (vN G k)) 0 (vN G n)) w2 by simpa only [VR] using q2); simpa only [VR] using this), w3, t3, e5, (by have := VR_may (show VR ρ (.slice mb' (.ro (vN G k')) 0 (vN G m)) w3 by simpa only [VR] using q3); simpa only [VR] using this), q4⟩, q6⟩
  · simp at ho
end Go.Am
