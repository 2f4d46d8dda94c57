/-
  Wire: signed numbers, spoil, Join, known.
-/
import Derived.Test.YtcodkoholbmkkaaWrU
import Derived.Test.YtcodkoholbmkkaaBase6
import Derived.Test.YtcodkoholbmkkaaBase4
namespace Go.Am
open Go.Proofs
set_option maxRecDepth 100000
def nums : List (Nat × DSum) := [(9, numS false), (12, numS true)]
theorem nums_ok (G : Nat → List AV) (B : Nat) : DSumsOk (⟨Try.prog, G, B⟩ : Ctx) nums := .cons (numS_ok (num9 G B)) (.cons (numS_ok (num12 G B)) .nil)
/-! signed numbers -/
def foldI (n : Int) : Int := if n < 0 then 2 * (-(n + 1)) + 1 else 2 * n
def foldU (xs : List AV) : Int := match xs with
  | [.int _ n] => foldI n
  | _ => 0
def inI64 (xs : List AV) : Bool := match xs with
  | [.int _ n] => decide (-9223372036854775808 ≤ n) && decide (n ≤ 9223372036854775807)
  | _ => false
theorem inI64_eq {k : IntKind} {n : Int} (h : inI64 [.int k n] = true) : -9223372036854775808 ≤ n ∧ n ≤ 9223372036854775807 := by simpa [inI64] using h
theorem fold_in {n : Int} (h : -9223372036854775808 ≤ n ∧ n ≤ 9223372036854775807) : 0 ≤ foldI n ∧ foldI n ≤ 18446744073709551615 := by unfold foldI; split <;> omega
theorem u64_wrap (n : Int) : IntKind.u64.wrap n = n % 18446744073709551616 := by
  simp only [IntKind.wrap, IntKind.signed, IntKind.bits, Bool.false_and, Bool.false_eq_true, if_false]; omega
theorem xor_ones (b : BitVec 64) : (b ^^^ 18446744073709551615#64).toNat = 18446744073709551615 - b.toNat := by
  have : (18446744073709551615#64) = BitVec.allOnes 64 := by decide
  rw [this, BitVec.xor_allOnes, BitVec.toNat_not]
theorem fold13 {n : Int} (h : -9223372036854775808 ≤ n ∧ n ≤ 9223372036854775807) : kXor .u64 (kShl .u64 (IntKind.wrap .u64 n) 1) (IntKind.wrap .u64 (kShr .i64 n 63)) = foldI n := by
  have e1 : kShr .i64 n 63 = if n < 0 then -1 else 0 := by
    unfold kShr
    have : (2 : Int) ^ (min (63 : Int).toNat IntKind.i64.bits) = 9223372036854775808 := by decide
    rw [this, Int.fdiv_eq_ediv_of_nonneg _ (by omega)]
    split <;> omega
  have e2 : kShl .u64 (IntKind.wrap .u64 n) 1 = (2 * n) % 18446744073709551616 := by
    unfold kShl
    have : (2 : Int) ^ (min (1 : Int).toNat IntKind.u64.bits) = 2 := by decide
    rw [this, u64_wrap, u64_wrap]; omega
  rw [e1, e2, u64_wrap]
  show IntKind.u64.wrap (((BitVec.ofInt 64 (2 * n % 18446744073709551616) ^^^ BitVec.ofInt 64 ((if n < 0 then -1 else 0) % 18446744073709551616)).toNat : Nat) : Int) = _
  unfold foldI
  split
  · have : BitVec.ofInt 64 (-1 % 18446744073709551616) = 18446744073709551615#64 := by decide
    rw [this, xor_ones, u64_wrap, BitVec.toNat_ofInt]
    omega
  · have : BitVec.ofInt 64 (0 % 18446744073709551616) = 0#64 := by decide
    rw [this, BitVec.xor_zero, u64_wrap, BitVec.toNat_ofInt]
    omega
theorem fold14 {n : Int} (h : -9223372036854775808 ≤ n ∧ n ≤ 9223372036854775807) (hn : n < 0) : IntKind.wrap .u64 (IntKind.wrap .u64 (2 * IntKind.wrap .u64 (IntKind.wrap .i64 (0 - (IntKind.wrap .i64 (n + 1))))) + 1) = foldI n := by
  have e1 : IntKind.wrap .i64 (n + 1) = n + 1 := i64_in (by omega)
  have e2 : IntKind.wrap .i64 (0 - (n + 1)) = -(n + 1) := by rw [i64_in (by omega)]; omega
  rw [e1, e2, u64_in (n := -(n + 1)) (by omega), u64_in (n := 2 * -(n + 1)) (by omega), u64_in (by omega)]
  simp [foldI, hn]
theorem fold14' {n : Int} (h : -9223372036854775808 ≤ n ∧ n ≤ 9223372036854775807) (hn : ¬ n < 0) : IntKind.wrap .u64 (2 * IntKind.wrap .u64 n) = foldI n := by
  rw [u64_in (n := n) (by omega), u64_in (by omega)]
  simp [foldI, hn]
theorem t13 (G : Nat → List AV) (n : Int) (Q : Ex → List AV → Hp → Prop) (R : AV → Hp → Prop) : vT G Q R (dcall (Dc Try.prog [37] nums [] 0) 200 10 Try.f13 [.int .i64 (.var 1 n)] [] 1) = (
    inU64 [.int .u64 (kXor .u64 (kShl .u64 (IntKind.wrap .u64 (n)) (1)) (IntKind.wrap .u64 (kShr .i64 (n) (63))))] = true ∧
    R (.slice false (.rw 0) (0) (List.length (nformU [.int .u64 (kXor .u64 (kShl .u64 (IntKind.wrap .u64 (n)) (1)) (IntKind.wrap .u64 (kShr .i64 (n) (63))))]))) [some ⟨1, (bytesL (nformU [.int .u64 (kXor .u64 (kShl .u64 (IntKind.wrap .u64 (n)) (1)) (IntKind.wrap .u64 (kShr .i64 (n) (63))))]))⟩]) := by kernel_rfl
theorem t14 (G : Nat → List AV) (n : Int) (Q : Ex → List AV → Hp → Prop) (R : AV → Hp → Prop) : vT G Q R (dcall (Dc Try.prog [37] nums [] 0) 200 10 Try.f14 [.int .i64 (.var 1 n)] [] 1) = (
    (decide ((n : Int) < 0) = true →
      inU64 [.int .u64 (IntKind.wrap .u64 (IntKind.wrap .u64 (2 * IntKind.wrap .u64 (IntKind.wrap .i64 (0 - (IntKind.wrap .i64 (n + 1))))) + 1))] = true ∧
      R (.slice true (.rw 0) (0) (List.length (nformU [.int .u64 (IntKind.wrap .u64 (IntKind.wrap .u64 (2 * IntKind.wrap .u64 (IntKind.wrap .i64 (0 - (IntKind.wrap .i64 (n + 1))))) + 1))]))) [some ⟨1, (bytesL (nformU [.int .u64 (IntKind.wrap .u64 (IntKind.wrap .u64 (2 * IntKind.wrap .u64 (IntKind.wrap .i64 (0 - (IntKind.wrap .i64 (n + 1))))) + 1))]))⟩]) ∧
    (decide ((n : Int) < 0) = false →
      inU64 [.int .u64 (IntKind.wrap .u64 (2 * IntKind.wrap .u64 (n)))] = true ∧
      R (.slice true (.rw 0) (0) (List.length (nformU [.int .u64 (IntKind.wrap .u64 (2 * IntKind.wrap .u64 (n)))]))) [some ⟨1, (bytesL (nformU [.int .u64 (IntKind.wrap .u64 (2 * IntKind.wrap .u64 (n)))]))⟩])) := by kernel_rfl
theorem dgn (G : Nat → List AV) (B : Nat) : DGood (⟨Try.prog, G, B⟩ : Ctx) (Dc Try.prog [37] nums [] 0) [] := dgood (mix G B) (by kernel_rfl) (nums_ok G B) .nil
theorem in_fold {n : Int} (h : inI64 [.int .i64 n] = true) : inU64 [.int .u64 (foldI n)] = true := by
  have := fold_in (inI64_eq h)
  simp [inU64]; omega
theorem sig13 (G : Nat → List AV) (B : Nat) (n : Int) (h : inI64 [.int .i64 n] = true) : ACalls (⟨Try.prog, G, B⟩ : Ctx) 13 [.int .i64 n] [] fun v' H' => v' = .slice false (.rw 0) 0 (nformU [.int .u64 (foldI n)]).length ∧ H' = [some ⟨1, bytesL (nformU [.int .u64 (foldI n)])⟩] := by
  have key := dcall_ok (C := (⟨Try.prog, G, B⟩ : Ctx)) (f := 13) (R := fun v' H' => v' = .slice false (.rw 0) 0 (nformU [.int .u64 (foldI n)]).length ∧ H' = [some ⟨1, bytesL (nformU [.int .u64 (foldI n)])⟩]) (dgn G B) (by kernel_rfl) (by kernel_rfl) (by kernel_rfl) (fuel := 200) (n0 := 10) (keep := 1) (args := [.int .i64 (.var 1 n)]) (H := []) (by
    rw [t13, fold13 (inI64_eq h)]
    exact ⟨in_fold h, rfl, rfl⟩)
  exact key.keep (by simp [vHp]) (by simp [hpB, bytesL_flat]) (by simp [bnd]) (by simp)
theorem sig14 (G : Nat → List AV) (B : Nat) (n : Int) (h : inI64 [.int .i64 n] = true) : ACalls (⟨Try.prog, G, B⟩ : Ctx) 14 [.int .i64 n] [] fun v' H' => v' = .slice true (.rw 0) 0 (nformU [.int .u64 (foldI n)]).length ∧ H' = [some ⟨1, bytesL (nformU [.int .u64 (foldI n)])⟩] := by
  have key := dcall_ok (C := (⟨Try.prog, G, B⟩ : Ctx)) (f := 14) (R := fun v' H' => v' = .slice true (.rw 0) 0 (nformU [.int .u64 (foldI n)]).length ∧ H' = [some ⟨1, bytesL (nformU [.int .u64 (foldI n)])⟩]) (dgn G B) (by kernel_rfl) (by kernel_rfl) (by kernel_rfl) (fuel := 200) (n0 := 10) (keep := 1) (args := [.int .i64 (.var 1 n)]) (H := []) (by
    rw [t14]
    refine ⟨fun hn => ?_, fun hn => ?_⟩
    · rw [fold14 (inI64_eq h) (of_decide_eq_true hn)]
      exact ⟨in_fold h, rfl, rfl⟩
    · rw [fold14' (inI64_eq h) (of_decide_eq_false hn)]
      exact ⟨in_fold h, rfl, rfl⟩)
  exact key.keep (by simp [vHp]) (by simp [hpB, bytesL_flat]) (by simp [bnd]) (by simp)
def sigS (mb : Bool) : DSum := fun xs H => match xs with
  | [.int .i64 n] => some (.chk (.uf 1105 inI64 [.int .i64 n]) (.one (.slice mb (.rw H.length) (.lit 0) (.slen (.uf 1104 nformU [.int .u64 (.uf 1106 foldU [.int .i64 n])]))) [.new ⟨1, .bytes (.uf 1104 nformU [.int .u64 (.uf 1106 foldU [.int .i64 n])])⟩]))
  | _ => none
theorem sigS_ok {C : Ctx} {f : FuncId} {mb : Bool} (h : ∀ n : Int, inI64 [.int .i64 n] = true → ACalls C f [.int .i64 n] [] fun v' H' => v' = .slice mb (.rw 0) 0 (nformU [.int .u64 (foldI n)]).length ∧ H' = [some ⟨1, bytesL (nformU [.int .u64 (foldI n)])⟩]) : DSumOk C f (sigS mb) := by
  intro xs H o ho
  unfold sigS at ho
  split at ho
  · rename_i n
    simp at ho; subst ho
    intro hb
    simp only [vB, vVs, vV] at hb
    refine DOut.new0 (C := C) (args0 := [.int .i64 (vI C.G n)]) (v0 := .slice mb (.rw 0) 0 (nformU [.int .u64 (foldI (vI C.G n))]).length) ?_ (by simp only [vL, vS, vVs, vV]; exact bytesL_flat _ _) rfl (by simp only [vVs, vV]) (by simp [bnd]) (by simp [vV, vR, vN, vS, vVs, vI, foldU, ren])
    simp only [vBlk, vL, vS, vVs, vV, vI, foldU]
    exact h _ hb
  · simp at ho
/-! spoil -/
theorem sp0 (G : Nat → List AV) (s : List AV) (n : Nat) (i : Int) (Q : Ex → List AV → Hp → Prop) (R : AV → Hp → Prop) : vT G Q R (dloop (Dc Try.prog [] [] [] 1) 200 10 1 (loopN Try.f17 0) 20 [0, 2] [.slice true (.rw 0) (.lit 0) (.var 2 n), .int .i64 (.var 1 i)] [some ⟨1, .var 3 s⟩]) = (
    (decide ((i : Int) < ((n : Nat) : Int)) = true →
      decide ((0 : Int) ≤ i) = true ∧
      decide ((i : Int) < ((n : Nat) : Int)) = true ∧
      leB (Int.toNat (i) + 1) (List.length s) = true ∧
      Q .normal [.slice true (.rw 0) (0) (n), .int .i64 (IntKind.wrap .i64 (i + 1))] [some ⟨1, (setPart s (Int.toNat (i)) (.int .u8 (90)))⟩]) ∧
    (decide ((i : Int) < ((n : Nat) : Int)) = false →
      Q (.exit 0) [.slice true (.rw 0) (0) (n), .int .i64 (i)] [some ⟨1, s⟩])) := by kernel_rfl
theorem sp1 (G : Nat → List AV) (s : List AV) (n : Nat) (i : Int) (Q : Ex → List AV → Hp → Prop) (R : AV → Hp → Prop) : vT G Q R (dloop (Dc Try.prog [] [] [] 1) 200 10 1 (loopN Try.f17 1) 20 [0, 3] [.slice true (.rw 0) (.lit 0) (.var 2 n), .int .i64 (.var 1 i)] [some ⟨1, .var 3 s⟩]) = (
    (decide ((i : Int) < 9) = true →
      leB (n + 1) (140737488355328) = true ∧
      Nat.beq (List.length s) (n) = true ∧
      Q .normal [.slice true (.rw 2) (0) (n + 1), .int .i64 (IntKind.wrap .i64 (i + 1))] [none, some ⟨1, ([.int .u8 (91)] : List AV)⟩, some ⟨1, (s ++ ([.int .u8 (91)] : List AV))⟩]) ∧
    (decide ((i : Int) < 9) = false →
      Q (.exit 2) [.slice true (.rw 0) (0) (n), .int .i64 (i)] [some ⟨1, s⟩])) := by kernel_rfl
theorem sp2 (G : Nat → List AV) (s : List AV) (n : Nat) (i : Int) (Q : Ex → List AV → Hp → Prop) (R : AV → Hp → Prop) : vT G Q R (dloop (Dc Try.prog [] [] [] 1) 200 10 1 (loopN Try.f17 1) 20 [0, 3] [.slice true (.rw 1) (.lit 0) (.var 2 n), .int .i64 (.var 1 i)] [none, some ⟨1, .var 3 s⟩]) = (
    (decide ((i : Int) < 9) = true →
      leB (n + 1) (140737488355328) = true ∧
      Nat.beq (List.length s) (n) = true ∧
      Q .normal [.slice true (.rw 3) (0) (n + 1), .int .i64 (IntKind.wrap .i64 (i + 1))] [none, none, some ⟨1, ([.int .u8 (91)] : List AV)⟩, some ⟨1, (s ++ ([.int .u8 (91)] : List AV))⟩]) ∧
    (decide ((i : Int) < 9) = false →
      Q (.exit 2) [.slice true (.rw 1) (0) (n), .int .i64 (i)] [none, some ⟨1, s⟩])) := by kernel_rfl
theorem dg1 (G : Nat → List AV) (B : Nat) : DGood (⟨Try.prog, G, B⟩ : Ctx) (Dc Try.prog [] [] [] 1) [] := dgood (mix G B) (by kernel_rfl) .nil .nil
def z5a : AV := .int .u8 90
def z5b : AV := .int .u8 91
def spoilL (n : Nat) (i : Nat) : List AV := List.replicate n z5a ++ List.replicate i z5b
theorem spoil_flat (k n i : Nat) : bnds k (spoilL n i) = true := by
  rw [bnds_eq, List.all_eq_true]
  intro v hv
  simp only [spoilL, List.mem_append, List.mem_replicate] at hv
  rcases hv with ⟨_, rfl⟩ | ⟨_, rfl⟩ <;> rfl
theorem rep_set {c : AV} : ∀ (i : Nat) (s : List AV), i < s.length → (List.replicate i c ++ s.drop i).set i c = List.replicate (i + 1) c ++ s.drop (i + 1)
  | 0, x :: s, _ => rfl
  | i + 1, x :: s, h => by
    have := rep_set (c := c) i s (by simpa using h)
    simp only [List.replicate_succ, List.drop_succ_cons, List.cons_append, List.set_cons_succ, this]
theorem sl0 (G : Nat → List AV) (B : Nat) (s : List AV) (n : Nat) (hs : s.length = n) (hn : n ≤ 1099511627776) : AWp (⟨Try.prog, G, B⟩ : Ctx) 1 (.loop (loopN Try.f17 0)) (fl 20 [0, 2] [.slice true (.rw 0) 0 n, .int .i64 0]) [some ⟨1, s⟩] (lv 20 [0, 2] fun e vs H => e = .exit 0 ∧ wk [.slice true (.rw 0) 0 n, .undef] vs ∧ H = [some ⟨1, spoilL n 0⟩]) := by
  refine aloop_lv (fun j vs H => ∃ i : Nat, i ≤ n ∧ j = n - i ∧ vs = [.slice true (.rw 0) 0 n, .int .i64 (i : Int)] ∧ H = [some ⟨1, List.replicate i z5a ++ s.drop i⟩]) n ⟨0, by omega, rfl, rfl, rfl⟩ ?_
  rintro j vs H ⟨i, hi, rfl, rfl, rfl⟩
  refine dloop_ok (C := (⟨Try.prog, G, B⟩ : Ctx)) (dg1 G B) (fuel := 200) (n0 := 10) (m := 1) (c := loopN Try.f17 0) (vs := [.slice true (.rw 0) (.lit 0) (.var 2 n), .int .i64 (.var 1 (i : Int))]) (H := [some ⟨1, .var 3 (List.replicate i z5a ++ s.drop i)⟩]) (by simp) ?_
  rw [sp0, Int.toNat_natCast]
  refine ⟨fun h => ?_, fun h => ?_⟩
  · have h' := of_decide_eq_true h
    refine ⟨decide_eq_true (by omega), h, leB_iff.2 (by simp; omega), ⟨n - (i + 1), by omega, .inl ⟨i + 1, by omega, rfl, by rw [i64_in (by omega)]; rfl, ?_⟩⟩⟩
    rw [← rep_set i s (by omega)]
    rfl
  · have h' := of_decide_eq_false h
    have : i = n := by omega
    subst this
    refine ⟨rfl, by simp [wk], ?_⟩
    rw [List.drop_of_length_le (by omega)]; rfl
theorem sl1 (G : Nat → List AV) (B : Nat) (n : Nat) (hn : n ≤ 1099511627776) : AWp (⟨Try.prog, G, B⟩ : Ctx) 1 (.loop (loopN Try.f17 1)) (fl 20 [0, 3] [.slice true (.rw 0) 0 n, .int .i64 0]) [some ⟨1, spoilL n 0⟩] (lv 20 [0, 3] fun e vs H => e = .exit 2 ∧ wk [.undef, .undef] vs ∧ H = [none, some ⟨1, spoilL n 9⟩]) := by
  refine aloop_lv (fun j vs H => ∃ i : Nat, i ≤ 9 ∧ j = 9 - i ∧ ((i = 0 ∧ vs = [.slice true (.rw 0) 0 n, .int .i64 0] ∧ H = [some ⟨1, spoilL n 0⟩]) ∨ (0 < i ∧ vs = [.slice true (.rw 1) 0 (n + i), .int .i64 (i : Int)] ∧ H = [none, some ⟨1, spoilL n i⟩]))) 9 ⟨0, by omega, rfl, .inl ⟨rfl, rfl, rfl⟩⟩ ?_
  have hl : ∀ i, (spoilL n i).length = n + i := fun i => by simp [spoilL]
  have e : ∀ i, spoilL n i ++ ([.int .u8 (91)] : List AV) = spoilL n (i + 1) := fun i => by
    simp only [spoilL, List.append_assoc]
    rw [List.replicate_succ']
    rfl
  rintro j vs H ⟨i, hi, rfl, ⟨rfl, rfl, rfl⟩ | ⟨h0, rfl, rfl⟩⟩
  · refine dloop_ok (C := (⟨Try.prog, G, B⟩ : Ctx)) (dg1 G B) (fuel := 200) (n0 := 10) (m := 1) (c := loopN Try.f17 1) (vs := [.slice true (.rw 0) (.lit 0) (.var 2 n), .int .i64 (.var 1 0)]) (H := [some ⟨1, .var 3 (spoilL n 0)⟩]) (by simp) ?_
    rw [sp1, e]
    refine ⟨fun h => ?_, fun h => ?_⟩
    · refine ⟨leB_iff.2 (by omega), by rw [hl]; exact Nat.beq_refl _, ⟨8, by omega, .inr ⟨_, _, ⟨1, by omega, rfl, .inr ⟨by omega, rfl, rfl⟩⟩, ?_⟩⟩⟩
      exact View.renM (θ := [0, 2]) (by simp) fixes1 (by decide) ⟨by simp, ⟨spoil_flat _ _ _, by rw [rens_flat _ _ (spoil_flat 0 _ _)]; rfl⟩, trivial⟩ (by simp [bnds, bnd]) (by simp [rens, ren, wk, i64_in])
    · have h' := of_decide_eq_false h
      omega
  · refine dloop_ok (C := (⟨Try.prog, G, B⟩ : Ctx)) (dg1 G B) (fuel := 200) (n0 := 10) (m := 1) (c := loopN Try.f17 1) (vs := [.slice true (.rw 1) (.lit 0) (.var 2 (n + i)), .int .i64 (.var 1 (i : Int))]) (H := [none, some ⟨1, .var 3 (spoilL n i)⟩]) (by simp) ?_
    rw [sp2, e]
    refine ⟨fun h => ?_, fun h => ?_⟩
    · have h' := of_decide_eq_true h
      refine ⟨leB_iff.2 (by omega), by rw [hl]; exact Nat.beq_refl _, ⟨9 - (i + 1), by omega, .inr ⟨_, _, ⟨i + 1, by omega, rfl, .inr ⟨by omega, rfl, rfl⟩⟩, ?_⟩⟩⟩
      rw [i64_in (by omega)]
      exact View.renM (θ := [0, 3]) (by simp) fixes1 (by decide) ⟨by simp, ⟨spoil_flat _ _ _, by rw [rens_flat _ _ (spoil_flat 0 _ _)]; rfl⟩, trivial⟩ (by simp [bnds, bnd]) (by simp [rens, ren, wk, Nat.add_assoc])
    · have h' := of_decide_eq_false h
      have : i = 9 := by omega
      subst this
      exact ⟨rfl, by simp [wk], rfl⟩
def spoilU (xs : List AV) : List AV := match xs with
  | [.ptr _ n, .ptr _ i] => spoilL n i
  | _ => []
def isSpoilU (xs : List AV) : Bool := match xs with
  | [.agg l, .ptr _ n] => samCs l (spoilL n 0)
  | _ => false
def spL0 : DL := ⟨0, 20, [0, 2], fun vs H => match vs, H with
  | [.slice true (.rw 0) (.lit 0) n, .int .i64 (.lit 0)], [some ⟨1, l⟩] =>
    some (.chk (.eqN (.len l) n) (.chk (.leN n (.lit 1099511627776)) (.one (.exit 0) [.slice true (.rw 0) (.lit 0) n, .undef] [some ⟨1, .uf 1107 spoilU [.ptr (.rw 0) n, .ptr (.rw 0) (.lit 0)]⟩])))
  | _, _ => none⟩
theorem spL0_ok (G : Nat → List AV) (B : Nat) : DLoopOk (⟨Try.prog, G, B⟩ : Ctx) 1 (loopN Try.f17 0) spL0 := by
  refine .of fun vs H o ho n Q hQ => ?_
  simp only [spL0] at ho
  split at ho
  · rename_i n l
    simp only [Option.some.injEq] at ho
    subst ho
    obtain ⟨h1, h2, h3⟩ := hQ
    simp only [vB, vN] at h1 h2
    refine lone ?_ h3
    simp only [spL0, vVs, vV, vR, vN, vI, vL, vHp, List.map_cons, List.map_nil, Option.map_some, vBlk, spoilU]
    exact sl0 G B _ _ (Nat.eq_of_beq_eq_true h1) (leB_iff.1 h2)
  · simp at ho
def spL1 : DL := ⟨2, 20, [0, 3], fun vs H => match vs, H with
  | [.slice true (.rw 0) (.lit 0) n, .int .i64 (.lit 0)], [some ⟨1, l⟩] =>
    some (.chk (.uf 1108 isSpoilU [.agg l, .ptr (.rw 0) n]) (.chk (.leN n (.lit 1099511627776)) (.one (.exit 2) [.undef, .undef] [none, some ⟨1, .uf 1107 spoilU [.ptr (.rw 0) n, .ptr (.rw 0) (.lit 9)]⟩])))
  | _, _ => none⟩
theorem spL1_ok (G : Nat → List AV) (B : Nat) : DLoopOk (⟨Try.prog, G, B⟩ : Ctx) 1 (loopN Try.f17 1) spL1 := by
  refine .of fun vs H o ho n Q hQ => ?_
  simp only [spL1] at ho
  split at ho
  · rename_i n l
    simp only [Option.some.injEq] at ho
    subst ho
    obtain ⟨h1, h2, h3⟩ := hQ
    simp only [vB, vVs, vV, vN, isSpoilU] at h1 h2
    have e1 := samCs_eq h1
    refine lone ?_ h3
    simp only [spL1, vVs, vV, vR, vN, vI, vL, vHp, List.map_cons, List.map_nil, Option.map_some, Option.map_none, vBlk, spoilU]
    rw [e1]
    exact sl1 G B _ (leB_iff.1 h2)
  · simp at ho
theorem dgSp (G : Nat → List AV) (B : Nat) : DGood (⟨Try.prog, G, B⟩ : Ctx) (Dc Try.prog [] [] [spL0, spL1] 1) (loopsOf (bodyOf Try.f17)) := dgood (mix G B) (by kernel_rfl) .nil (.cast (.cons (i := 0) (by kernel_rfl) rfl (spL0_ok G B) (.cons (i := 2) (by kernel_rfl) rfl (spL1_ok G B) .nil)) (by kernel_rfl))
theorem t17 (G : Nat → List AV) (s : List AV) (n : Nat) (Q : Ex → List AV → Hp → Prop) (R : AV → Hp → Prop) : vT G Q R (dcall (Dc Try.prog [] [] [spL0, spL1] 1) 200 10 Try.f17 [.slice true (.rw 0) (.lit 0) (.var 2 n)] [some ⟨1, .var 3 s⟩] 2) = (
    Nat.beq (List.length s) (n) = true ∧
    leB (n) (1099511627776) = true ∧
    isSpoilU [.agg (spoilU [.ptr (.rw 0) (n), .ptr (.rw 0) (0)]), .ptr (.rw 0) (n)] = true ∧
    leB (n) (1099511627776) = true ∧
    R (.tup []) [none, some ⟨1, (spoilU [.ptr (.rw 0) (n), .ptr (.rw 0) (9)])⟩]) := by kernel_rfl
theorem samC_spoil : ∀ (n : Nat), samCs (spoilL n 0) (spoilL n 0) = true := fun n => samCs_refl (by
  rw [List.all_eq_true]
  intro v hv
  simp only [spoilL, List.mem_append, List.mem_replicate] at hv
  rcases hv with ⟨_, rfl⟩ | ⟨_, rfl⟩ <;> rfl)
theorem spoil17 (G : Nat → List AV) (B : Nat) (l : List AV) (n : Nat) (h : l.length = n) (hn : n ≤ 1099511627776) : ACalls (⟨Try.prog, G, B⟩ : Ctx) 17 [.slice true (.rw 0) 0 n] [some ⟨1, l⟩] fun v' H' => v' = .tup [] ∧ H' = [none, some ⟨1, spoilL n 9⟩] := by
  have key := dcall_ok (C := (⟨Try.prog, G, B⟩ : Ctx)) (f := 17) (R := fun v' H' => v' = .tup [] ∧ H' = [none, some ⟨1, spoilL n 9⟩]) (dgSp G B) (by kernel_rfl) (by kernel_rfl) (by kernel_rfl) (fuel := 200) (n0 := 10) (keep := 2) (args := [.slice true (.rw 0) (.lit 0) (.var 2 n)]) (H := [some ⟨1, .var 3 l⟩]) (by
    rw [t17]
    exact ⟨by rw [h]; exact Nat.beq_refl _, leB_iff.2 hn, samC_spoil n, leB_iff.2 hn, rfl, rfl⟩)
  exact ACalls.keep (H := [some ⟨1, l⟩]) (H1 := [none, some ⟨1, spoilL n 9⟩]) key (by simp) (by simp [hpB, spoil_flat]) (by simp [bnd, bnds]) (by simp)
def spoilS : DSum := fun xs H => match xs with
  | [.slice _ (.rw i) (.lit 0) n] => match H[i]? with
    | some (some ⟨1, l⟩) => some (.chk (.u8s l) (.chk (.eqN (.len l) n) (.chk (.leN n (.lit 1099511627776)) (.one (.tup []) [.app i ⟨1, .uf 1107 spoilU [.ptr (.rw 0) n, .ptr (.rw 0) (.lit 9)]⟩]))))
    | _ => none
  | _ => none
theorem u8s_flat {k : Nat} : ∀ {l : List AV}, u8s l = true → bnds k l = true
  | [], _ => rfl
  | x :: l, h => by
    simp only [u8s, List.all_cons, Bool.and_eq_true] at h
    have := u8s_flat (k := k) (l := l) h.2
    cases x <;> simp_all [bnds, bnd, isU8]
theorem spoilS_ok (G : Nat → List AV) (B : Nat) : DSumOk (⟨Try.prog, G, B⟩ : Ctx) 17 spoilS := by
  intro xs H o ho
  simp only [spoilS] at ho
  split at ho
  · rename_i mb i n
    split at ho
    · rename_i l hi
      simp only [Option.some.injEq] at ho
      subst ho
      intro h1 h2 h3
      simp only [vB, vN] at h1 h2 h3
      have h2 := Nat.eq_of_beq_eq_true h2
      refine DOut.app1 (C := (⟨Try.prog, G, B⟩ : Ctx)) (args0 := [.slice mb (.rw 0) 0 (vN G n)]) (v0 := .tup []) hi ?_ (u8s_flat h1) (by simp only [vL, vVs, vV, vN, spoilU]; exact spoil_flat _ _ _) (by simp [bnds, bnd]) (by simp [vVs, vV, vR, vN, rens, ren]) (by simp [bnd, bnds]) (by simp [vV, vVs, ren, rens])
      simp only [vBlk, vL, vVs, vV, vN, spoilU]
      refine (spoil17 G B _ _ h2 (leB_iff.1 h3)).weaken fun ρ vs hv => ?_
      simp only [VRs] at hv ⊢
      obtain ⟨v, vs', r1, r2, r3⟩ := hv
      exact ⟨v, vs', r1, VR_may r2, r3⟩
    · simp at ho
  · simp at ho
/-! Join -/
def pieceL (G : Nat → List AV) (k i : Nat) : List AV := subL (G (roK (G k) i)) (roO (G k) i) (roN (G k) i)
def catL (G : Nat → List AV) (k : Nat) : Nat → List AV
  | 0 => []
  | i + 1 => catL G k i ++ pieceL G k i
structure Pieces (G : Nat → List AV) (k n : Nat) : Prop where
  rs : ∀ j, j < n → isRS (G k) j = true
  len : ∀ j, j < n → roO (G k) j + roN (G k) j ≤ (G (roK (G k) j)).length
  u8 : ∀ j, j < n → u8s (pieceL G k j) = true
  tot : (catL G k n).length ≤ 1099511627776
  cnt : n ≤ 4611686018427387904
theorem Pieces.lenp {G : Nat → List AV} {k n j : Nat} (h : Pieces G k n) (hj : j < n) : (pieceL G k j).length = roN (G k) j := by
  have := h.len j hj
  simp only [pieceL, subL, List.length_take, List.length_drop]; omega
theorem catL_mono {G : Nat → List AV} {k : Nat} : ∀ (n i : Nat), i ≤ n → (catL G k i).length ≤ (catL G k n).length
  | 0, i, h => by have : i = 0 := by omega
                  subst this; exact Nat.le_refl _
  | n + 1, i, h => by
    rcases Nat.lt_or_ge n i with h' | h'
    · have : i = n + 1 := by omega
      subst this; exact Nat.le_refl _
    · have := catL_mono (G := G) (k := k) n i h'
      simp only [catL, List.length_append]; omega
theorem u8s_append {a b : List AV} : u8s (a ++ b) = (u8s a && u8s b) := by simp [u8s]
theorem Pieces.u8c {G : Nat → List AV} {k n : Nat} (h : Pieces G k n) : ∀ i, i ≤ n → u8s (catL G k i) = true
  | 0, _ => rfl
  | i + 1, hi => by simp only [catL, u8s_append, h.u8c i (by omega), h.u8 i (by omega), Bool.and_self]
def okJU (G : Nat → List AV) (xs : List AV) : Bool := match xs with
  | [.ptr (.ro k) n] => (List.range n).all (fun j => isRS (G k) j && (leB (roO (G k) j + roN (G k) j) (G (roK (G k) j)).length && u8s (pieceL G k j))) && (leB (catL G k n).length 1099511627776 && leB n 4611686018427387904)
  | _ => false
def joinU (G : Nat → List AV) (xs : List AV) : List AV := match xs with
  | [.ptr (.ro k) n] => catL G k n
  | _ => []
theorem okJ_iff {G : Nat → List AV} {k n : Nat} : okJU G [.ptr (.ro k) n] = true ↔ Pieces G k n := by
  simp only [okJU, Bool.and_eq_true, List.all_eq_true, List.mem_range, leB_iff]
  exact ⟨fun ⟨h1, h2, h3⟩ => ⟨fun j hj => (h1 j hj).1, fun j hj => (h1 j hj).2.1, fun j hj => (h1 j hj).2.2, h2, h3⟩, fun h => ⟨fun j hj => ⟨h.rs j hj, h.len j hj, h.u8 j hj⟩, h.tot, h.cnt⟩⟩
theorem jn0 (G : Nat → List AV) (s : List AV) (k n l : Nat) (i : Int) (Q : Ex → List AV → Hp → Prop) (R : AV → Hp → Prop) : vT G Q R (dloop (Dc Try.prog [] [] [] 0) 200 10 0 (loopN Try.f10 0) 18 [3, 7, 8, 9] [.slice false (.rw 0) (.lit 0) (.var 1 l), .slice true (.ro (.var 2 k)) (.lit 0) (.var 4 n), .int .i64 (.ofN (.var 4 n)), .int .i64 (.var 5 i)] [some ⟨1, .var 3 s⟩]) = (
    (decide ((i : Int) < ((n : Nat) : Int)) = true →
      decide ((0 : Int) ≤ i) = true ∧
      decide ((i : Int) < ((n : Nat) : Int)) = true ∧
      isRS (G (k)) (Int.toNat (i)) = true ∧
      leB (roO (G (k)) (Int.toNat (i)) + roN (G (k)) (Int.toNat (i))) (List.length (G (roK (G (k)) (Int.toNat (i))))) = true ∧
      cellsB (subL (G (roK (G (k)) (Int.toNat (i)))) (roO (G (k)) (Int.toNat (i))) (roN (G (k)) (Int.toNat (i)))) = true ∧
      leB (l + roN (G (k)) (Int.toNat (i))) (140737488355328) = true ∧
      Nat.beq (List.length s) (l) = true ∧
      Q .normal [.slice false (.rw 1) (0) (l + roN (G (k)) (Int.toNat (i))), .slice true (.ro (k)) (0) (n), .int .i64 (((n : Nat) : Int)), .int .i64 (IntKind.wrap .i64 (i + 1))] [none, some ⟨1, (s ++ (subL (G (roK (G (k)) (Int.toNat (i)))) (roO (G (k)) (Int.toNat (i))) (roN (G (k)) (Int.toNat (i)))))⟩]) ∧
    (decide ((i : Int) < ((n : Nat) : Int)) = false →
      Q (.exit 0) [.slice false (.rw 0) (0) (l), .slice true (.ro (k)) (0) (n), .int .i64 (((n : Nat) : Int)), .int .i64 (i)] [some ⟨1, s⟩])) := by kernel_rfl
theorem u8s_cells {l : List AV} (h : u8s l = true) : cellsB l = true := by
  simp only [u8s, cellsB, List.all_eq_true] at h ⊢
  intro v hv
  have := h v hv
  cases v <;> simp_all [isU8, isCell]
theorem jl10 (G : Nat → List AV) (B : Nat) (k n : Nat) (hp : Pieces G k n) : AWp (⟨Try.prog, G, B⟩ : Ctx) 0 (.loop (loopN Try.f10 0)) (fl 18 [3, 7, 8, 9] [.slice false (.rw 0) 0 0, .slice true (.ro k) 0 n, .int .i64 (n : Int), .int .i64 0]) [some ⟨1, []⟩]
    (lv 18 [3, 7, 8, 9] fun e vs H => e = .exit 0 ∧ wk [.slice false (.rw 0) 0 (catL G k n).length, .undef, .undef, .undef] vs ∧ H = [some ⟨1, catL G k n⟩]) := by
  refine aloop_lv (fun j vs H => ∃ i : Nat, i ≤ n ∧ j = n - i ∧ vs = [.slice false (.rw 0) 0 (catL G k i).length, .slice true (.ro k) 0 n, .int .i64 (n : Int), .int .i64 (i : Int)] ∧ H = [some ⟨1, catL G k i⟩]) n ⟨0, by omega, rfl, rfl, rfl⟩ ?_
  rintro j vs H ⟨i, hi, rfl, rfl, rfl⟩
  refine dloop_ok (C := (⟨Try.prog, G, B⟩ : Ctx)) (dg0 G B) (fuel := 200) (n0 := 10) (m := 0) (c := loopN Try.f10 0) (vs := [.slice false (.rw 0) (.lit 0) (.var 1 (catL G k i).length), .slice true (.ro (.var 2 k)) (.lit 0) (.var 4 n), .int .i64 (.ofN (.var 4 n)), .int .i64 (.var 5 (i : Int))]) (H := [some ⟨1, .var 3 (catL G k i)⟩]) (by simp) ?_
  rw [jn0, Int.toNat_natCast]
  have hc := hp.cnt
  refine ⟨fun h => ?_, fun h => ?_⟩
  · have h' := of_decide_eq_true h
    have hlt : i < n := by omega
    have e : catL G k i ++ subL (G (roK (G k) i)) (roO (G k) i) (roN (G k) i) = catL G k (i + 1) := rfl
    have el : (catL G k i).length + roN (G k) i = (catL G k (i + 1)).length := by
      have h1 := hp.lenp hlt
      have h2 : (catL G k (i + 1)).length = (catL G k i).length + (pieceL G k i).length := by simp only [catL, List.length_append]
      omega
    have hm := catL_mono (G := G) (k := k) n (i + 1) (by omega)
    have ht := hp.tot
    have hle : (catL G k i).length + roN (G k) i ≤ 140737488355328 := by omega
    have hf : ∀ m, bnds m (catL G k (i + 1)) = true := fun m => u8s_flat (hp.u8c (i + 1) (by omega))
    refine ⟨decide_eq_true (by omega), h, hp.rs i hlt, leB_iff.2 (hp.len i hlt), u8s_cells (hp.u8 i hlt), leB_iff.2 hle, Nat.beq_refl _, ⟨n - (i + 1), by omega, .inr ⟨_, _, ⟨i + 1, by omega, rfl, rfl, rfl⟩, ?_⟩⟩⟩
    rw [e, el, i64_in (by omega)]
    exact View.renM (θ := [1]) (by simp) (fun i hi => absurd hi (by simp)) (by decide) ⟨⟨hf _, by rw [rens_flat _ _ (hf 0)]; rfl⟩, trivial⟩ (by simp [bnds, bnd]) (by simp [rens, ren, wk])
  · have h' := of_decide_eq_false h
    have : i = n := by omega
    subst this
    exact ⟨rfl, by simp [wk], rfl⟩
def joinL (G : Nat → List AV) : DL := ⟨0, 18, [3, 7, 8, 9], fun vs H => match vs, H with
  | [.slice false (.rw 0) (.lit 0) (.lit 0), .slice true (.ro k) (.lit 0) n, .int .i64 (.ofN m), .int .i64 (.lit 0)], [some ⟨1, .of []⟩] =>
    some (.chk (.eqN m n) <| .chk (.uf 1111 (okJU G) [.ptr (.ro k) n]) (.one (.exit 0) [.slice false (.rw 0) (.lit 0) (.len (.uf 1112 (joinU G) [.ptr (.ro k) n])), .undef, .undef, .undef] [some ⟨1, .uf 1112 (joinU G) [.ptr (.ro k) n]⟩]))
  | _, _ => none⟩
theorem joinL_ok (G : Nat → List AV) (B : Nat) : DLoopOk (⟨Try.prog, G, B⟩ : Ctx) 0 (loopN Try.f10 0) (joinL G) := by
  refine .of fun vs H o ho n Q hQ => ?_
  simp only [joinL] at ho
  split at ho
  · rename_i k n m
    simp only [Option.some.injEq] at ho
    subst ho
    obtain ⟨h0, h1, h2⟩ := hQ
    simp only [vB] at h0
    simp only [vB, vVs, vV, vR, vN] at h1
    have h0 := Nat.eq_of_beq_eq_true h0
    refine lone ?_ h2
    simp only [joinL, vVs, vV, vR, vN, vI, vL, vHp, List.map_cons, List.map_nil, Option.map_some, vBlk, joinU, h0]
    exact jl10 G B _ _ (okJ_iff.1 h1)
  · simp at ho
theorem dgJ (G : Nat → List AV) (B : Nat) : DGood (⟨Try.prog, G, B⟩ : Ctx) (Dc Try.prog [] [] [joinL G] 0) (loopsOf (bodyOf Try.f10)) := dgood (mix G B) (by kernel_rfl) .nil (.cast (.cons (i := 0) (by kernel_rfl) rfl (joinL_ok G B) .nil) (by kernel_rfl))
theorem t10 (G : Nat → List AV) (k n : Nat) (Q : Ex → List AV → Hp → Prop) (R : AV → Hp → Prop) : vT G Q R (dcall (Dc Try.prog [] [] [joinL G] 0) 200 10 Try.f10 [.slice true (.ro (.var 1 k)) (.lit 0) (.var 2 n)] [] 1) = (
    Nat.beq (n) (n) = true ∧
    (okJU G) [.ptr (.ro (k)) (n)] = true ∧
    R (.slice false (.rw 0) (0) (List.length ((joinU G) [.ptr (.ro (k)) (n)]))) [some ⟨1, ((joinU G) [.ptr (.ro (k)) (n)])⟩]) := by kernel_rfl
theorem join10 (G : Nat → List AV) (B : Nat) (k n : Nat) (hp : Pieces G k n) : ACalls (⟨Try.prog, G, B⟩ : Ctx) 10 [.slice true (.ro k) 0 n] [] fun v' H' => v' = .slice false (.rw 0) 0 (catL G k n).length ∧ H' = [some ⟨1, catL G k n⟩] := by
  have key := dcall_ok (C := (⟨Try.prog, G, B⟩ : Ctx)) (f := 10) (R := fun v' H' => v' = .slice false (.rw 0) 0 (catL G k n).length ∧ H' = [some ⟨1, catL G k n⟩]) (dgJ G B) (by kernel_rfl) (by kernel_rfl) (by kernel_rfl) (fuel := 200) (n0 := 10) (keep := 1) (args := [.slice true (.ro (.var 1 k)) (.lit 0) (.var 2 n)]) (H := []) (by
    rw [t10]
    exact ⟨Nat.beq_refl _, okJ_iff.2 hp, rfl, rfl⟩)
  exact key.keep (by simp [vHp]) (by simp [hpB, u8s_flat (hp.u8c n (Nat.le_refl _))]) (by simp [bnd]) (by simp)
def joinS (G : Nat → List AV) : DSum := fun xs H => match xs with
  | [.slice true (.ro k) (.lit 0) n] => some (.chk (.uf 1111 (okJU G) [.ptr (.ro k) n]) (.one (.slice false (.rw H.length) (.lit 0) (.len (.uf 1112 (joinU G) [.ptr (.ro k) n]))) [.new ⟨1, .uf 1112 (joinU G) [.ptr (.ro k) n]⟩]))
  | _ => none
theorem joinS_ok (G : Nat → List AV) (B : Nat) : DSumOk (⟨Try.prog, G, B⟩ : Ctx) 10 (joinS G) := by
  intro xs H o ho
  unfold joinS at ho
  split at ho
  · rename_i k n
    simp only [Option.some.injEq] at ho
    subst ho
    intro h
    simp only [vB, vVs, vV, vR] at h
    have hp := okJ_iff.1 h
    refine DOut.new0 (C := (⟨Try.prog, G, B⟩ : Ctx)) (args0 := [.slice true (.ro (vN G k)) 0 (vN G n)]) (v0 := .slice false (.rw 0) 0 (catL G (vN G k) (vN G n)).length) ?_ (by simp only [vL, vVs, vV, vR, joinU]; exact u8s_flat (hp.u8c _ (Nat.le_refl _))) (by simp [bnds, bnd]) (by simp only [vVs, vV, vR, vN]) (by simp [bnd]) (by simp [vV, vR, vN, vL, vVs, joinU, ren])
    simp only [vBlk, vL, vVs, vV, vR, joinU]
    exact join10 G B _ _ hp
  · simp at ho
def isJU (G : Nat → List AV) (xs : List AV) : Bool := match xs with
  | [.agg l, .ptr _ m, .ptr (.ro k) n] => samCs l (catL G k n) && Nat.beq m (catL G k n).length
  | _ => false
theorem isJ_eq {G : Nat → List AV} {l : List AV} {r : Ref} {m k n : Nat} (h : isJU G [.agg l, .ptr r m, .ptr (.ro k) n] = true) : l = catL G k n ∧ m = (catL G k n).length := by
  simp only [isJU, Bool.and_eq_true] at h
  exact ⟨samCs_eq h.1, Nat.eq_of_beq_eq_true h.2⟩
theorem u8s_sam {l : List AV} (h : u8s l = true) : samCs l l = true := samCs_refl (by
  simp only [u8s, List.all_eq_true] at h ⊢
  intro v hv
  have := h v hv
  cases v <;> simp_all [isU8, samC])
theorem isJ_of {G : Nat → List AV} {k n : Nat} {r : Ref} (hp : Pieces G k n) : isJU G [.agg (catL G k n), .ptr r (catL G k n).length, .ptr (.ro k) n] = true := by
  simp only [isJU, u8s_sam (hp.u8c n (Nat.le_refl _)), Nat.beq_refl, Bool.and_self]
/-! known -/
theorem known_run (G : Nat → List AV) (B : Nat) : vc (Kc (⟨Try.prog, G, B⟩ : Ctx)) 3000 0 (.code (bodyOf Try.f18)) (frame0 Try.f18 []) [] (retK (⟨Try.prog, G, B⟩ : Ctx) Try.f18 fun v _ => chk (isT v) True) = True := by kernel_rfl
theorem known_call (G : Nat → List AV) (B : Nat) : ACalls (⟨Try.prog, G, B⟩ : Ctx) 18 [] [] fun v _ => v = .bool true :=
  closed_run (C := (⟨Try.prog, G, B⟩ : Ctx)) (by kernel_rfl) (fn := Try.f18) (by kernel_rfl) (by kernel_rfl) (by kernel_rfl) 3000 (known_run G B)
end Go.Am
