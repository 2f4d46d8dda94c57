/-
  Wire: the numbers' form, and how it is written.
-/
import Derived.Test.YtcodkoholbmkkaaBase6
import Derived.Test.YtcodkoholbmkkaaProg
namespace Go.Am
open Go.Proofs
set_option maxRecDepth 100000
theorem mix (G : Nat → List AV) (B : Nat) : ((⟨Try.prog, G, B⟩ : Ctx)).P.follows .mixedOrders = true := by kernel_rfl
/-- a number's form: so many digits at most -/
def nfd : Nat → Nat → List UInt8
  | 0, _ => []
  | k + 1, n => if n < 128 then [UInt8.ofNat n] else UInt8.ofNat (n % 128 + 128) :: nfd k (n / 128)
def nform (n : Nat) : List UInt8 := nfd 10 n
theorem nfd_low {k n : Nat} (h : n < 128) : nfd (k + 1) n = [UInt8.ofNat n] := by simp [nfd, h]
theorem nfd_high {k n : Nat} (h : ¬ n < 128) : nfd (k + 1) n = UInt8.ofNat (n % 128 + 128) :: nfd k (n / 128) := by simp [nfd, h]
theorem nfd_len : ∀ (k n : Nat), (nfd k n).length ≤ k
  | 0, _ => Nat.le_refl _
  | k + 1, n => by
    have := nfd_len k (n / 128)
    unfold nfd
    split <;> simp <;> omega
theorem nfd_ne {k n : Nat} : nfd (k + 1) n ≠ [] := by unfold nfd; split <;> simp
def inU64 (xs : List AV) : Bool := match xs with
  | [.int _ n] => decide (0 ≤ n) && decide (n ≤ 18446744073709551615)
  | _ => false
def nformU (xs : List AV) : List UInt8 := match xs with
  | [.int _ n] => nform n.toNat
  | _ => []
/-- all but its last digit; the last one -/
def nfrontU (xs : List AV) : List UInt8 := (nformU xs).dropLast
def nlastU (xs : List AV) : Int := match (nformU xs).getLast? with
  | some b => b.toNat
  | none => 0
theorem u8_ofNat {n : Nat} (h : n < 256) : (UInt8.ofNat n).toNat = n := by simp [UInt8.toNat_ofNat']; omega
theorem bytesL_append (a b : List UInt8) : bytesL (a ++ b) = bytesL a ++ bytesL b := by simp [bytesL]
theorem bytesL_length (a : List UInt8) : (bytesL a).length = a.length := by simp [bytesL]
theorem bytesL_one {n : Nat} (h : n < 256) : bytesL [UInt8.ofNat n] = [.int .u8 (n : Int)] := by simp [bytesL, u8_ofNat h]
theorem bytesL_flat (k : Nat) : ∀ (a : List UInt8), bnds k (bytesL a) = true
  | [] => rfl
  | x :: a => by simp only [bytesL, List.map_cons, bnds, bnd, Bool.true_and]; exact bytesL_flat k a
theorem bytesL_rens (θ : List Nat) (a : List UInt8) : rens θ (bytesL a) = bytesL a := rens_flat _ _ (bytesL_flat 0 a)
theorem u64_in {n : Int} (h : 0 ≤ n ∧ n ≤ 18446744073709551615) : IntKind.u64.wrap n = n := by
  simp only [IntKind.wrap, IntKind.signed, IntKind.bits, Bool.false_and, Bool.false_eq_true, if_false]; omega
theorem u8_wrap (n : Int) : IntKind.u8.wrap n = n % 256 := by
  simp only [IntKind.wrap, IntKind.signed, IntKind.bits, Bool.false_and, Bool.false_eq_true, if_false]; omega
theorem or128 : ∀ b : BitVec 8, (b ||| 128#8).toNat = b.toNat % 128 + 128 := by decide +kernel
theorem dig9 (m : Nat) : kOr .u8 (IntKind.wrap .u8 (m : Int)) 128 = ((m % 128 + 128 : Nat) : Int) := by
  show IntKind.u8.wrap (((BitVec.ofInt 8 (IntKind.wrap .u8 (m : Int)) ||| BitVec.ofInt 8 128).toNat : Nat) : Int) = _
  have e1 : (BitVec.ofInt 8 (IntKind.wrap .u8 (m : Int))) = BitVec.ofNat 8 m := by
    rw [u8_wrap]
    apply BitVec.eq_of_toNat_eq
    simp [BitVec.toNat_ofInt]
    omega
  have e2 : BitVec.ofInt 8 128 = 128#8 := by decide
  rw [e1, e2, or128, u8_wrap]
  simp [BitVec.toNat_ofNat]
  omega
theorem shr7 (m : Nat) : kShr .u64 (m : Int) 7 = ((m / 128 : Nat) : Int) := by
  unfold kShr
  have : (2 : Int) ^ (min (7 : Int).toNat IntKind.u64.bits) = 128 := by decide
  rw [this, Int.fdiv_eq_ediv_of_nonneg _ (by omega)]
  omega
theorem dig12 (m : Nat) : IntKind.wrap .u8 (IntKind.wrap .u64 (Int.tmod (m : Int) 128 + 128)) = ((m % 128 + 128 : Nat) : Int) := by
  have : Int.tmod (m : Int) 128 = ((m % 128 : Nat) : Int) := by rw [Int.tmod_eq_emod_of_nonneg (by omega)]; omega
  rw [this, u64_in (by omega), u8_wrap]; omega
theorem div12 {m : Nat} (h : m ≤ 18446744073709551615) : IntKind.wrap .u64 (Int.tdiv (m : Int) 128) = ((m / 128 : Nat) : Int) := by
  have : Int.tdiv (m : Int) 128 = ((m / 128 : Nat) : Int) := by rw [Int.tdiv_eq_ediv_of_nonneg (by omega)]; omega
  rw [this, u64_in (by omega)]
theorem nb9 (G : Nat → List AV) (s : List AV) (m : Int) (l : Nat) (Q : Ex → List AV → Hp → Prop) (R : AV → Hp → Prop) : vT G Q R (dloop (Dc Try.prog [] [] [] 0) 200 10 0 (loopN Try.f9 0) 20 [0, 3] [.int .u64 (.var 1 m), .slice false (.rw 0) (.lit 0) (.var 2 l)] [some ⟨1, .var 3 s⟩]) = (
    (decide ((m : Int) > 127) = true →
      leB (l + 1) (140737488355328) = true ∧
      Nat.beq (List.length s) (l) = true ∧
      Q .normal [.int .u64 (kShr .u64 (m) (7)), .slice false (.rw 2) (0) (l + 1)] [none, some ⟨1, ([.int .u8 (kOr .u8 (IntKind.wrap .u8 (m)) (128))] : List AV)⟩, some ⟨1, (s ++ ([.int .u8 (kOr .u8 (IntKind.wrap .u8 (m)) (128))] : List AV))⟩]) ∧
    (decide ((m : Int) > 127) = false →
      Q (.exit 0) [.int .u64 (m), .slice false (.rw 0) (0) (l)] [some ⟨1, s⟩])) := by kernel_rfl
theorem nb12 (G : Nat → List AV) (s : List AV) (m : Int) (l : Nat) (Q : Ex → List AV → Hp → Prop) (R : AV → Hp → Prop) : vT G Q R (dloop (Dc Try.prog [] [] [] 0) 200 10 0 (loopN Try.f12 0) 20 [0, 3] [.int .u64 (.var 1 m), .slice true (.rw 0) (.lit 0) (.var 2 l)] [some ⟨1, .var 3 s⟩]) = (
    (decide ((m : Int) > 127) = true →
      leB (l + 1) (140737488355328) = true ∧
      Nat.beq (List.length s) (l) = true ∧
      Q .normal [.int .u64 (IntKind.wrap .u64 (Int.tdiv (m) (128))), .slice true (.rw 2) (0) (l + 1)] [none, some ⟨1, ([.int .u8 (IntKind.wrap .u8 (IntKind.wrap .u64 (Int.tmod (m) (128) + 128)))] : List AV)⟩, some ⟨1, (s ++ ([.int .u8 (IntKind.wrap .u8 (IntKind.wrap .u64 (Int.tmod (m) (128) + 128)))] : List AV))⟩]) ∧
    (decide ((m : Int) > 127) = false →
      Q (.exit 0) [.int .u64 (m), .slice true (.rw 0) (0) (l)] [some ⟨1, s⟩])) := by kernel_rfl
theorem dg0 (G : Nat → List AV) (B : Nat) : DGood (⟨Try.prog, G, B⟩ : Ctx) (Dc Try.prog [] [] [] 0) [] := dgood (mix G B) (by kernel_rfl) .nil .nil
/-- where a loop stands: the rest of the number, and what is written -/
def JN (mb : Bool) (n : Nat) (j : Nat) (vs : List AV) (H : Hp) : Prop := ∃ (m : Nat) (s : List UInt8), m < 128 ^ (j + 1) ∧ s.length + j = 9 ∧ m ≤ 18446744073709551615 ∧ s ++ nfd (j + 1) m = nform n ∧ vs = [.int .u64 (m : Int), .slice mb (.rw 0) 0 s.length] ∧ H = [some ⟨1, bytesL s⟩]
def JX (mb : Bool) (n : Nat) (vs : List AV) (H : Hp) : Prop := ∃ (m : Nat) (s : List UInt8), m < 128 ∧ s.length ≤ 9 ∧ s ++ [UInt8.ofNat m] = nform n ∧ vs = [.int .u64 (m : Int), .slice mb (.rw 0) 0 s.length] ∧ H = [some ⟨1, bytesL s⟩]
theorem pow_le : (18446744073709551615 : Nat) < 128 ^ 10 := by decide
theorem JN_next {mb : Bool} {n m j : Nat} {s : List UInt8} {b : Option Blk} {c : Option Blk} (h : ¬ m < 128) (h1 : m < 128 ^ (j + 1)) (h2 : s.length + j = 9) (h3 : m ≤ 18446744073709551615) (h4 : s ++ nfd (j + 1) m = nform n) :
    ∃ k', k' < j ∧ (JN mb n k' [.int .u64 ((m / 128 : Nat) : Int), .slice mb (.rw 2) 0 (s.length + 1)] [b, c, some ⟨1, bytesL s ++ [.int .u8 ((m % 128 + 128 : Nat) : Int)]⟩] ∨ ∃ vs'' H'', JN mb n k' vs'' H'' ∧ View 0 vs'' H'' [.int .u64 ((m / 128 : Nat) : Int), .slice mb (.rw 2) 0 (s.length + 1)] [b, c, some ⟨1, bytesL s ++ [.int .u8 ((m % 128 + 128 : Nat) : Int)]⟩]) := by
  match j, h1, h2, h4 with
  | 0, h1, _, _ => exact absurd h1 (by simpa using h)
  | j + 1, h1, h2, h4 =>
    refine ⟨j, by omega, .inr ⟨_, _, ⟨m / 128, s ++ [UInt8.ofNat (m % 128 + 128)], ?_, by simp; omega, by omega, ?_, rfl, rfl⟩, ?_⟩⟩
    · rw [Nat.div_lt_iff_lt_mul (by omega)]
      rw [Nat.pow_succ] at h1
      exact h1
    · rw [← h4, nfd_high h]; simp
    · rw [bytesL_append, bytesL_one (by omega)]
      refine View.renM (θ := [2]) (by simp) (fun i hi => by omega) (by decide) ⟨⟨?_, ?_⟩, trivial⟩ (by simp [bnds, bnd]) (by simp [rens, ren, wk])
      · rw [← bytesL_one (by omega), ← bytesL_append]; exact bytesL_flat _ _
      · rw [← bytesL_one (by omega), ← bytesL_append, bytesL_rens]; rfl
theorem nl9 (G : Nat → List AV) (B : Nat) (n : Nat) (hn : n ≤ 18446744073709551615) : AWp (⟨Try.prog, G, B⟩ : Ctx) 0 (.loop (loopN Try.f9 0)) (fl 20 [0, 3] [.int .u64 (n : Int), .slice false (.rw 0) 0 0]) [some ⟨1, []⟩] (lv 20 [0, 3] fun e vs H => e = .exit 0 ∧ JX false n vs H) := by
  refine aloop_lv (JN false n) 9 ⟨n, [], by have := pow_le; omega, rfl, hn, rfl, rfl, rfl⟩ ?_
  rintro j vs H ⟨m, s, h1, h2, h3, h4, rfl, rfl⟩
  refine dloop_ok (C := (⟨Try.prog, G, B⟩ : Ctx)) (dg0 G B) (fuel := 200) (n0 := 10) (m := 0) (c := loopN Try.f9 0) (vs := [.int .u64 (.var 1 (m : Int)), .slice false (.rw 0) (.lit 0) (.var 2 s.length)]) (H := [some ⟨1, .var 3 (bytesL s)⟩]) (by simp) ?_
  rw [nb9, dig9, shr7]
  refine ⟨fun h => ⟨decide_eq_true (by omega), by rw [bytesL_length]; exact Nat.beq_refl _, JN_next (by have := of_decide_eq_true h; omega) h1 h2 h3 h4⟩, fun h => ?_⟩
  have h := of_decide_eq_false h
  have hm : m < 128 := by omega
  rw [nfd_low hm] at h4
  exact ⟨rfl, m, s, hm, by omega, h4, rfl, rfl⟩
theorem nl12 (G : Nat → List AV) (B : Nat) (n : Nat) (hn : n ≤ 18446744073709551615) : AWp (⟨Try.prog, G, B⟩ : Ctx) 0 (.loop (loopN Try.f12 0)) (fl 20 [0, 3] [.int .u64 (n : Int), .slice true (.rw 0) 0 0]) [some ⟨1, []⟩] (lv 20 [0, 3] fun e vs H => e = .exit 0 ∧ JX true n vs H) := by
  refine aloop_lv (JN true n) 9 ⟨n, [], by have := pow_le; omega, rfl, hn, rfl, rfl, rfl⟩ ?_
  rintro j vs H ⟨m, s, h1, h2, h3, h4, rfl, rfl⟩
  refine dloop_ok (C := (⟨Try.prog, G, B⟩ : Ctx)) (dg0 G B) (fuel := 200) (n0 := 10) (m := 0) (c := loopN Try.f12 0) (vs := [.int .u64 (.var 1 (m : Int)), .slice true (.rw 0) (.lit 0) (.var 2 s.length)]) (H := [some ⟨1, .var 3 (bytesL s)⟩]) (by simp) ?_
  rw [nb12, dig12, div12 h3]
  refine ⟨fun h => ⟨decide_eq_true (by omega), by rw [bytesL_length]; exact Nat.beq_refl _, JN_next (by have := of_decide_eq_true h; omega) h1 h2 h3 h4⟩, fun h => ?_⟩
  have h := of_decide_eq_false h
  have hm : m < 128 := by omega
  rw [nfd_low hm] at h4
  exact ⟨rfl, m, s, hm, by omega, h4, rfl, rfl⟩
/-- what the loop comes to, written out -/
def nL (mb : Bool) : DL := ⟨0, 20, [0, 3], fun vs H => match mb, vs, H with
  | false, [.int .u64 n, .slice false (.rw 0) (.lit 0) (.lit 0)], [some ⟨1, .of []⟩] =>
    some (.chk (.uf 1101 inU64 [.int .u64 n]) (.one (.exit 0) [.int .u64 (.uf 1103 nlastU [.int .u64 n]), .slice false (.rw 0) (.lit 0) (.slen (.uf 1102 nfrontU [.int .u64 n]))] [some ⟨1, .bytes (.uf 1102 nfrontU [.int .u64 n])⟩]))
  | true, [.int .u64 n, .nils], [] =>
    some (.chk (.uf 1101 inU64 [.int .u64 n]) (.one (.exit 0) [.int .u64 (.uf 1103 nlastU [.int .u64 n]), .slice true (.rw 0) (.lit 0) (.slen (.uf 1102 nfrontU [.int .u64 n]))] [some ⟨1, .bytes (.uf 1102 nfrontU [.int .u64 n])⟩]))
  | _, _, _ => none⟩
theorem JX_eq {mb : Bool} {n : Int} {vs : List AV} {H : Hp} {k : IntKind} (h : JX mb n.toNat vs H) : vs = [.int .u64 (nlastU [.int k n]), .slice mb (.rw 0) 0 (nfrontU [.int k n]).length] ∧ H = [some ⟨1, bytesL (nfrontU [.int k n])⟩] := by
  obtain ⟨m, s, h1, h2, h3, rfl, rfl⟩ := h
  have e1 : nfrontU [.int k n] = s := by simp only [nfrontU, nformU]; rw [← h3, List.dropLast_concat]
  have e2 : nlastU [.int k n] = (m : Int) := by simp only [nlastU, nformU]; rw [← h3]; simp [u8_ofNat (show m < 256 by omega)]
  rw [e1, e2]
  exact ⟨rfl, rfl⟩
theorem inU64_eq {k : IntKind} {n : Int} (h : inU64 [.int k n] = true) : n = (n.toNat : Int) ∧ n.toNat ≤ 18446744073709551615 := by
  simp only [inU64, Bool.and_eq_true, decide_eq_true_eq] at h
  omega
theorem nL9_ok (G : Nat → List AV) (B : Nat) : DLoopOk (⟨Try.prog, G, B⟩ : Ctx) 0 (loopN Try.f9 0) (nL false) := by
  refine .of fun vs H o ho n Q hQ => ?_
  simp only [nL] at ho
  split at ho
  · rename_i n heq
    simp only [Option.some.injEq] at ho
    subst ho
    obtain ⟨h1, h2⟩ := hQ
    simp only [vB, vVs, vV] at h1
    obtain ⟨e1, e2⟩ := inU64_eq h1
    refine lone ?_ h2
    simp only [nL, vVs, vV, vR, vN, vL, vHp, List.map_cons, List.map_nil, Option.map_some, vBlk, vI, vS]
    have key := nl9 G B _ e2
    rw [← e1] at key
    refine key.lmono ?_
    rintro e vs H ⟨g1, g2⟩
    obtain ⟨g3, g4⟩ := JX_eq (k := .u64) g2
    exact ⟨g1, by rw [g3]; simp [wk], g4⟩
  · rename_i heq; cases heq
  · simp at ho
theorem nL12_ok (G : Nat → List AV) (B : Nat) : DLoopOk (⟨Try.prog, G, B⟩ : Ctx) 0 (loopN Try.f12 0) (nL true) := by
  refine .of fun vs H o ho n Q hQ => ?_
  simp only [nL] at ho
  split at ho
  · rename_i heq; cases heq
  · rename_i n heq
    simp only [Option.some.injEq] at ho
    subst ho
    obtain ⟨h1, h2⟩ := hQ
    simp only [vB, vVs, vV] at h1
    obtain ⟨e1, e2⟩ := inU64_eq h1
    refine lone ?_ h2
    simp only [nL, vVs, vV, vR, vN, vL, vHp, List.map_cons, List.map_nil, Option.map_some, vBlk, vI, vS]
    have key := nl12 G B _ e2
    rw [← e1] at key
    have key := AWp.nil (C := (⟨Try.prog, G, B⟩ : Ctx)) (H := []) (H' := []) (F := fl 20 [0, 3] [.int .u64 (vI G n), .slice true (.rw 0) 0 0]) (F' := fl 20 [0, 3] [.int .u64 (vI G n), .nils]) 1 (by simp) (nilrs_fl (vs := [.int .u64 (vI G n), .slice true (.rw 0) 0 0]) (vs' := [.int .u64 (vI G n), .nils]) ⟨nilr_refl _, .inr ⟨rfl, rfl⟩, trivial⟩) trivial key
    refine key.lmono ?_
    rintro e vs H ⟨g1, g2⟩
    obtain ⟨g3, g4⟩ := JX_eq (k := .u64) g2
    exact ⟨g1, by rw [g3]; simp [wk], g4⟩
  · simp at ho
theorem dg9 (G : Nat → List AV) (B : Nat) : DGood (⟨Try.prog, G, B⟩ : Ctx) (Dc Try.prog [] [] [nL false] 0) (loopsOf (bodyOf Try.f9)) := dgood (mix G B) (by kernel_rfl) .nil (.cast (.cons (i := 0) (by kernel_rfl) rfl (nL9_ok G B) .nil) (by kernel_rfl))
theorem dg12 (G : Nat → List AV) (B : Nat) : DGood (⟨Try.prog, G, B⟩ : Ctx) (Dc Try.prog [] [] [nL true] 0) (loopsOf (bodyOf Try.f12)) := dgood (mix G B) (by kernel_rfl) .nil (.cast (.cons (i := 0) (by kernel_rfl) rfl (nL12_ok G B) .nil) (by kernel_rfl))
theorem t9 (G : Nat → List AV) (n : Int) (Q : Ex → List AV → Hp → Prop) (R : AV → Hp → Prop) : vT G Q R (dcall (Dc Try.prog [] [] [nL false] 0) 200 10 Try.f9 [.int .u64 (.var 1 n)] [] 3) = (
    inU64 [.int .u64 (n)] = true ∧
    leB (List.length (nfrontU [.int .u64 (n)]) + 1) (140737488355328) = true ∧
    Nat.beq (List.length (nfrontU [.int .u64 (n)])) (List.length (nfrontU [.int .u64 (n)])) = true ∧
    R (.slice false (.rw 2) (0) (List.length (nfrontU [.int .u64 (n)]) + 1)) [none, some ⟨1, ([.int .u8 (IntKind.wrap .u8 (nlastU [.int .u64 (n)]))] : List AV)⟩, some ⟨1, ((bytesL (nfrontU [.int .u64 (n)])) ++ ([.int .u8 (IntKind.wrap .u8 (nlastU [.int .u64 (n)]))] : List AV))⟩]) := by kernel_rfl
theorem t12 (G : Nat → List AV) (n : Int) (Q : Ex → List AV → Hp → Prop) (R : AV → Hp → Prop) : vT G Q R (dcall (Dc Try.prog [] [] [nL true] 0) 200 10 Try.f12 [.int .u64 (.var 1 n)] [] 3) = (
    inU64 [.int .u64 (n)] = true ∧
    leB (List.length (nfrontU [.int .u64 (n)]) + 1) (140737488355328) = true ∧
    Nat.beq (List.length (nfrontU [.int .u64 (n)])) (List.length (nfrontU [.int .u64 (n)])) = true ∧
    R (.slice true (.rw 2) (0) (List.length (nfrontU [.int .u64 (n)]) + 1)) [none, some ⟨1, ([.int .u8 (IntKind.wrap .u8 (nlastU [.int .u64 (n)]))] : List AV)⟩, some ⟨1, ((bytesL (nfrontU [.int .u64 (n)])) ++ ([.int .u8 (IntKind.wrap .u8 (nlastU [.int .u64 (n)]))] : List AV))⟩]) := by kernel_rfl
theorem nlast_cell {k : IntKind} (n : Int) : bytesL (nfrontU [.int k n]) ++ ([.int .u8 (IntKind.wrap .u8 (nlastU [.int k n]))] : List AV) = bytesL (nformU [.int k n]) ∧ (nfrontU [.int k n]).length + 1 = (nformU [.int k n]).length := by
  have h : nformU [.int k n] ≠ [] := nfd_ne
  have e : nfrontU [.int k n] ++ [(nformU [.int k n]).getLast h] = nformU [.int k n] := List.dropLast_concat_getLast h
  have e2 : nlastU [.int k n] = (((nformU [.int k n]).getLast h).toNat : Int) := by simp only [nlastU, List.getLast?_eq_some_getLast h]
  have h3 := ((nformU [.int k n]).getLast h).toNat_lt
  refine ⟨?_, ?_⟩
  · rw [e2, u8_wrap]
    have : ((((nformU [.int k n]).getLast h).toNat : Int)) % 256 = (((nformU [.int k n]).getLast h).toNat : Int) := by omega
    rw [this]
    conv => rhs; rw [← e, bytesL_append]
    rfl
  · have := congrArg List.length e
    simpa using this
theorem nform_len (n : Nat) : (nform n).length ≤ 10 := nfd_len 10 n
theorem nformU_len (xs : List AV) : (nformU xs).length ≤ 10 := by
  unfold nformU
  split
  · exact nform_len _
  · simp
/-- a number's form: of both sides -/
def numS (mb : Bool) : DSum := fun xs H => match xs with
  | [.int .u64 n] => some (.chk (.uf 1101 inU64 [.int .u64 n]) (.one (.slice mb (.rw H.length) (.lit 0) (.slen (.uf 1104 nformU [.int .u64 n]))) [.new ⟨1, .bytes (.uf 1104 nformU [.int .u64 n])⟩]))
  | _ => none
theorem back3 {f : FuncId} {args : List AV} {C : Ctx} {mb : Bool} {a : List UInt8} (h : ACalls C f args [] fun v' H' => v' = .slice mb (.rw 2) 0 a.length ∧ ∃ b c, H'.take 3 = [b, c, some ⟨1, bytesL a⟩]) :
    ACalls C f args [] fun v' H' => v' = .slice mb (.rw 0) 0 a.length ∧ H' = [some ⟨1, bytesL a⟩] := by
  refine h.view fun v H' ⟨e1, b, c, e2⟩ => ⟨_, _, ⟨rfl, rfl⟩, ?_⟩
  have e : H' = b :: c :: some ⟨1, bytesL a⟩ :: H'.drop 3 := by
    have := List.take_append_drop 3 H'
    rw [e2] at this
    exact this.symm
  rw [e, e1]
  exact View.renM (θ := [2]) (by simp) (fun i hi => absurd hi (by simp)) (by decide) ⟨⟨bytesL_flat _ _, by rw [bytesL_rens]; rfl⟩, trivial⟩ (by simp [bnds, bnd]) (by simp [rens, ren, wk])
theorem num9 (G : Nat → List AV) (B : Nat) (n : Int) (h : inU64 [.int .u64 n] = true) : ACalls (⟨Try.prog, G, B⟩ : Ctx) 9 [.int .u64 n] [] fun v' H' => v' = .slice false (.rw 0) 0 (nformU [.int .u64 n]).length ∧ H' = [some ⟨1, bytesL (nformU [.int .u64 n])⟩] := by
  obtain ⟨g1, g2⟩ := nlast_cell (k := .u64) n
  have hlen := nformU_len [.int .u64 n]
  exact back3 (dcall_ok (C := (⟨Try.prog, G, B⟩ : Ctx)) (f := 9) (R := fun v' H' => v' = .slice false (.rw 2) 0 (nformU [.int .u64 n]).length ∧ ∃ b c, H' = [b, c, some ⟨1, bytesL (nformU [.int .u64 n])⟩]) (dg9 G B) (by kernel_rfl) (by kernel_rfl) (by kernel_rfl) (fuel := 200) (n0 := 10) (keep := 3) (args := [.int .u64 (.var 1 n)]) (H := []) (by
    rw [t9, g1, g2]
    exact ⟨h, leB_iff.2 (by omega), Nat.beq_refl _, rfl, _, _, rfl⟩))
theorem num12 (G : Nat → List AV) (B : Nat) (n : Int) (h : inU64 [.int .u64 n] = true) : ACalls (⟨Try.prog, G, B⟩ : Ctx) 12 [.int .u64 n] [] fun v' H' => v' = .slice true (.rw 0) 0 (nformU [.int .u64 n]).length ∧ H' = [some ⟨1, bytesL (nformU [.int .u64 n])⟩] := by
  obtain ⟨g1, g2⟩ := nlast_cell (k := .u64) n
  have hlen := nformU_len [.int .u64 n]
  exact back3 (dcall_ok (C := (⟨Try.prog, G, B⟩ : Ctx)) (f := 12) (R := fun v' H' => v' = .slice true (.rw 2) 0 (nformU [.int .u64 n]).length ∧ ∃ b c, H' = [b, c, some ⟨1, bytesL (nformU [.int .u64 n])⟩]) (dg12 G B) (by kernel_rfl) (by kernel_rfl) (by kernel_rfl) (fuel := 200) (n0 := 10) (keep := 3) (args := [.int .u64 (.var 1 n)]) (H := []) (by
    rw [t12, g1, g2]
    exact ⟨h, leB_iff.2 (by omega), Nat.beq_refl _, rfl, _, _, rfl⟩))
theorem numS_ok {C : Ctx} {f : FuncId} {mb : Bool} (h : ∀ n : Int, inU64 [.int .u64 n] = true → ACalls C f [.int .u64 n] [] fun v' H' => v' = .slice mb (.rw 0) 0 (nformU [.int .u64 n]).length ∧ H' = [some ⟨1, bytesL (nformU [.int .u64 n])⟩]) : DSumOk C f (numS mb) := by
  intro xs H o ho
  unfold numS at ho
  split at ho
  · rename_i n
    simp at ho; subst ho
    intro hb
    simp only [vB, vVs, vV] at hb
    refine DOut.new0 (C := C) (args0 := [.int .u64 (vI C.G n)]) (v0 := .slice mb (.rw 0) 0 (nformU [.int .u64 (vI C.G n)]).length) ?_ (by simp only [vL, vS, vVs, vV]; exact bytesL_flat _ _) rfl (by simp only [vVs, vV]) (by simp [bnd]) (by simp [vV, vR, vN, vS, vVs, ren])
    simp only [vBlk, vL, vS, vVs, vV]
    exact h _ hb
  · simp at ho
end Go.Am
