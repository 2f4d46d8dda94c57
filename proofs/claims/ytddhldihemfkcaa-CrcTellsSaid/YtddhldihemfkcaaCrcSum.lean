/-
  Sums of pieces; the document's sums.
-/
import Derived.Test.YtddhldihemfkcaaCrcFar4
namespace Go.Am
open Go.Proofs Crc
theorem far_call (G : Nat → List AV) (B : Nat) (x : W) (n : Int) (hn : n ≤ 9223372036854775807) : ACalls (⟨Try.prog, G, B⟩ : Ctx) 18 [.int .u32 (u x), .int .i64 n] [] fun v _ => v = .int .u32 (u (zs n.toNat x)) := by
  refine calln (mix G B) (noSum_ok _) (loop := lps 0 (f0_L G B) (fm_L G B)) (fn := Try.f18) (c := bodyOf Try.f18) (by kernel_rfl) (by kernel_rfl) (by kernel_rfl)
    (.cast (.cons (.left (by kernel_rfl) (f0_ok G B)) (.cons (.right (i := 2) (by kernel_rfl) (by kernel_rfl) (fm_ok G B)) .nil)) (by kernel_rfl)) 200 ?_
  rw [far_run]
  have := u_range x
  simp only [nam_eq, chk_iff, Bool.and_eq_true, decide_eq_true_eq, w32_u]
  exact ⟨⟨this.1, this.2, hn, trivial⟩, trivial⟩
theorem Far_call (G : Nat → List AV) (B : Nat) (x : W) (n : Int) (hn : n ≤ 9223372036854775807) : ACalls (⟨Try.prog, G, B⟩ : Ctx) 11 [.int .u32 (u x), .int .i64 n] [] fun v _ => v = .int .u32 (u (zs n.toNat x)) := by
  refine calln (mix G B) (noSum_ok _) (loop := lps 0 (g0_L G B) (lps 2 (fo_L G B) (fi_L G B))) (fn := Try.f11) (c := bodyOf Try.f11) (by kernel_rfl) (by kernel_rfl) (by kernel_rfl)
    (.cast (.cons (.left (by kernel_rfl) (g0_ok G B)) (.cons (.right (i := 2) (by kernel_rfl) (by kernel_rfl) (.left (by kernel_rfl) (fo_ok G B))) (.cons (.right (i := 4) (by kernel_rfl) (by kernel_rfl) (.right (i := 4) (by kernel_rfl) (by kernel_rfl) (fi_ok G B))) .nil))) (by kernel_rfl)) 200 ?_
  rw [Far_run]
  have := u_range x
  simp only [nam_eq, chk_iff, Bool.and_eq_true, decide_eq_true_eq, w32_u]
  exact ⟨⟨trivial, trivial⟩, ⟨this.1, this.2, hn, trivial⟩, trivial⟩
def far_sum : Sum1 := fun args _ => match args with
  | [.int .u32 s, .int .i64 n] => some (decide (0 ≤ s) && (decide (s < 4294967296) && decide (n ≤ 9223372036854775807)), .int .u32 (u (zs n.toNat (w32 s))), [])
  | _ => none
theorem far_sum_ok (G : Nat → List AV) (B : Nat) : SumOk (⟨Try.prog, G, B⟩ : Ctx) 18 far_sum ∧ SumOk (⟨Try.prog, G, B⟩ : Ctx) 11 far_sum := by
  constructor
  all_goals
    intro args H v hs h
    unfold far_sum at h
    split at h
    · rename_i s n
      simp only [Option.some.injEq, Prod.mk.injEq, Bool.and_eq_true, decide_eq_true_eq] at h
      obtain ⟨⟨h1, h2, h3⟩, rfl, rfl⟩ := h
      rw [← u_w32 ⟨h1, h2⟩, w32_u]
      first
        | exact flat_call (C := (⟨Try.prog, G, B⟩ : Ctx)) ⟨by simp [bnd], by simp [noro]⟩ ⟨by simp [norws, norw], by simp [noros, noro]⟩ (fun G B => far_call G B (w32 s) n h3) H
        | exact flat_call (C := (⟨Try.prog, G, B⟩ : Ctx)) ⟨by simp [bnd], by simp [noro]⟩ ⟨by simp [norws, norw], by simp [noros, noro]⟩ (fun G B => Far_call G B (w32 s) n h3) H
    · simp at h

theorem mo_body (G : Nat → List AV) (B : Nat) (k off n : Nat) (mb : Bool) (s i : Int) (Q : Ex → List AV → Hp → Prop) : vc (Kn (⟨Try.prog, G, B⟩ : Ctx) (sums [(16, step_sum)]) noLoop) 100 0 (.code (loopN Try.f9 0)) (fl 25 [1, 5, 6] [.slice mb (.ro k) off n, .int .u32 s, .int .i64 i]) [] (lv 25 [1, 5, 6] Q) = (
    tst (decide (i < (↑n : Int))) (
      chk (decide ((0 : Int) ≤ i) && decide (i < (↑n : Int))) (
      chk (isI IntKind.u8 (G k) (i.toNat + off)) (
      nam (kXor IntKind.u32 s (IntKind.u32.wrap (getI (G k) (i.toNat + off)))) (fun y1 =>
      chk (decide ((0 : Int) ≤ y1) && decide (y1 < (4294967296 : Int))) (
      nam (u (stn (8 : Nat) (w32 y1))) (fun y2 =>
      nam (IntKind.i64.wrap (i + (1 : Int))) (fun y3 =>
      Q .normal [.slice mb (.ro (k)) (off) (n), .int IntKind.u32 (y2), .int IntKind.i64 (y3)] []))))))) (
      Q (.exit 0) [.slice mb (.ro (k)) (off) (n), .int IntKind.u32 (s), .int IntKind.i64 (i)] [])) := by kernel_rfl
theorem ze_body (G : Nat → List AV) (B : Nat) (n s i : Int) (Q : Ex → List AV → Hp → Prop) : vc (Kn (⟨Try.prog, G, B⟩ : Ctx) (sums [(16, step_sum)]) noLoop) 100 0 (.code (loopN Try.f13 0)) (fl 18 [1, 5, 6] [.int .i64 n, .int .u32 s, .int .i64 i]) [] (lv 18 [1, 5, 6] Q) = (
    tst (decide (i < n)) (
      nam (s) (fun y1 =>
      chk (decide ((0 : Int) ≤ y1) && decide (y1 < (4294967296 : Int))) (
      nam (u (stn (8 : Nat) (w32 y1))) (fun y2 =>
      nam (IntKind.i64.wrap (i + (1 : Int))) (fun y3 =>
      Q .normal [.int IntKind.i64 (n), .int IntKind.u32 (y2), .int IntKind.i64 (y3)] []))))) (
      Q (.exit 0) [.int IntKind.i64 (n), .int IntKind.u32 (s), .int IntKind.i64 (i)] [])) := by kernel_rfl
theorem su_body (G : Nat → List AV) (B : Nat) (k off n : Nat) (mb : Bool) (s i : Int) (Q : Ex → List AV → Hp → Prop) : vc (Kn (⟨Try.prog, G, B⟩ : Ctx) (sums [(15, run_sum (⟨Try.prog, G, B⟩ : Ctx))]) noLoop) 100 0 (.code (loopN Try.f6 0)) (fl 18 [3, 6, 7, 8] [.int .u32 s, .slice mb (.ro k) off n, .int .i64 n, .int .i64 i]) [] (lv 18 [3, 6, 7, 8] Q) = (
    tst (decide (i < (↑n : Int))) (
      chk (decide ((0 : Int) ≤ i) && decide (i < (↑n : Int))) (
      chk (isRS (G k) (i.toNat + off)) (
      nam (s) (fun y1 =>
      chk (decide ((0 : Int) ≤ y1) && (decide (y1 < (4294967296 : Int)) && (decide (roN (G k) (i.toNat + off) ≤ (9223372036854775807 : Nat)) && okI IntKind.u8 (G (roK (G k) (i.toNat + off))) (roO (G k) (i.toNat + off)) (roN (G k) (i.toNat + off))))) (
      nam (u (reg (w32 y1) (ints (G (roK (G k) (i.toNat + off))) (roO (G k) (i.toNat + off)) (roN (G k) (i.toNat + off))))) (fun y2 =>
      Q .normal [.int IntKind.u32 (y2), .slice mb (.ro (k)) (off) (n), .int IntKind.i64 ((↑n : Int)), .int IntKind.i64 (IntKind.i64.wrap (i + (1 : Int)))] [])))))) (
      Q (.exit 0) [.int IntKind.u32 (s), .slice mb (.ro (k)) (off) (n), .int IntKind.i64 ((↑n : Int)), .int IntKind.i64 (i)] [])) := by kernel_rfl

def piece (G : Nat → List AV) (k j : Nat) : List Int := ints (G (roK (G k) j)) (roO (G k) j) (roN (G k) j)
def pieceOk (G : Nat → List AV) (k j : Nat) : Bool := isRS (G k) j && (decide (roN (G k) j ≤ 9223372036854775807) && okI .u8 (G (roK (G k) j)) (roO (G k) j) (roN (G k) j))
def pieces (G : Nat → List AV) (k off n : Nat) : List Int := ((List.range n).map fun j => piece G k (off + j)).flatten
theorem pieces_succ (G : Nat → List AV) (k off n : Nat) : pieces G k off (n + 1) = pieces G k off n ++ piece G k (off + n) := by simp [pieces, List.range_succ]

theorem mo_loop (G : Nat → List AV) (B : Nat) (mb : Bool) (k off n : Nat) (s i : Int) (hc : (decide (0 ≤ s) && (decide (s < 4294967296) && (decide (i = 0) && (decide (n ≤ 9223372036854775807) && okI .u8 (G k) off n)))) = true) : AWp (⟨Try.prog, G, B⟩ : Ctx) 0 (.loop (loopN Try.f9 0)) (fl 25 [1, 5, 6] [.slice mb (.ro k) off n, .int .u32 s, .int .i64 i]) [] (lv 25 [1, 5, 6] fun e' vs'' H'' => e' = .exit 0 ∧ wk [.undef, .int .u32 (u (reg (w32 s) (ints (G k) off n))), .undef] vs'' ∧ H'' = []) := by
  simp only [Bool.and_eq_true, decide_eq_true_eq] at hc
  obtain ⟨h1, h2, rfl, hn, hok⟩ := hc
  refine aloop_lv (fun j vs H => ∃ i : Nat, i ≤ n ∧ j = n - i ∧ vs = [.slice mb (.ro k) off n, .int .u32 (u (reg (w32 s) (ints (G k) off i))), .int .i64 i] ∧ H = []) n
    ⟨0, by omega, rfl, by rw [ints_zero, reg, u_w32 ⟨h1, h2⟩]; rfl, rfl⟩ ?_
  rintro j vs H ⟨i, hi, rfl, rfl, rfl⟩
  refine wpn (mix G B) (sums_cons (step_sum_ok G B) (sums_nil _)) (noLoop_ok _ _) 100 ?_
  rw [mo_body]
  simp only [tst_iff, chk_iff, nam_eq, Bool.and_eq_true, decide_eq_true_eq, decide_eq_false_iff_not]
  refine ⟨fun h => ⟨⟨by omega, h⟩, ?_⟩, fun h => ?_⟩
  · have hi' : i < n := by omega
    have e1 : (i : Int).toNat + off = off + i := by omega
    rw [e1, kXor_w, w32_u, w32_wrap, w32_u]
    refine ⟨okI_get hok hi', u_range _, n - (i + 1), by omega, .inl ⟨i + 1, by omega, rfl, ?_, by trivial⟩⟩
    rw [i64_in (by omega), ints_succ, reg_append]
    rfl
  · have : i = n := by omega
    subst this
    exact ⟨trivial, by simp [wk], trivial⟩

def mo_S (G : Nat → List AV) (B : Nat) (vs : List AV) (H : Hp) : Option (Bool × Ex × List AV × Hp) := match vs, H with
  | [.slice mb (.ro k) off n, .int .u32 s, .int .i64 i], [] => some (decide (0 ≤ s) && (decide (s < 4294967296) && (decide (i = 0) && (decide (n ≤ 9223372036854775807) && okI .u8 (G k) off n))), .exit 0, [.undef, .int .u32 (u (reg (w32 s) (ints (G k) off n))), .undef], [])
  | _, _ => none
theorem mo_S_ok (G : Nat → List AV) (B : Nat) (vs : List AV) (H : Hp) (e : Ex) (vs' : List AV) (H' : Hp) (h : mo_S G B vs H = some (true, e, vs', H')) :
    AWp (⟨Try.prog, G, B⟩ : Ctx) 0 (.loop (loopN Try.f9 0)) (fl 25 [1, 5, 6] vs) H (lv 25 [1, 5, 6] fun e' vs'' H'' => e' = e ∧ wk vs' vs'' ∧ H'' = H') := by
  unfold mo_S at h
  split at h
  · rename_i mb k off n s i
    simp only [Option.some.injEq, Prod.mk.injEq] at h
    obtain ⟨hc, rfl, rfl, rfl⟩ := h
    exact mo_loop G B mb k off n s i hc
  · simp at h
def mo_L (G : Nat → List AV) (B : Nat) : Loops := fun _ F H => lsum 25 [1, 5, 6] (mo_S G B) F H
theorem mo_ok (G : Nat → List AV) (B : Nat) : LoopOk (⟨Try.prog, G, B⟩ : Ctx) (loopN Try.f9 0) (mo_L G B) := ls_ok (mo_S_ok G B)
theorem ze_loop (G : Nat → List AV) (B : Nat) (n s i : Int) (hc : (decide (0 ≤ s) && (decide (s < 4294967296) && (decide (i = 0) && decide (n ≤ 9223372036854775807)))) = true) : AWp (⟨Try.prog, G, B⟩ : Ctx) 0 (.loop (loopN Try.f13 0)) (fl 18 [1, 5, 6] [.int .i64 n, .int .u32 s, .int .i64 i]) [] (lv 18 [1, 5, 6] fun e' vs'' H'' => e' = .exit 0 ∧ wk [.undef, .int .u32 (u (zs n.toNat (w32 s))), .undef] vs'' ∧ H'' = []) := by
  simp only [Bool.and_eq_true, decide_eq_true_eq] at hc
  obtain ⟨h1, h2, rfl, hn⟩ := hc
  refine aloop_lv (fun j vs H => ∃ i : Nat, (i ≤ n.toNat) ∧ j = n.toNat - i ∧ vs = [.int .i64 n, .int .u32 (u (zs i (w32 s))), .int .i64 i] ∧ H = []) n.toNat
    ⟨0, by omega, rfl, by rw [show zs 0 (w32 s) = w32 s from rfl, u_w32 ⟨h1, h2⟩]; rfl, rfl⟩ ?_
  rintro j vs H ⟨i, hi, rfl, rfl, rfl⟩
  refine wpn (mix G B) (sums_cons (step_sum_ok G B) (sums_nil _)) (noLoop_ok _ _) 100 ?_
  rw [ze_body]
  simp only [tst_iff, chk_iff, nam_eq, Bool.and_eq_true, decide_eq_true_eq, decide_eq_false_iff_not, w32_u]
  refine ⟨fun h => ⟨u_range _, n.toNat - (i + 1), by omega, .inl ⟨i + 1, by omega, rfl, ?_, by trivial⟩⟩, fun h => ?_⟩
  · rw [i64_in (by omega), show stn 8 (zs i (w32 s)) = zs 1 (zs i (w32 s)) from rfl, zs_add]
    rfl
  · have : i = n.toNat := by omega
    subst this
    exact ⟨trivial, by simp [wk], trivial⟩

def ze_S (G : Nat → List AV) (B : Nat) (vs : List AV) (H : Hp) : Option (Bool × Ex × List AV × Hp) := match vs, H with
  | [.int .i64 n, .int .u32 s, .int .i64 i], [] => some (decide (0 ≤ s) && (decide (s < 4294967296) && (decide (i = 0) && decide (n ≤ 9223372036854775807))), .exit 0, [.undef, .int .u32 (u (zs n.toNat (w32 s))), .undef], [])
  | _, _ => none
theorem ze_S_ok (G : Nat → List AV) (B : Nat) (vs : List AV) (H : Hp) (e : Ex) (vs' : List AV) (H' : Hp) (h : ze_S G B vs H = some (true, e, vs', H')) :
    AWp (⟨Try.prog, G, B⟩ : Ctx) 0 (.loop (loopN Try.f13 0)) (fl 18 [1, 5, 6] vs) H (lv 18 [1, 5, 6] fun e' vs'' H'' => e' = e ∧ wk vs' vs'' ∧ H'' = H') := by
  unfold ze_S at h
  split at h
  · rename_i n s i
    simp only [Option.some.injEq, Prod.mk.injEq] at h
    obtain ⟨hc, rfl, rfl, rfl⟩ := h
    exact ze_loop G B n s i hc
  · simp at h
def ze_L (G : Nat → List AV) (B : Nat) : Loops := fun _ F H => lsum 18 [1, 5, 6] (ze_S G B) F H
theorem ze_ok (G : Nat → List AV) (B : Nat) : LoopOk (⟨Try.prog, G, B⟩ : Ctx) (loopN Try.f13 0) (ze_L G B) := ls_ok (ze_S_ok G B)
theorem su_loop (G : Nat → List AV) (B : Nat) (s : Int) (mb : Bool) (k off n : Nat) (m i : Int) (hc : (decide (0 ≤ s) && (decide (s < 4294967296) && (decide (i = 0) && (decide (m = n) && (decide (n ≤ 9223372036854775807) && (List.range n).all (fun j => pieceOk G k (off + j))))))) = true) : AWp (⟨Try.prog, G, B⟩ : Ctx) 0 (.loop (loopN Try.f6 0)) (fl 18 [3, 6, 7, 8] [.int .u32 s, .slice mb (.ro k) off n, .int .i64 m, .int .i64 i]) [] (lv 18 [3, 6, 7, 8] fun e' vs'' H'' => e' = .exit 0 ∧ wk [.int .u32 (u (reg (w32 s) (pieces G k off n))), .undef, .undef, .undef] vs'' ∧ H'' = []) := by
  simp only [Bool.and_eq_true, decide_eq_true_eq, List.all_eq_true, List.mem_range] at hc
  obtain ⟨h1, h2, rfl, rfl, hn, hok⟩ := hc
  refine aloop_lv (fun j vs H => ∃ i : Nat, i ≤ n ∧ j = n - i ∧ vs = [.int .u32 (u (reg (w32 s) (pieces G k off i))), .slice mb (.ro k) off n, .int .i64 n, .int .i64 i] ∧ H = []) n
    ⟨0, by omega, rfl, by rw [show pieces G k off 0 = [] from rfl, reg, u_w32 ⟨h1, h2⟩]; rfl, rfl⟩ ?_
  rintro j vs H ⟨i, hi, rfl, rfl, rfl⟩
  refine wpn (mix G B) (sums_cons (run_sum_ok G B) (sums_nil _)) (noLoop_ok _ _) 100 ?_
  rw [su_body]
  simp only [tst_iff, chk_iff, nam_eq, Bool.and_eq_true, decide_eq_true_eq, decide_eq_false_iff_not, w32_u]
  refine ⟨fun h => ⟨⟨by omega, h⟩, ?_⟩, fun h => ?_⟩
  · have hi' : i < n := by omega
    have e1 : (i : Int).toNat + off = off + i := by omega
    have ho := hok i hi'
    simp only [pieceOk, Bool.and_eq_true, decide_eq_true_eq] at ho
    rw [e1]
    refine ⟨ho.1, ⟨(u_range _).1, (u_range _).2, ho.2.1, ho.2.2⟩, n - (i + 1), by omega, .inl ⟨i + 1, by omega, rfl, ?_, by trivial⟩⟩
    rw [i64_in (by omega), pieces_succ, reg_append]
    rfl
  · have : i = n := by omega
    subst this
    exact ⟨trivial, by simp [wk], trivial⟩

def su_S (G : Nat → List AV) (B : Nat) (vs : List AV) (H : Hp) : Option (Bool × Ex × List AV × Hp) := match vs, H with
  | [.int .u32 s, .slice mb (.ro k) off n, .int .i64 m, .int .i64 i], [] => some (decide (0 ≤ s) && (decide (s < 4294967296) && (decide (i = 0) && (decide (m = n) && (decide (n ≤ 9223372036854775807) && (List.range n).all (fun j => pieceOk G k (off + j)))))), .exit 0, [.int .u32 (u (reg (w32 s) (pieces G k off n))), .undef, .undef, .undef], [])
  | _, _ => none
theorem su_S_ok (G : Nat → List AV) (B : Nat) (vs : List AV) (H : Hp) (e : Ex) (vs' : List AV) (H' : Hp) (h : su_S G B vs H = some (true, e, vs', H')) :
    AWp (⟨Try.prog, G, B⟩ : Ctx) 0 (.loop (loopN Try.f6 0)) (fl 18 [3, 6, 7, 8] vs) H (lv 18 [3, 6, 7, 8] fun e' vs'' H'' => e' = e ∧ wk vs' vs'' ∧ H'' = H') := by
  unfold su_S at h
  split at h
  · rename_i s mb k off n m i
    simp only [Option.some.injEq, Prod.mk.injEq] at h
    obtain ⟨hc, rfl, rfl, rfl⟩ := h
    exact su_loop G B s mb k off n m i hc
  · simp at h
def su_L (G : Nat → List AV) (B : Nat) : Loops := fun _ F H => lsum 18 [3, 6, 7, 8] (su_S G B) F H
theorem su_ok (G : Nat → List AV) (B : Nat) : LoopOk (⟨Try.prog, G, B⟩ : Ctx) (loopN Try.f6 0) (su_L G B) := ls_ok (su_S_ok G B)
theorem mo_run (G : Nat → List AV) (B : Nat) (k off n : Nat) (mb : Bool) (s : Int) (Q : AV → Hp → Prop) : vc (Kn (⟨Try.prog, G, B⟩ : Ctx) noSum (mo_L G B)) 100 0 (.code (bodyOf Try.f9)) (frame0 Try.f9 [.int .u32 s, .slice mb (.ro k) off n]) [] (retK (⟨Try.prog, G, B⟩ : Ctx) Try.f9 Q) = (
    nam ((0 : Int)) (fun y1 =>
    nam (kXor IntKind.u32 s (4294967295 : Int)) (fun y2 =>
    nam ((0 : Int)) (fun y3 =>
    chk (decide ((0 : Int) ≤ y2) && (decide (y2 < (4294967296 : Int)) && (decide (y3 = (0 : Int)) && (decide (n ≤ (9223372036854775807 : Nat)) && okI IntKind.u8 (G k) off n)))) (
    nam (kXor IntKind.u32 (u (reg (w32 y2) (ints (G k) off n))) (4294967295 : Int)) (fun y4 =>
    Q (.int IntKind.u32 (y4)) [])))))) := by kernel_rfl
theorem ze_run (G : Nat → List AV) (B : Nat) (s n : Int) (Q : AV → Hp → Prop) : vc (Kn (⟨Try.prog, G, B⟩ : Ctx) noSum (ze_L G B)) 100 0 (.code (bodyOf Try.f13)) (frame0 Try.f13 [.int .u32 s, .int .i64 n]) [] (retK (⟨Try.prog, G, B⟩ : Ctx) Try.f13 Q) = (
    nam ((0 : Int)) (fun y1 =>
    nam (kXor IntKind.u32 s (4294967295 : Int)) (fun y2 =>
    nam ((0 : Int)) (fun y3 =>
    chk (decide ((0 : Int) ≤ y2) && (decide (y2 < (4294967296 : Int)) && (decide (y3 = (0 : Int)) && decide (n ≤ (9223372036854775807 : Int))))) (
    nam (kXor IntKind.u32 (u (zs n.toNat (w32 y2))) (4294967295 : Int)) (fun y4 =>
    Q (.int IntKind.u32 (y4)) [])))))) := by kernel_rfl
theorem su_run (G : Nat → List AV) (B : Nat) (k off n : Nat) (mb : Bool) (Q : AV → Hp → Prop) : vc (Kn (⟨Try.prog, G, B⟩ : Ctx) noSum (su_L G B)) 100 0 (.code (bodyOf Try.f6)) (frame0 Try.f6 [.slice mb (.ro k) off n]) [] (retK (⟨Try.prog, G, B⟩ : Ctx) Try.f6 Q) = (
    nam ((0 : Int)) (fun y1 =>
    nam ((4294967295 : Int)) (fun y2 =>
    chk (decide ((0 : Int) ≤ y2) && (decide (y2 < (4294967296 : Int)) && (decide ((↑n : Int) = (↑n : Int)) && (decide (n ≤ (9223372036854775807 : Nat)) && (List.range n).all fun j => pieceOk G k (off + j))))) (
    nam (kNot IntKind.u32 (u (reg (w32 y2) (pieces G k off n)))) (fun y3 =>
    Q (.int IntKind.u32 (y3)) []))))) := by kernel_rfl
theorem mo_call (G : Nat → List AV) (B : Nat) (k off n : Nat) (mb : Bool) (x : W) (hn : n ≤ 9223372036854775807) (hok : okI .u8 (G k) off n = true) : ACalls (⟨Try.prog, G, B⟩ : Ctx) 9 [.int .u32 (u x), .slice mb (.ro k) off n] [] fun v _ => v = .int .u32 (u (more x (ints (G k) off n))) := by
  refine calln (mix G B) (noSum_ok _) (loop := mo_L G B) (fn := Try.f9) (c := bodyOf Try.f9) (by kernel_rfl) (by kernel_rfl) (by kernel_rfl) (.cast (.cons (mo_ok G B) .nil) (by kernel_rfl)) 100 ?_
  rw [mo_run]
  simp only [nam_eq, chk_iff, Bool.and_eq_true, decide_eq_true_eq, kXor_not, w32_u]
  exact ⟨⟨(u_range _).1, (u_range _).2, trivial, hn, hok⟩, by trivial⟩
theorem ze_call (G : Nat → List AV) (B : Nat) (x : W) (n : Int) (hn : n ≤ 9223372036854775807) : ACalls (⟨Try.prog, G, B⟩ : Ctx) 13 [.int .u32 (u x), .int .i64 n] [] fun v _ => v = .int .u32 (u (~~~ zs n.toNat (~~~ x))) := by
  refine calln (mix G B) (noSum_ok _) (loop := ze_L G B) (fn := Try.f13) (c := bodyOf Try.f13) (by kernel_rfl) (by kernel_rfl) (by kernel_rfl) (.cast (.cons (ze_ok G B) .nil) (by kernel_rfl)) 100 ?_
  rw [ze_run]
  simp only [nam_eq, chk_iff, Bool.and_eq_true, decide_eq_true_eq, kXor_not, w32_u]
  exact ⟨⟨(u_range _).1, (u_range _).2, trivial, hn⟩, by trivial⟩
theorem su_call (G : Nat → List AV) (B : Nat) (k off n : Nat) (mb : Bool) (hn : n ≤ 9223372036854775807) (hok : ∀ j, j < n → pieceOk G k (off + j) = true) : ACalls (⟨Try.prog, G, B⟩ : Ctx) 6 [.slice mb (.ro k) off n] [] fun v _ => v = .int .u32 (u (sum (pieces G k off n))) := by
  refine calln (mix G B) (noSum_ok _) (loop := su_L G B) (fn := Try.f6) (c := bodyOf Try.f6) (by kernel_rfl) (by kernel_rfl) (by kernel_rfl) (.cast (.cons (su_ok G B) .nil) (by kernel_rfl)) 100 ?_
  rw [su_run]
  simp only [nam_eq, chk_iff, Bool.and_eq_true, decide_eq_true_eq, kNot_u, w32_u, List.all_eq_true, List.mem_range]
  exact ⟨⟨by decide, by decide, trivial, hn, hok⟩, by trivial⟩

def mo_sum (C : Ctx) : Sum1 := fun args H => match args with
  | [.int .u32 s, .slice _ r off n] => match cellsAt C H r with
    | some cs => some (decide (0 ≤ s) && (decide (s < 4294967296) && (decide (n ≤ 9223372036854775807) && okI .u8 cs off n)), .int .u32 (u (more (w32 s) (ints cs off n))), [])
    | none => none
  | _ => none
theorem mo_sum_ok (G : Nat → List AV) (B : Nat) : SumOk (⟨Try.prog, G, B⟩ : Ctx) 9 (mo_sum (⟨Try.prog, G, B⟩ : Ctx)) := by
  intro args H v hs h
  unfold mo_sum at h
  split at h
  · rename_i s mb r off n
    split at h
    · rename_i cs hcs
      simp only [Option.some.injEq, Prod.mk.injEq, Bool.and_eq_true, decide_eq_true_eq] at h
      obtain ⟨⟨h1, h2, h3, h4⟩, rfl, rfl⟩ := h
      have key := fun B' => mo_call (G1 ((cs.drop off).take n)) B' 0 0 n mb (w32 s) h3 (okI_part h4)
      rw [u_w32 ⟨h1, h2⟩] at key
      refine ro_flat (C := (⟨Try.prog, G, B⟩ : Ctx)) (args0 := [.int .u32 s, .slice mb (.ro 0) 0 n]) (sees1 hcs off n (okI_flat h4)) (R := fun v => v = .int .u32 (u (more (w32 s) (ints cs off n)))) (fun B' => ?_) (by simp [norws, norw]) (by simp [sbs, sb, sig1]) (fun v hv => by subst hv; simp [bnd, noro])
      have := key B'
      simp only [G1, ints_part] at this
      exact this
    · simp at h
  · simp at h
def ze_sum : Sum1 := fun args _ => match args with
  | [.int .u32 s, .int .i64 n] => some (decide (0 ≤ s) && (decide (s < 4294967296) && decide (n ≤ 9223372036854775807)), .int .u32 (u (~~~ zs n.toNat (~~~ (w32 s)))), [])
  | _ => none
theorem ze_sum_ok (G : Nat → List AV) (B : Nat) : SumOk (⟨Try.prog, G, B⟩ : Ctx) 13 ze_sum := by
  intro args H v hs h
  unfold ze_sum at h
  split at h
  · rename_i s n
    simp only [Option.some.injEq, Prod.mk.injEq, Bool.and_eq_true, decide_eq_true_eq] at h
    obtain ⟨⟨h1, h2, h3⟩, rfl, rfl⟩ := h
    rw [← u_w32 ⟨h1, h2⟩, w32_u]
    exact flat_call (C := (⟨Try.prog, G, B⟩ : Ctx)) ⟨by simp [bnd], by simp [noro]⟩ ⟨by simp [norws, norw], by simp [noros, noro]⟩ (fun G B => ze_call G B (w32 s) n h3) H
  · simp at h

/-- Sum of what came in, and of one piece of one's own -/
def su_sum (C : Ctx) : Sum1 := fun args H => match args with
  | [.slice _ (.ro k) off n] => some (decide (n ≤ 9223372036854775807) && ((List.range n).all (fun j => pieceOk C.G k (off + j)) && ((C.G k).all norw && (List.range n).all (fun j => (C.G (roK (C.G k) (off + j))).all norw))), .int .u32 (u (sum (pieces C.G k off n))), [])
  | [.slice _ (.rw j) 0 1] => match H[j]? with
    | some (some ⟨_, [.slice _ r off n]⟩) => match cellsAt C H r with
      | some cs => some (decide (n ≤ 9223372036854775807) && okI .u8 cs off n, .int .u32 (u (sum (ints cs off n))), [])
      | none => none
    | _ => none
  | _ => none
def idro : Sig := fun k => (.ro k, 0)
theorem sb_idro (v : AV) : norw v = true → sb idro 0 v = v := by
  refine AV.rec (motive_1 := fun v => norw v = true → sb idro 0 v = v) (motive_2 := fun l => norws l = true → sbs idro 0 l = l) ?_ ?_ ?_ ?_ ?_ ?_ ?_ ?_ ?_ ?_ ?_ ?_ ?_ ?_ v
  · intro _; simp [sb]
  · intro _ _; simp [sb]
  · intro _ _ _; simp [sb]
  · intro _ _; simp [sb]
  · intro _; simp [sb]
  · intro r o h; cases r <;> simp [norw, sb, idro] at *
  · intro _; simp [sb]
  · intro m r o n h; cases r <;> simp [norw, sb, idro] at *
  · intro _; simp [sb]
  · intro f c ih h; simp only [norw] at h; simp only [sb, ih h]
  · intro c ih h; simp only [norw] at h; simp only [sb, ih h]
  · intro c ih h; simp only [norw] at h; simp only [sb, ih h]
  · intro _; simp [sbs]
  · intro x xs h1 h2 h; simp only [norws, Bool.and_eq_true] at h; simp only [sbs, h1 h.1, h2 h.2]
def Gn (G : Nat → List AV) (k : Nat) : List AV := if (G k).all norw then G k else []
theorem sees_id (C : Ctx) (H : Hp) : Sees C H idro (Gn C.G) := by
  intro k
  unfold Gn
  split
  · rename_i hk
    refine .inr ⟨C.G k, rfl, fun j v hv => ?_⟩
    have hn := List.all_eq_true.1 hk v (List.mem_of_getElem? hv)
    refine ⟨hn, ?_⟩
    rw [sb_idro v hn]
    simpa [idro] using hv
  · exact .inl rfl
theorem Gn_eq {G : Nat → List AV} {k : Nat} (h : (G k).all norw = true) : Gn G k = G k := by unfold Gn; rw [if_pos h]
def sig2 (a b : Ref × Nat) : Sig := fun k => match k with | 0 => a | _ => b
def G2 (a b : List AV) : Nat → List AV := fun k => match k with | 0 => a | 1 => b | _ => []
theorem su_sum_ok (G : Nat → List AV) (B : Nat) : SumOk (⟨Try.prog, G, B⟩ : Ctx) 6 (su_sum (⟨Try.prog, G, B⟩ : Ctx)) := by
  intro args H v hs h
  unfold su_sum at h
  split at h
  · rename_i mb k off n
    simp only [Option.some.injEq, Prod.mk.injEq, Bool.and_eq_true, decide_eq_true_eq, List.all_eq_true, List.mem_range] at h
    obtain ⟨⟨h1, h2, h3, h4⟩, rfl, rfl⟩ := h
    have e0 : Gn G k = G k := Gn_eq (List.all_eq_true.2 h3)
    have e1 : ∀ j, j < n → Gn G (roK (G k) (off + j)) = G (roK (G k) (off + j)) := fun j hj => Gn_eq (List.all_eq_true.2 (h4 j hj))
    have e2 : pieces (Gn G) k off n = pieces G k off n := by
      unfold pieces
      congr 1
      apply List.map_congr_left
      intro j hj
      unfold piece
      rw [e0, e1 j (List.mem_range.1 hj)]
    refine ro_flat (C := (⟨Try.prog, G, B⟩ : Ctx)) (args0 := [.slice mb (.ro k) off n]) (sees_id (⟨Try.prog, G, B⟩ : Ctx) H) (R := fun v => v = .int .u32 (u (sum (pieces G k off n)))) (fun B' => ?_) (by simp [norws, norw]) (by simp [sbs, sb, idro]) (fun v hv => by subst hv; simp [bnd, noro])
    rw [← e2]
    refine su_call (Gn G) B' k off n mb h1 fun j hj => ?_
    have := h2 j hj
    unfold pieceOk at this ⊢
    rw [e0, e1 j hj]
    exact this
  · rename_i mb j
    split at h
    · rename_i e mb' r off n hj
      split at h
      · rename_i cs hcs
        simp only [Option.some.injEq, Prod.mk.injEq, Bool.and_eq_true, decide_eq_true_eq] at h
        obtain ⟨⟨h1, h2⟩, rfl, rfl⟩ := h
        let G' := G2 [.slice mb' (.ro 1) 0 n] ((cs.drop off).take n)
        have hs1 := sees1 hcs off n (okI_flat h2)
        have hsee : Sees (⟨Try.prog, G, B⟩ : Ctx) H (sig2 (.rw j, 0) (r, off)) G' := by
          intro k
          match k with
          | 0 =>
            refine .inr ⟨[.slice mb' r off n], by simp [sig2, cellsAt, hj], fun i v hv => ?_⟩
            cases i with
            | zero =>
              simp [G', G2] at hv; subst hv
              exact ⟨by simp [norw], by simp [sig2, sb]⟩
            | succ i => simp [G', G2] at hv
          | 1 =>
            rcases hs1 0 with h0 | ⟨cs', q1, q2⟩
            · exact .inl h0
            · refine .inr ⟨cs', q1, fun i v hv => ?_⟩
              obtain ⟨q3, q4⟩ := q2 i v hv
              refine ⟨q3, ?_⟩
              have hm : v ∈ (cs.drop off).take n := List.mem_of_getElem? hv
              have hf := List.all_eq_true.1 (okI_flat h2) v hm
              simp only [flat, Bool.and_eq_true] at hf
              rw [sb_flat v hf.2] at q4 ⊢
              exact q4
          | k + 2 => exact .inl rfl
        refine ro_flat (C := (⟨Try.prog, G, B⟩ : Ctx)) (args0 := [.slice mb (.ro 0) 0 1]) hsee (R := fun v => v = .int .u32 (u (sum (ints cs off n)))) (fun B' => ?_) (by simp [norws, norw]) (by simp [sbs, sb, sig2]) (fun v hv => by subst hv; simp [bnd, noro])
        have hp : pieces G' 0 0 1 = ints cs off n := by
          show ([piece G' 0 0]).flatten = _
          simp only [List.flatten_cons, List.flatten_nil, List.append_nil]
          exact ints_part cs off n
        rw [← hp]
        refine su_call G' B' 0 0 1 mb (by omega) fun i hi => ?_
        have : i = 0 := by omega
        subst this
        show (true && (decide (n ≤ 9223372036854775807) && okI .u8 ((cs.drop off).take n) 0 n)) = true
        simp [h1, okI_part h2]
      · simp at h
    · simp at h
  · simp at h
end Go.Am
