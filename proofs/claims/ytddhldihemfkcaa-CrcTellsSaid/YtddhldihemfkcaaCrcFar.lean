/-
  Registers behind so many bytes 0, by squares: the program's and the document's.
-/
import Derived.Test.YtddhldihemfkcaaCrcRun
import Derived.Test.YtddhldihemfkcaaCrcMat
namespace Go.Am
open Go.Proofs Crc

theorem of_body (G : Nat → List AV) (B : Nat) (t : List AV) (x s i : Int) (Q : Ex → List AV → Hp → Prop) : vc (Kn (⟨Try.prog, G, B⟩ : Ctx) noSum noLoop) 100 0 (.code (loopN Try.f20 0)) (fl 22 [1, 2, 5, 7] [.int .u32 x, .ptr (.rw 0) 0, .int .u32 s, .int .i64 i]) [some ⟨1, t⟩] (lv 22 [1, 2, 5, 7] Q) = (
    tst (decide (i < (32 : Int))) (
      nam (i) (fun y1 =>
      chk (decide ((0 : Int) ≤ y1) && decide (y1 < (32 : Int))) (
      chk (isI IntKind.u32 t y1.toNat) (
      chk (decide ((0 : Int) ≤ y1)) (
      nam (kXor IntKind.u32 s (IntKind.u32.wrap (getI t y1.toNat * kAnd IntKind.u32 (kShr IntKind.u32 x y1) (1 : Int)))) (fun y2 =>
      Q .normal [.int IntKind.u32 (x), .ptr (.rw 0) 0, .int IntKind.u32 (y2), .int IntKind.i64 (IntKind.i64.wrap (i + (1 : Int)))] [some ⟨1, t⟩])))))) (
      Q (.exit 0) [.int IntKind.u32 (x), .ptr (.rw 0) 0, .int IntKind.u32 (s), .int IntKind.i64 (i)] [some ⟨1, t⟩])) := by kernel_rfl
theorem th_body (G : Nat → List AV) (B : Nat) (t : List AV) (x s i : Int) (Q : Ex → List AV → Hp → Prop) : vc (Kn (⟨Try.prog, G, B⟩ : Ctx) noSum noLoop) 100 0 (.code (loopN Try.f17 0)) (fl 22 [1, 2, 5, 6] [.int .u32 x, .ptr (.rw 0) 0, .int .u32 s, .int .i64 i]) [some ⟨1, t⟩] (lv 22 [1, 2, 5, 6] Q) = (
    tst (decide (i < (32 : Int))) (
      chk (decide ((0 : Int) ≤ i)) (
      tst ((kShr IntKind.u32 x i).tmod (2 : Int) == (1 : Int)) (
        chk (decide ((0 : Int) ≤ i) && decide (i < (32 : Int))) (
        chk (isI IntKind.u32 t i.toNat) (
        nam (kXor IntKind.u32 s (getI t i.toNat)) (fun y1 =>
        nam (IntKind.i64.wrap (i + (1 : Int))) (fun y2 =>
        Q .normal [.int IntKind.u32 (x), .ptr (.rw 0) 0, .int IntKind.u32 (y1), .int IntKind.i64 (y2)] [some ⟨1, t⟩]))))) (
        nam (IntKind.i64.wrap (i + (1 : Int))) (fun y1 =>
        Q .normal [.int IntKind.u32 (x), .ptr (.rw 0) 0, .int IntKind.u32 (s), .int IntKind.i64 (y1)] [some ⟨1, t⟩])))) (
      Q (.exit 0) [.int IntKind.u32 (x), .ptr (.rw 0) 0, .int IntKind.u32 (s), .int IntKind.i64 (i)] [some ⟨1, t⟩])) := by kernel_rfl

theorem of_loop (G : Nat → List AV) (B : Nat) (x s i : Int) (t : List AV) (hc : (decide (0 ≤ x) && (decide (x < 4294967296) && (decide (s = 0) && (decide (i = 0) && matOk t)))) = true) : AWp (⟨Try.prog, G, B⟩ : Ctx) 0 (.loop (loopN Try.f20 0)) (fl 22 [1, 2, 5, 7] [.int .u32 x, .ptr (.rw 0) 0, .int .u32 s, .int .i64 i]) [some ⟨1, t⟩] (lv 22 [1, 2, 5, 7] fun e' vs'' H'' => e' = .exit 0 ∧ wk [.undef, .undef, .int .u32 (u (app (M t) 32 (w32 x))), .undef] vs'' ∧ H'' = [some ⟨1, t⟩]) := by
  simp only [Bool.and_eq_true, decide_eq_true_eq] at hc
  obtain ⟨h1, h2, rfl, rfl, ht⟩ := hc
  rw [matOk_eq ht]
  generalize M t = f
  rw [← u_w32 ⟨h1, h2⟩, w32_u]
  generalize w32 x = z
  rw [app_congr 32 (fun i hi => M_mk f hi)]
  refine aloop_lv (fun j vs H => ∃ i : Nat, i ≤ 32 ∧ j = 32 - i ∧ vs = [.int .u32 (u z), .ptr (.rw 0) 0, .int .u32 (u (app f i z)), .int .i64 i] ∧ H = [some ⟨1, mk32 f⟩]) 32
    ⟨0, by omega, rfl, rfl, rfl⟩ ?_
  rintro j vs H ⟨i, hi, rfl, rfl, rfl⟩
  refine wpn (mix G B) (noSum_ok _) (noLoop_ok _ _) 100 ?_
  rw [of_body]
  simp only [tst_iff, chk_iff, nam_eq, Bool.and_eq_true, decide_eq_true_eq, decide_eq_false_iff_not]
  refine ⟨fun h => ⟨⟨by omega, h⟩, mk32_isI f (by omega), by omega, 32 - (i + 1), by omega, .inl ⟨i + 1, by omega, rfl, ?_, trivial⟩⟩, fun h => ?_⟩
  · have hi' : i < 32 := by omega
    rw [i64_in (by omega), show (i : Int).toNat = i from rfl, mk32_getI f hi', bit_sel z i hi', kXor_w, w32_u, w32_wrap]
    simp only [app]
    cases z.getLsbD i
    · simp [w32]
    · simp [w32_u]
  · have : i = 32 := by omega
    subst this
    exact ⟨trivial, by simp [wk], trivial⟩

def of_S (G : Nat → List AV) (B : Nat) (vs : List AV) (H : Hp) : Option (Bool × Ex × List AV × Hp) := match vs, H with
  | [.int .u32 x, .ptr (.rw 0) 0, .int .u32 s, .int .i64 i], [some ⟨1, t⟩] => some (decide (0 ≤ x) && (decide (x < 4294967296) && (decide (s = 0) && (decide (i = 0) && matOk t))), .exit 0, [.undef, .undef, .int .u32 (u (app (M t) 32 (w32 x))), .undef], [some ⟨1, t⟩])
  | _, _ => none
theorem of_S_ok (G : Nat → List AV) (B : Nat) (vs : List AV) (H : Hp) (e : Ex) (vs' : List AV) (H' : Hp) (h : of_S G B vs H = some (true, e, vs', H')) :
    AWp (⟨Try.prog, G, B⟩ : Ctx) 0 (.loop (loopN Try.f20 0)) (fl 22 [1, 2, 5, 7] vs) H (lv 22 [1, 2, 5, 7] fun e' vs'' H'' => e' = e ∧ wk vs' vs'' ∧ H'' = H') := by
  unfold of_S at h
  split at h
  · rename_i x s i t
    simp only [Option.some.injEq, Prod.mk.injEq] at h
    obtain ⟨hc, rfl, rfl, rfl⟩ := h
    exact of_loop G B x s i t hc
  · simp at h
def of_L (G : Nat → List AV) (B : Nat) : Loops := fun _ F H => lsum 22 [1, 2, 5, 7] (of_S G B) F H
theorem of_ok (G : Nat → List AV) (B : Nat) : LoopOk (⟨Try.prog, G, B⟩ : Ctx) (loopN Try.f20 0) (of_L G B) := ls_ok (of_S_ok G B)
theorem th_loop (G : Nat → List AV) (B : Nat) (x s i : Int) (t : List AV) (hc : (decide (0 ≤ x) && (decide (x < 4294967296) && (decide (s = 0) && (decide (i = 0) && matOk t)))) = true) : AWp (⟨Try.prog, G, B⟩ : Ctx) 0 (.loop (loopN Try.f17 0)) (fl 22 [1, 2, 5, 6] [.int .u32 x, .ptr (.rw 0) 0, .int .u32 s, .int .i64 i]) [some ⟨1, t⟩] (lv 22 [1, 2, 5, 6] fun e' vs'' H'' => e' = .exit 0 ∧ wk [.undef, .undef, .int .u32 (u (app (M t) 32 (w32 x))), .undef] vs'' ∧ H'' = [some ⟨1, t⟩]) := by
  simp only [Bool.and_eq_true, decide_eq_true_eq] at hc
  obtain ⟨h1, h2, rfl, rfl, ht⟩ := hc
  rw [matOk_eq ht]
  generalize M t = f
  rw [← u_w32 ⟨h1, h2⟩, w32_u]
  generalize w32 x = z
  rw [app_congr 32 (fun i hi => M_mk f hi)]
  refine aloop_lv (fun j vs H => ∃ i : Nat, i ≤ 32 ∧ j = 32 - i ∧ vs = [.int .u32 (u z), .ptr (.rw 0) 0, .int .u32 (u (app f i z)), .int .i64 i] ∧ H = [some ⟨1, mk32 f⟩]) 32
    ⟨0, by omega, rfl, rfl, rfl⟩ ?_
  rintro j vs H ⟨i, hi, rfl, rfl, rfl⟩
  refine wpn (mix G B) (noSum_ok _) (noLoop_ok _ _) 100 ?_
  rw [th_body]
  simp only [tst_iff, chk_iff, nam_eq, Bool.and_eq_true, decide_eq_true_eq, decide_eq_false_iff_not]
  refine ⟨fun h => ⟨by omega, fun hb => ⟨⟨by omega, h⟩, mk32_isI f (by omega), 32 - (i + 1), by omega, .inl ⟨i + 1, by omega, rfl, ?_, trivial⟩⟩, fun hb => ⟨32 - (i + 1), by omega, .inl ⟨i + 1, by omega, rfl, ?_, trivial⟩⟩⟩, fun h => ?_⟩
  · have hi' : i < 32 := by omega
    rw [bit_odd z i hi'] at hb
    rw [i64_in (by omega), show (i : Int).toNat = i from rfl, mk32_getI f hi', kXor_w, w32_u, w32_u]
    simp only [app, hb]
    rfl
  · have hi' : i < 32 := by omega
    rw [bit_odd z i hi'] at hb
    rw [i64_in (by omega)]
    simp only [app, hb]
    simp
  · have : i = 32 := by omega
    subst this
    exact ⟨trivial, by simp [wk], trivial⟩

def th_S (G : Nat → List AV) (B : Nat) (vs : List AV) (H : Hp) : Option (Bool × Ex × List AV × Hp) := match vs, H with
  | [.int .u32 x, .ptr (.rw 0) 0, .int .u32 s, .int .i64 i], [some ⟨1, t⟩] => some (decide (0 ≤ x) && (decide (x < 4294967296) && (decide (s = 0) && (decide (i = 0) && matOk t))), .exit 0, [.undef, .undef, .int .u32 (u (app (M t) 32 (w32 x))), .undef], [some ⟨1, t⟩])
  | _, _ => none
theorem th_S_ok (G : Nat → List AV) (B : Nat) (vs : List AV) (H : Hp) (e : Ex) (vs' : List AV) (H' : Hp) (h : th_S G B vs H = some (true, e, vs', H')) :
    AWp (⟨Try.prog, G, B⟩ : Ctx) 0 (.loop (loopN Try.f17 0)) (fl 22 [1, 2, 5, 6] vs) H (lv 22 [1, 2, 5, 6] fun e' vs'' H'' => e' = e ∧ wk vs' vs'' ∧ H'' = H') := by
  unfold th_S at h
  split at h
  · rename_i x s i t
    simp only [Option.some.injEq, Prod.mk.injEq] at h
    obtain ⟨hc, rfl, rfl, rfl⟩ := h
    exact th_loop G B x s i t hc
  · simp at h
def th_L (G : Nat → List AV) (B : Nat) : Loops := fun _ F H => lsum 22 [1, 2, 5, 6] (th_S G B) F H
theorem th_ok (G : Nat → List AV) (B : Nat) : LoopOk (⟨Try.prog, G, B⟩ : Ctx) (loopN Try.f17 0) (th_L G B) := ls_ok (th_S_ok G B)
theorem of_run (G : Nat → List AV) (B : Nat) (t : List AV) (x : Int) (Q : AV → Hp → Prop) : vc (Kn (⟨Try.prog, G, B⟩ : Ctx) noSum (of_L G B)) 100 0 (.code (bodyOf Try.f20)) (frame0 Try.f20 [.agg t, .int .u32 x]) [] (retK (⟨Try.prog, G, B⟩ : Ctx) Try.f20 Q) = (
    nam ((0 : Int)) (fun y1 =>
    nam ((0 : Int)) (fun y2 =>
    chk (decide ((0 : Int) ≤ x) && (decide (x < (4294967296 : Int)) && (decide (y2 = (0 : Int)) && matOk t))) (
    nam (u (app (M t) (32 : Nat) (w32 x))) (fun y3 =>
    Q (.int IntKind.u32 (y3)) [some ⟨1, (t)⟩]))))) := by kernel_rfl
theorem th_run (G : Nat → List AV) (B : Nat) (t : List AV) (x : Int) (Q : AV → Hp → Prop) : vc (Kn (⟨Try.prog, G, B⟩ : Ctx) noSum (th_L G B)) 100 0 (.code (bodyOf Try.f17)) (frame0 Try.f17 [.agg t, .int .u32 x]) [] (retK (⟨Try.prog, G, B⟩ : Ctx) Try.f17 Q) = (
    nam ((0 : Int)) (fun y1 =>
    nam ((0 : Int)) (fun y2 =>
    nam ((0 : Int)) (fun y3 =>
    chk (decide ((0 : Int) ≤ x) && (decide (x < (4294967296 : Int)) && (decide (y2 = (0 : Int)) && (decide (y3 = (0 : Int)) && matOk t)))) (
    nam (u (app (M t) (32 : Nat) (w32 x))) (fun y4 =>
    Q (.int IntKind.u32 (y4)) [some ⟨1, (t)⟩])))))) := by kernel_rfl
theorem of_call (G : Nat → List AV) (B : Nat) (f : Nat → W) (x : W) : ACalls (⟨Try.prog, G, B⟩ : Ctx) 20 [.agg (mk32 f), .int .u32 (u x)] [] fun v _ => v = .int .u32 (u (app f 32 x)) := by
  refine calln (mix G B) (noSum_ok _) (loop := of_L G B) (fn := Try.f20) (c := bodyOf Try.f20) (by kernel_rfl) (by kernel_rfl) (by kernel_rfl) (.cast (.cons (of_ok G B) .nil) (by kernel_rfl)) 100 ?_
  rw [of_run]
  have := u_range x
  simp only [nam_eq, chk_iff, Bool.and_eq_true, decide_eq_true_eq, w32_u, matOk_mk]
  rw [app_congr 32 (fun i hi => M_mk f hi)]
  exact ⟨⟨this.1, this.2, trivial, trivial⟩, rfl⟩
theorem th_call (G : Nat → List AV) (B : Nat) (f : Nat → W) (x : W) : ACalls (⟨Try.prog, G, B⟩ : Ctx) 17 [.agg (mk32 f), .int .u32 (u x)] [] fun v _ => v = .int .u32 (u (app f 32 x)) := by
  refine calln (mix G B) (noSum_ok _) (loop := th_L G B) (fn := Try.f17) (c := bodyOf Try.f17) (by kernel_rfl) (by kernel_rfl) (by kernel_rfl) (.cast (.cons (th_ok G B) .nil) (by kernel_rfl)) 100 ?_
  rw [th_run]
  have := u_range x
  simp only [nam_eq, chk_iff, Bool.and_eq_true, decide_eq_true_eq, w32_u, matOk_mk]
  rw [app_congr 32 (fun i hi => M_mk f hi)]
  exact ⟨⟨this.1, this.2, trivial, trivial, trivial⟩, rfl⟩
def of_sum : Sum1 := fun args _ => match args with
  | [.agg t, .int .u32 x] => some (matOk t && (decide (0 ≤ x) && decide (x < 4294967296)), .int .u32 (u (app (M t) 32 (w32 x))), [])
  | _ => none
theorem mk32_flat (f : Nat → W) : norws (mk32 f) = true ∧ noros (mk32 f) = true ∧ bnds 0 (mk32 f) = true := by
  rw [norws_eq, noros_eq, bnds_eq]
  simp only [List.all_eq_true, mk32, List.mem_map]
  refine ⟨?_, ?_, ?_⟩ <;> (rintro v ⟨i, _, rfl⟩; simp [norw, noro, bnd])
theorem of_sum_ok (G : Nat → List AV) (B : Nat) : SumOk (⟨Try.prog, G, B⟩ : Ctx) 20 of_sum ∧ SumOk (⟨Try.prog, G, B⟩ : Ctx) 17 of_sum := by
  constructor
  all_goals
    intro args H v hs h
    unfold of_sum at h
    split at h
    · rename_i t x
      simp only [Option.some.injEq, Prod.mk.injEq, Bool.and_eq_true, decide_eq_true_eq] at h
      obtain ⟨⟨h1, h2, h3⟩, rfl, rfl⟩ := h
      have hf := mk32_flat (M t)
      rw [matOk_eq h1, ← u_w32 ⟨h2, h3⟩, w32_u]
      rw [app_congr 32 (fun i hi => M_mk (M t) hi)]
      first
        | exact flat_call (C := (⟨Try.prog, G, B⟩ : Ctx)) ⟨by simp [bnd], by simp [noro]⟩ ⟨by simp [norws, norw, hf.1], by simp [noros, noro, hf.2.1]⟩ (fun G B => of_call G B (M t) (w32 x)) H
        | exact flat_call (C := (⟨Try.prog, G, B⟩ : Ctx)) ⟨by simp [bnd], by simp [noro]⟩ ⟨by simp [norws, norw, hf.1], by simp [noros, noro, hf.2.1]⟩ (fun G B => th_call G B (M t) (w32 x)) H
    · simp at h

theorem tw_body (G : Nat → List AV) (B : Nat) (a b q : List AV) (i : Int) (Q : Ex → List AV → Hp → Prop) : vc (Kn (⟨Try.prog, G, B⟩ : Ctx) (sums [(20, of_sum)]) noLoop) 100 0 (.code (loopN Try.f21 0)) (fl 17 [1, 2, 3, 5] [.ptr (.rw 0) 0, .ptr (.rw 1) 0, .ptr (.rw 2) 0, .int .i64 i]) [some ⟨1, a⟩, some ⟨1, b⟩, some ⟨1, q⟩] (lv 17 [1, 2, 3, 5] Q) = (
    tst (decide (i < (32 : Int))) (
      nam (i) (fun y1 =>
      chk (decide ((0 : Nat) + (32 : Nat) ≤ a.length)) (
      chk (decide ((0 : Int) ≤ y1) && decide (y1 < (32 : Int))) (
      chk (isI IntKind.u32 a y1.toNat) (
      nam (getI a y1.toNat) (fun y2 =>
      chk (matOk (List.take (32 : Nat) a) && (decide ((0 : Int) ≤ y2) && decide (y2 < (4294967296 : Int)))) (
      chk (decide ((0 : Int) ≤ y1) && decide (y1 < (32 : Int))) (
      chk (decide (y1.toNat + (1 : Nat) ≤ q.length)) (
      Q .normal [.ptr (.rw 0) 0, .ptr (.rw 1) 0, .ptr (.rw 2) 0, .int IntKind.i64 (IntKind.i64.wrap (i + (1 : Int)))] [some ⟨1, a⟩, some ⟨1, b⟩, some ⟨1, (q.set y1.toNat (AV.int IntKind.u32 (u (app (M (List.take (32 : Nat) a)) (32 : Nat) (w32 y2)))))⟩]))))))))) (
      Q (.exit 0) [.ptr (.rw 0) 0, .ptr (.rw 1) 0, .ptr (.rw 2) 0, .int IntKind.i64 (i)] [some ⟨1, a⟩, some ⟨1, b⟩, some ⟨1, q⟩])) := by kernel_rfl
theorem fa_body (G : Nat → List AV) (B : Nat) (a q : List AV) (s n i : Int) (Q : Ex → List AV → Hp → Prop) : vc (Kn (⟨Try.prog, G, B⟩ : Ctx) (sums [(17, of_sum)]) noLoop) 100 0 (.code (loopN Try.f11 2)) (fl 41 [0, 1, 5, 7, 8] [.int .u32 s, .int .i64 n, .ptr (.rw 0) 0, .ptr (.rw 1) 0, .int .i64 i]) [some ⟨1, a⟩, some ⟨1, q⟩] (lv 41 [0, 1, 5, 7, 8] Q) = (
    tst (decide (i < (32 : Int))) (
      chk (decide ((0 : Nat) + (32 : Nat) ≤ a.length)) (
      chk (decide ((0 : Int) ≤ i) && decide (i < (32 : Int))) (
      chk (isI IntKind.u32 a i.toNat) (
      nam (getI a i.toNat) (fun y1 =>
      chk (matOk (List.take (32 : Nat) a) && (decide ((0 : Int) ≤ y1) && decide (y1 < (4294967296 : Int)))) (
      chk (decide ((0 : Int) ≤ i) && decide (i < (32 : Int))) (
      chk (decide (i.toNat + (1 : Nat) ≤ q.length)) (
      nam (IntKind.i64.wrap (i + (1 : Int))) (fun y2 =>
      Q .normal [.int IntKind.u32 (s), .int IntKind.i64 (n), .ptr (.rw 0) 0, .ptr (.rw 1) 0, .int IntKind.i64 (y2)] [some ⟨1, a⟩, some ⟨1, (q.set i.toNat (AV.int IntKind.u32 (u (app (M (List.take (32 : Nat) a)) (32 : Nat) (w32 y1)))))⟩]))))))))) (
      Q (.exit 4) [.int IntKind.u32 (s), .int IntKind.i64 (n), .ptr (.rw 0) 0, .ptr (.rw 1) 0, .int IntKind.i64 (i)] [some ⟨1, a⟩, some ⟨1, q⟩])) := by kernel_rfl
end Go.Am
