/-
  Squares of maps; registers behind so many bytes 0.
-/
import Derived.Test.YtddhldihemfkcaaCrcFar
namespace Go.Am
open Go.Proofs Crc
def sq (f : Nat → W) (k : Nat) : W := app f 32 (f k)
theorem take32 (f : Nat → W) : List.take 32 (mk32 f) = mk32 f := List.take_of_length_le (by rw [mk32_length]; exact Nat.le_refl _)
theorem mk32_congr {f g : Nat → W} (h : ∀ i, i < 32 → f i = g i) : mk32 f = mk32 g := by
  unfold mk32
  apply List.map_congr_left
  intro i hi
  rw [h i (List.mem_range.1 hi)]

theorem tw_loop (G : Nat → List AV) (B : Nat) (i : Int) (a b q : List AV) (hc : (decide (i = 0) && (matOk a && Nat.beq q.length 32)) = true) : AWp (⟨Try.prog, G, B⟩ : Ctx) 0 (.loop (loopN Try.f21 0)) (fl 17 [1, 2, 3, 5] [.ptr (.rw 0) 0, .ptr (.rw 1) 0, .ptr (.rw 2) 0, .int .i64 i]) [some ⟨1, a⟩, some ⟨1, b⟩, some ⟨1, q⟩] (lv 17 [1, 2, 3, 5] fun e' vs'' H'' => e' = .exit 0 ∧ wk [.ptr (.rw 0) 0, .ptr (.rw 1) 0, .ptr (.rw 2) 0, .undef] vs'' ∧ H'' = [some ⟨1, a⟩, some ⟨1, b⟩, some ⟨1, mk32 (sq (M a))⟩]) := by
  simp only [Bool.and_eq_true, decide_eq_true_eq] at hc
  obtain ⟨rfl, ht, hq⟩ := hc
  have hq := Nat.eq_of_beq_eq_true hq
  rw [matOk_eq ht]
  generalize M a = f
  have e32 : mk32 (sq (M (mk32 f))) = mk32 (sq f) := mk32_congr fun i hi => by
    unfold sq
    rw [M_mk f hi]
    exact app_congr 32 (fun i hi => M_mk f hi) _
  rw [e32]
  let g : Nat → AV := fun k => .int .u32 (u (sq f k))
  refine aloop_lv (fun j vs H => ∃ i : Nat, i ≤ 32 ∧ j = 32 - i ∧ vs = [.ptr (.rw 0) 0, .ptr (.rw 1) 0, .ptr (.rw 2) 0, .int .i64 i] ∧ H = [some ⟨1, mk32 f⟩, some ⟨1, b⟩, some ⟨1, fill q g i⟩]) 32
    ⟨0, by omega, rfl, rfl, by rw [fill_zero]⟩ ?_
  rintro j vs H ⟨i, hi, rfl, rfl, rfl⟩
  refine wpn (mix G B) (sums_cons (of_sum_ok G B).1 (sums_nil _)) (noLoop_ok _ _) 100 ?_
  rw [tw_body]
  simp only [tst_iff, chk_iff, nam_eq, Bool.and_eq_true, decide_eq_true_eq, decide_eq_false_iff_not, take32, matOk_mk, mk32_length, fill_length]
  refine ⟨fun h => ?_, fun h => ?_⟩
  · have hi' : i < 32 := by omega
    have eg : (Int.ofNat i).toNat = i := rfl
    rw [show (i : Int).toNat = i from rfl, mk32_getI f hi', w32_u, app_congr 32 (fun i hi => M_mk f hi)]
    refine ⟨by omega, ⟨by omega, h⟩, mk32_isI f hi', ⟨trivial, u_range _⟩, ⟨by omega, h⟩, by omega, 32 - (i + 1), by omega, .inl ⟨i + 1, by omega, rfl, by rw [i64_in (by omega)]; rfl, ?_⟩⟩
    have := fill_set q g i (by omega)
    rw [← this]
    rfl
  · have : i = 32 := by omega
    subst this
    refine ⟨trivial, by simp [wk], ?_⟩
    rw [← hq, fill_all, hq]; rfl

def tw_S (G : Nat → List AV) (B : Nat) (vs : List AV) (H : Hp) : Option (Bool × Ex × List AV × Hp) := match vs, H with
  | [.ptr (.rw 0) 0, .ptr (.rw 1) 0, .ptr (.rw 2) 0, .int .i64 i], [some ⟨1, a⟩, some ⟨1, b⟩, some ⟨1, q⟩] => some (decide (i = 0) && (matOk a && Nat.beq q.length 32), .exit 0, [.ptr (.rw 0) 0, .ptr (.rw 1) 0, .ptr (.rw 2) 0, .undef], [some ⟨1, a⟩, some ⟨1, b⟩, some ⟨1, mk32 (sq (M a))⟩])
  | _, _ => none
theorem tw_S_ok (G : Nat → List AV) (B : Nat) (vs : List AV) (H : Hp) (e : Ex) (vs' : List AV) (H' : Hp) (h : tw_S G B vs H = some (true, e, vs', H')) :
    AWp (⟨Try.prog, G, B⟩ : Ctx) 0 (.loop (loopN Try.f21 0)) (fl 17 [1, 2, 3, 5] vs) H (lv 17 [1, 2, 3, 5] fun e' vs'' H'' => e' = e ∧ wk vs' vs'' ∧ H'' = H') := by
  unfold tw_S at h
  split at h
  · rename_i i a b q
    simp only [Option.some.injEq, Prod.mk.injEq] at h
    obtain ⟨hc, rfl, rfl, rfl⟩ := h
    exact tw_loop G B i a b q hc
  · simp at h
def tw_L (G : Nat → List AV) (B : Nat) : Loops := fun _ F H => lsum 17 [1, 2, 3, 5] (tw_S G B) F H
theorem tw_ok (G : Nat → List AV) (B : Nat) : LoopOk (⟨Try.prog, G, B⟩ : Ctx) (loopN Try.f21 0) (tw_L G B) := ls_ok (tw_S_ok G B)
theorem fi_loop (G : Nat → List AV) (B : Nat) (s n i : Int) (a q : List AV) (hc : (decide (i = 0) && (matOk a && Nat.beq q.length 32)) = true) : AWp (⟨Try.prog, G, B⟩ : Ctx) 0 (.loop (loopN Try.f11 2)) (fl 41 [0, 1, 5, 7, 8] [.int .u32 s, .int .i64 n, .ptr (.rw 0) 0, .ptr (.rw 1) 0, .int .i64 i]) [some ⟨1, a⟩, some ⟨1, q⟩] (lv 41 [0, 1, 5, 7, 8] fun e' vs'' H'' => e' = .exit 4 ∧ wk [.int .u32 s, .int .i64 n, .ptr (.rw 0) 0, .ptr (.rw 1) 0, .undef] vs'' ∧ H'' = [some ⟨1, a⟩, some ⟨1, mk32 (sq (M a))⟩]) := by
  simp only [Bool.and_eq_true, decide_eq_true_eq] at hc
  obtain ⟨rfl, ht, hq⟩ := hc
  have hq := Nat.eq_of_beq_eq_true hq
  rw [matOk_eq ht]
  generalize M a = f
  have e32 : mk32 (sq (M (mk32 f))) = mk32 (sq f) := mk32_congr fun i hi => by
    unfold sq
    rw [M_mk f hi]
    exact app_congr 32 (fun i hi => M_mk f hi) _
  rw [e32]
  let g : Nat → AV := fun k => .int .u32 (u (sq f k))
  refine aloop_lv (fun j vs H => ∃ i : Nat, i ≤ 32 ∧ j = 32 - i ∧ vs = [.int .u32 s, .int .i64 n, .ptr (.rw 0) 0, .ptr (.rw 1) 0, .int .i64 i] ∧ H = [some ⟨1, mk32 f⟩, some ⟨1, fill q g i⟩]) 32
    ⟨0, by omega, rfl, rfl, by rw [fill_zero]⟩ ?_
  rintro j vs H ⟨i, hi, rfl, rfl, rfl⟩
  refine wpn (mix G B) (sums_cons (of_sum_ok G B).2 (sums_nil _)) (noLoop_ok _ _) 100 ?_
  rw [fa_body]
  simp only [tst_iff, chk_iff, nam_eq, Bool.and_eq_true, decide_eq_true_eq, decide_eq_false_iff_not, take32, matOk_mk, mk32_length, fill_length]
  refine ⟨fun h => ?_, fun h => ?_⟩
  · have hi' : i < 32 := by omega
    rw [show (i : Int).toNat = i from rfl, mk32_getI f hi', w32_u, app_congr 32 (fun i hi => M_mk f hi)]
    refine ⟨by omega, ⟨by omega, h⟩, mk32_isI f hi', ⟨trivial, u_range _⟩, ⟨by omega, h⟩, by omega, 32 - (i + 1), by omega, .inl ⟨i + 1, by omega, rfl, by rw [i64_in (by omega)]; rfl, ?_⟩⟩
    have := fill_set q g i (by omega)
    rw [← this]
    rfl
  · have : i = 32 := by omega
    subst this
    refine ⟨trivial, by simp [wk], ?_⟩
    rw [← hq, fill_all, hq]; rfl

def fi_S (G : Nat → List AV) (B : Nat) (vs : List AV) (H : Hp) : Option (Bool × Ex × List AV × Hp) := match vs, H with
  | [.int .u32 s, .int .i64 n, .ptr (.rw 0) 0, .ptr (.rw 1) 0, .int .i64 i], [some ⟨1, a⟩, some ⟨1, q⟩] => some (decide (i = 0) && (matOk a && Nat.beq q.length 32), .exit 4, [.int .u32 s, .int .i64 n, .ptr (.rw 0) 0, .ptr (.rw 1) 0, .undef], [some ⟨1, a⟩, some ⟨1, mk32 (sq (M a))⟩])
  | _, _ => none
theorem fi_S_ok (G : Nat → List AV) (B : Nat) (vs : List AV) (H : Hp) (e : Ex) (vs' : List AV) (H' : Hp) (h : fi_S G B vs H = some (true, e, vs', H')) :
    AWp (⟨Try.prog, G, B⟩ : Ctx) 0 (.loop (loopN Try.f11 2)) (fl 41 [0, 1, 5, 7, 8] vs) H (lv 41 [0, 1, 5, 7, 8] fun e' vs'' H'' => e' = e ∧ wk vs' vs'' ∧ H'' = H') := by
  unfold fi_S at h
  split at h
  · rename_i s n i a q
    simp only [Option.some.injEq, Prod.mk.injEq] at h
    obtain ⟨hc, rfl, rfl, rfl⟩ := h
    exact fi_loop G B s n i a q hc
  · simp at h
def fi_L (G : Nat → List AV) (B : Nat) : Loops := fun _ F H => lsum 41 [0, 1, 5, 7, 8] (fi_S G B) F H
theorem fi_ok (G : Nat → List AV) (B : Nat) : LoopOk (⟨Try.prog, G, B⟩ : Ctx) (loopN Try.f11 2) (fi_L G B) := ls_ok (fi_S_ok G B)
theorem tw_run (G : Nat → List AV) (B : Nat) (t : List AV) (Q : AV → Hp → Prop) : vc (Kn (⟨Try.prog, G, B⟩ : Ctx) noSum (tw_L G B)) 100 0 (.code (bodyOf Try.f21)) (frame0 Try.f21 [.agg t]) [] (retK (⟨Try.prog, G, B⟩ : Ctx) Try.f21 Q) = (
    chk (matOk t && true) (
    Q (.agg (List.take (32 : Nat) (List.drop (0 : Nat) (spl [AV.int IntKind.u32 (0 : Int), AV.int IntKind.u32 (0 : Int), AV.int IntKind.u32 (0 : Int), AV.int IntKind.u32 (0 : Int), AV.int IntKind.u32 (0 : Int), AV.int IntKind.u32 (0 : Int), AV.int IntKind.u32 (0 : Int), AV.int IntKind.u32 (0 : Int), AV.int IntKind.u32 (0 : Int), AV.int IntKind.u32 (0 : Int), AV.int IntKind.u32 (0 : Int), AV.int IntKind.u32 (0 : Int), AV.int IntKind.u32 (0 : Int), AV.int IntKind.u32 (0 : Int), AV.int IntKind.u32 (0 : Int), AV.int IntKind.u32 (0 : Int), AV.int IntKind.u32 (0 : Int), AV.int IntKind.u32 (0 : Int), AV.int IntKind.u32 (0 : Int), AV.int IntKind.u32 (0 : Int), AV.int IntKind.u32 (0 : Int), AV.int IntKind.u32 (0 : Int), AV.int IntKind.u32 (0 : Int), AV.int IntKind.u32 (0 : Int), AV.int IntKind.u32 (0 : Int), AV.int IntKind.u32 (0 : Int), AV.int IntKind.u32 (0 : Int), AV.int IntKind.u32 (0 : Int), AV.int IntKind.u32 (0 : Int), AV.int IntKind.u32 (0 : Int), AV.int IntKind.u32 (0 : Int), AV.int IntKind.u32 (0 : Int)] (0 : Nat) (List.take (32 : Nat) (List.drop (0 : Nat) (mk32 (sq (M t))))))))) [some ⟨1, (t)⟩, some ⟨1, (spl [AV.int IntKind.u32 (0 : Int), AV.int IntKind.u32 (0 : Int), AV.int IntKind.u32 (0 : Int), AV.int IntKind.u32 (0 : Int), AV.int IntKind.u32 (0 : Int), AV.int IntKind.u32 (0 : Int), AV.int IntKind.u32 (0 : Int), AV.int IntKind.u32 (0 : Int), AV.int IntKind.u32 (0 : Int), AV.int IntKind.u32 (0 : Int), AV.int IntKind.u32 (0 : Int), AV.int IntKind.u32 (0 : Int), AV.int IntKind.u32 (0 : Int), AV.int IntKind.u32 (0 : Int), AV.int IntKind.u32 (0 : Int), AV.int IntKind.u32 (0 : Int), AV.int IntKind.u32 (0 : Int), AV.int IntKind.u32 (0 : Int), AV.int IntKind.u32 (0 : Int), AV.int IntKind.u32 (0 : Int), AV.int IntKind.u32 (0 : Int), AV.int IntKind.u32 (0 : Int), AV.int IntKind.u32 (0 : Int), AV.int IntKind.u32 (0 : Int), AV.int IntKind.u32 (0 : Int), AV.int IntKind.u32 (0 : Int), AV.int IntKind.u32 (0 : Int), AV.int IntKind.u32 (0 : Int), AV.int IntKind.u32 (0 : Int), AV.int IntKind.u32 (0 : Int), AV.int IntKind.u32 (0 : Int), AV.int IntKind.u32 (0 : Int)] (0 : Nat) (List.take (32 : Nat) (List.drop (0 : Nat) (mk32 (sq (M t))))))⟩, some ⟨1, (mk32 (sq (M t)))⟩])) := by kernel_rfl
theorem fo_body (G : Nat → List AV) (B : Nat) (s n : Int) (a : List AV) (Q : Ex → List AV → Hp → Prop) : vc (Kn (⟨Try.prog, G, B⟩ : Ctx) (sums [(17, of_sum)]) (fi_L G B)) 200 0 (.code (loopN Try.f11 1)) (fl 41 [0, 1, 5] [.int .u32 s, .int .i64 n, .ptr (.rw 0) 0]) [some ⟨1, a⟩] (lv 41 [0, 1, 5] Q) = (
    tst (decide (n > (0 : Int))) (
      tst (n.tmod (2 : Int) == (1 : Int)) (
        chk (decide ((0 : Nat) + (32 : Nat) ≤ a.length)) (
        nam (s) (fun y1 =>
        chk (matOk (List.take (32 : Nat) a) && (decide ((0 : Int) ≤ y1) && decide (y1 < (4294967296 : Int)))) (
        nam (u (app (M (List.take (32 : Nat) a)) (32 : Nat) (w32 y1))) (fun y2 =>
        nam ((0 : Int)) (fun y3 =>
        chk (decide (y3 = (0 : Int)) && (matOk a && true)) (
        chk (decide ((0 : Nat) + (32 : Nat) ≤ a.length)) (
        nam (IntKind.i64.wrap (n.tdiv (2 : Int))) (fun y4 =>
        Q .normal [.int IntKind.u32 (y2), .int IntKind.i64 (y4), .ptr (.rw 0) 0] [some ⟨1, (spl a (0 : Nat) (List.take (32 : Nat) (List.drop (0 : Nat) (mk32 (sq (M a))))))⟩, some ⟨1, (mk32 (sq (M a)))⟩]))))))))) (
        nam ((0 : Int)) (fun y1 =>
        chk (decide (y1 = (0 : Int)) && (matOk a && true)) (
        chk (decide ((0 : Nat) + (32 : Nat) ≤ a.length)) (
        nam (IntKind.i64.wrap (n.tdiv (2 : Int))) (fun y2 =>
        Q .normal [.int IntKind.u32 (s), .int IntKind.i64 (y2), .ptr (.rw 0) 0] [some ⟨1, (spl a (0 : Nat) (List.take (32 : Nat) (List.drop (0 : Nat) (mk32 (sq (M a))))))⟩, some ⟨1, (mk32 (sq (M a)))⟩])))))) (
      Q (.exit 2) [.int IntKind.u32 (s), .int IntKind.i64 (n), .ptr (.rw 0) 0] [some ⟨1, a⟩])) := by kernel_rfl
end Go.Am
