/-
  The reference's step, bit by bit.
-/
import Derived.Test.YtddhldihemfkcaaCrcU
import Derived.Test.YtddhldihemfkcaaProg
namespace Go.Am
open Go.Proofs Crc
theorem mix (G : Nat → List AV) (B : Nat) : ((⟨Try.prog, G, B⟩ : Ctx)).P.follows .mixedOrders = true := by kernel_rfl

theorem step_body (G : Nat → List AV) (B : Nat) (s i : Int) (Q : Ex → List AV → Hp → Prop) : vc (Kl (⟨Try.prog, G, B⟩ : Ctx) noSum noLoop) 100 0 (.code (loopN Try.f16 0)) (fl 17 [0, 3] [.int .u32 s, .int .i64 i]) [] (lv 17 [0, 3] Q) = (
    tst (decide (i < (8 : Int))) (
      tst (s.tmod (2 : Int) == (1 : Int)) (
        Q .normal [.int IntKind.u32 (kXor IntKind.u32 (IntKind.u32.wrap (s.tdiv (2 : Int))) (2197175160 : Int)), .int IntKind.i64 (IntKind.i64.wrap (i + (1 : Int)))] []) (
        Q .normal [.int IntKind.u32 (IntKind.u32.wrap (s.tdiv (2 : Int))), .int IntKind.i64 (IntKind.i64.wrap (i + (1 : Int)))] [])) (
      Q (.exit 0) [.int IntKind.u32 (s), .int IntKind.i64 (i)] [])) := by kernel_rfl

def step_S (vs : List AV) (H : Hp) : Option (Bool × Ex × List AV × Hp) := match vs, H with
  | [.int .u32 s, .int .i64 i], [] => some (decide (0 ≤ s) && decide (s < 4294967296) && (i == 0), .exit 0, [.int .u32 (u (stn 8 (w32 s))), .undef], [])
  | _, _ => none

theorem step_loop (G : Nat → List AV) (B : Nat) (x : W) : AWp (⟨Try.prog, G, B⟩ : Ctx) 0 (.loop (loopN Try.f16 0)) (fl 17 [0, 3] [.int .u32 (u x), .int .i64 0]) [] (lv 17 [0, 3] fun e vs H => e = .exit 0 ∧ (∃ v, vs = [.int .u32 (u (stn 8 x)), v]) ∧ H = []) := by
  refine aloop_lv (fun k vs H => ∃ i : Nat, k = 8 - i ∧ i ≤ 8 ∧ vs = [.int .u32 (u (stn i x)), .int .i64 i] ∧ H = []) 8 ⟨0, rfl, by omega, rfl, rfl⟩ ?_
  rintro k vs H ⟨i, rfl, hi, rfl, rfl⟩
  refine wp0 (mix G B) (noSum_ok _) (noLoop_ok _ _) 100 ?_
  rw [step_body, u_tmod, u_tdiv, u_wrap]
  refine tst_mk (fun h => ?_) (fun h => ?_)
  · simp only [decide_eq_true_eq] at h
    have hi' : i < 8 := by omega
    rw [i64_in (by omega)]
    refine tst_mk (fun hb => ?_) (fun hb => ?_)
    · refine ⟨8 - (i + 1), by omega, .inl ⟨i + 1, rfl, by omega, ?_, rfl⟩⟩
      rw [kXor_w, w32_u, stn_succ, st_pos hb]; rfl
    · refine ⟨8 - (i + 1), by omega, .inl ⟨i + 1, rfl, by omega, ?_, rfl⟩⟩
      rw [stn_succ, st_neg hb]; rfl
  · simp only [decide_eq_false_iff_not] at h
    have hi' : i = 8 := by omega
    subst hi'
    exact ⟨rfl, ⟨_, rfl⟩, rfl⟩
theorem step_S_ok (G : Nat → List AV) (B : Nat) (vs : List AV) (H : Hp) (e : Ex) (vs' : List AV) (H' : Hp) (h : step_S vs H = some (true, e, vs', H')) :
    AWp (⟨Try.prog, G, B⟩ : Ctx) 0 (.loop (loopN Try.f16 0)) (fl 17 [0, 3] vs) H (lv 17 [0, 3] fun e' vs'' H'' => e' = e ∧ wk vs' vs'' ∧ H'' = H') := by
  unfold step_S at h
  split at h
  · rename_i s i
    simp only [Option.some.injEq, Prod.mk.injEq, Bool.and_eq_true, decide_eq_true_eq, beq_iff_eq] at h
    obtain ⟨⟨⟨h1, h2⟩, rfl⟩, rfl, rfl, rfl⟩ := h
    have := step_loop G B (w32 s)
    rw [u_w32 ⟨h1, h2⟩] at this
    refine AWp.lmono this ?_
    rintro e vs H ⟨rfl, ⟨v, rfl⟩, rfl⟩
    exact ⟨rfl, ⟨rfl, trivial⟩, rfl⟩
  · simp at h

def step_L : Loops := fun _ F H => lsum 17 [0, 3] step_S F H

theorem step_run (G : Nat → List AV) (B : Nat) (s : Int) (Q : AV → Hp → Prop) : vc (Kl (⟨Try.prog, G, B⟩ : Ctx) noSum step_L) 100 0 (.code (bodyOf Try.f16)) (frame0 Try.f16 [.int .u32 s]) [] (retK (⟨Try.prog, G, B⟩ : Ctx) Try.f16 Q) = (
    chk (decide ((0 : Int) ≤ s) && decide (s < (4294967296 : Int)) && true) (
    Q (.int IntKind.u32 (u (stn (8 : Nat) (w32 s)))) [])) := by kernel_rfl

theorem step_call (G : Nat → List AV) (B : Nat) (x : W) : ACalls (⟨Try.prog, G, B⟩ : Ctx) 16 [.int .u32 (u x)] [] fun v _ => v = .int .u32 (u (stn 8 x)) := by
  refine call0 (sum := noSum) (loop := step_L) (mix G B) (noSum_ok _) (f := 16) (fn := Try.f16) (c := bodyOf Try.f16) (by kernel_rfl) (by kernel_rfl) (by kernel_rfl) (.one (c := loopN Try.f16 0) (by kernel_rfl) ?_) 100 ?_
  · intro F H e F' H' h
    have h' : lsum 17 [0, 3] step_S F H = some (true, e, F', H') := h
    exact lsum_sound (step_S_ok G B) h'
  · rw [step_run, chk_iff]
    refine ⟨?_, ?_⟩
    · have := u_range x
      simp [this]
    · rw [w32_u]
end Go.Am
