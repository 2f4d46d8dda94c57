/-
  SlicesSteps: 'stands', the last loop; the whole.
-/
import Derived.Test.YtfalglcagngbnaaSlSv
namespace Go.Am
open Go.Proofs
set_option maxRecDepth 100000
def HS8 (l l1 x : EL) (lw t : EI) (c : EN) : DHp := [some ⟨1, l⟩, some ⟨1, l1⟩, some ⟨1, .of [.int .i64 lw]⟩, some ⟨1, .of [.bool (.lit false)]⟩, some ⟨1, .of [.ptr (.rw 0) (.lit 0)]⟩, some ⟨7, x⟩, some ⟨1, .of [.slice true (.rw 5) (.lit 0) c]⟩, some ⟨1, .of [.int .i64 t]⟩]
theorem st_b4 (G : Nat → List AV) (cs l1 xs : List AV) (lw t : Int) (c : Nat) (Q : Ex → List AV → Hp → Prop) (R : AV → Hp → Prop) : vT G Q R (dloop (Dr Try.prog [] [] [] [sR'] noY 2) 600 60 2 (loopN Try.f23 2) 160 [5, 6, 19, 20, 21] [.ptr (.rw 2) (.lit 0), .ptr (.rw 3) (.lit 0), .func 46 [.ptr (.rw 4) (.lit 0)], .ptr (.rw 6) (.lit 0), .ptr (.rw 7) (.lit 0)] (HS8 (.var 8 cs) (.var 9 l1) (.var 10 xs) (.var 18 lw) (.var 19 t) (.var 21 c))) = (
    (decide ((t : Int) < 2) = true →
      lnkU [.agg cs, .agg l1, .agg xs, .int .i64 (((c : Nat) : Int))] = true ∧
      (stpU [.agg cs, .int .i64 (t), .int .i64 (lw)] = true →
        (((t : Int) == 1) = true →
          (((lw : Int) == ((c : Nat) : Int)) = true →
            (!(((t : Int) == 0))) = true ∧
            Q .normal [.ptr (.rw 2) (0), .ptr (.rw 3) (0), .func 46 [.ptr (.rw 4) (0)], .ptr (.rw 6) (0), .ptr (.rw 9) (0)] [some ⟨1, cs⟩, some ⟨1, l1⟩, some ⟨1, ([.int .i64 (lw)] : List AV)⟩, some ⟨1, ([.bool (false)] : List AV)⟩, some ⟨1, ([.ptr (.rw 0) (0)] : List AV)⟩, some ⟨7, xs⟩, some ⟨1, ([.slice true (.rw 5) (0) (c)] : List AV)⟩, some ⟨1, ([.int .i64 (t)] : List AV)⟩, some ⟨1, ([.int .i64 (lw)] : List AV)⟩, some ⟨1, ([.int .i64 (IntKind.wrap .i64 (t + 1))] : List AV)⟩]) ∧
          (((lw : Int) == ((c : Nat) : Int)) = false →
            Q .ret [.ptr (.rw 2) (0), .ptr (.rw 3) (0), .func 46 [.ptr (.rw 4) (0)], .ptr (.rw 6) (0), .ptr (.rw 7) (0)] [some ⟨1, cs⟩, some ⟨1, l1⟩, some ⟨1, ([.int .i64 (lw)] : List AV)⟩, some ⟨1, ([.bool (false)] : List AV)⟩, some ⟨1, ([.ptr (.rw 0) (0)] : List AV)⟩, some ⟨7, xs⟩, some ⟨1, ([.slice true (.rw 5) (0) (c)] : List AV)⟩, some ⟨1, ([.int .i64 (t)] : List AV)⟩, some ⟨1, ([.int .i64 (lw)] : List AV)⟩])) ∧
        (((t : Int) == 1) = false →
          (((t : Int) == 0) = true →
            (((lw : Int) == ((c : Nat) : Int)) = true →
              Q .normal [.ptr (.rw 2) (0), .ptr (.rw 3) (0), .func 46 [.ptr (.rw 4) (0)], .ptr (.rw 6) (0), .ptr (.rw 9) (0)] [some ⟨1, cs⟩, some ⟨1, l1⟩, some ⟨1, ([.int .i64 (lw)] : List AV)⟩, some ⟨1, ([.bool (false)] : List AV)⟩, some ⟨1, ([.ptr (.rw 0) (0)] : List AV)⟩, some ⟨7, xs⟩, some ⟨1, ([.slice true (.rw 5) (0) (c)] : List AV)⟩, some ⟨1, ([.int .i64 (t)] : List AV)⟩, some ⟨1, ([.int .i64 (lw)] : List AV)⟩, some ⟨1, ([.int .i64 (IntKind.wrap .i64 (t + 1))] : List AV)⟩]) ∧
            (((lw : Int) == ((c : Nat) : Int)) = false →
              ((lw : Int) == lw) = true ∧
              Q .normal [.ptr (.rw 2) (0), .ptr (.rw 3) (0), .func 46 [.ptr (.rw 4) (0)], .ptr (.rw 6) (0), .ptr (.rw 9) (0)] [some ⟨1, cs⟩, some ⟨1, l1⟩, some ⟨1, ([.int .i64 (lw)] : List AV)⟩, some ⟨1, ([.bool (false)] : List AV)⟩, some ⟨1, ([.ptr (.rw 0) (0)] : List AV)⟩, some ⟨7, xs⟩, some ⟨1, ([.slice true (.rw 5) (0) (c)] : List AV)⟩, some ⟨1, ([.int .i64 (t)] : List AV)⟩, some ⟨1, ([.int .i64 (lw)] : List AV)⟩, some ⟨1, ([.int .i64 (IntKind.wrap .i64 (t + 1))] : List AV)⟩])) ∧
          (((t : Int) == 0) = false →
            Q .normal [.ptr (.rw 2) (0), .ptr (.rw 3) (0), .func 46 [.ptr (.rw 4) (0)], .ptr (.rw 6) (0), .ptr (.rw 9) (0)] [some ⟨1, cs⟩, some ⟨1, l1⟩, some ⟨1, ([.int .i64 (lw)] : List AV)⟩, some ⟨1, ([.bool (false)] : List AV)⟩, some ⟨1, ([.ptr (.rw 0) (0)] : List AV)⟩, some ⟨7, xs⟩, some ⟨1, ([.slice true (.rw 5) (0) (c)] : List AV)⟩, some ⟨1, ([.int .i64 (t)] : List AV)⟩, some ⟨1, ([.int .i64 (lw)] : List AV)⟩, some ⟨1, ([.int .i64 (IntKind.wrap .i64 (t + 1))] : List AV)⟩]))) ∧
      (stpU [.agg cs, .int .i64 (t), .int .i64 (lw)] = false →
        (((t : Int) == 1) = true →
          ((((c : Nat) : Int) : Int) == ((c : Nat) : Int)) = true ∧
          (!(((t : Int) == 0))) = true ∧
          Q .normal [.ptr (.rw 2) (0), .ptr (.rw 3) (0), .func 46 [.ptr (.rw 4) (0)], .ptr (.rw 6) (0), .ptr (.rw 9) (0)] [some ⟨1, cs⟩, some ⟨1, l1⟩, some ⟨1, ([.int .i64 (lw)] : List AV)⟩, some ⟨1, ([.bool (false)] : List AV)⟩, some ⟨1, ([.ptr (.rw 0) (0)] : List AV)⟩, some ⟨7, xs⟩, some ⟨1, ([.slice true (.rw 5) (0) (c)] : List AV)⟩, some ⟨1, ([.int .i64 (t)] : List AV)⟩, some ⟨1, ([.int .i64 (((c : Nat) : Int))] : List AV)⟩, some ⟨1, ([.int .i64 (IntKind.wrap .i64 (t + 1))] : List AV)⟩]) ∧
        (((t : Int) == 1) = false →
          (((t : Int) == 0) = true →
            ((((c : Nat) : Int) : Int) == ((c : Nat) : Int)) = true ∧
            Q .normal [.ptr (.rw 2) (0), .ptr (.rw 3) (0), .func 46 [.ptr (.rw 4) (0)], .ptr (.rw 6) (0), .ptr (.rw 9) (0)] [some ⟨1, cs⟩, some ⟨1, l1⟩, some ⟨1, ([.int .i64 (lw)] : List AV)⟩, some ⟨1, ([.bool (false)] : List AV)⟩, some ⟨1, ([.ptr (.rw 0) (0)] : List AV)⟩, some ⟨7, xs⟩, some ⟨1, ([.slice true (.rw 5) (0) (c)] : List AV)⟩, some ⟨1, ([.int .i64 (t)] : List AV)⟩, some ⟨1, ([.int .i64 (((c : Nat) : Int))] : List AV)⟩, some ⟨1, ([.int .i64 (IntKind.wrap .i64 (t + 1))] : List AV)⟩]) ∧
          (((t : Int) == 0) = false →
            Q .normal [.ptr (.rw 2) (0), .ptr (.rw 3) (0), .func 46 [.ptr (.rw 4) (0)], .ptr (.rw 6) (0), .ptr (.rw 9) (0)] [some ⟨1, cs⟩, some ⟨1, l1⟩, some ⟨1, ([.int .i64 (lw)] : List AV)⟩, some ⟨1, ([.bool (false)] : List AV)⟩, some ⟨1, ([.ptr (.rw 0) (0)] : List AV)⟩, some ⟨7, xs⟩, some ⟨1, ([.slice true (.rw 5) (0) (c)] : List AV)⟩, some ⟨1, ([.int .i64 (t)] : List AV)⟩, some ⟨1, ([.int .i64 (((c : Nat) : Int))] : List AV)⟩, some ⟨1, ([.int .i64 (IntKind.wrap .i64 (t + 1))] : List AV)⟩])))) ∧
    (decide ((t : Int) < 2) = false →
      Q (.exit 4) [.ptr (.rw 2) (0), .ptr (.rw 3) (0), .func 46 [.ptr (.rw 4) (0)], .ptr (.rw 6) (0), .ptr (.rw 7) (0)] [some ⟨1, cs⟩, some ⟨1, l1⟩, some ⟨1, ([.int .i64 (lw)] : List AV)⟩, some ⟨1, ([.bool (false)] : List AV)⟩, some ⟨1, ([.ptr (.rw 0) (0)] : List AV)⟩, some ⟨7, xs⟩, some ⟨1, ([.slice true (.rw 5) (0) (c)] : List AV)⟩, some ⟨1, ([.int .i64 (t)] : List AV)⟩])) := by kernel_rfl
theorem dgT4 (G : Nat → List AV) (B : Nat) : DGood (⟨Try.prog, G, B⟩ : Ctx) (Dr Try.prog [] [] [] [sR'] noY 2) (loopsOf (loopN Try.f23 2)) := by
  rw [show loopsOf (loopN Try.f23 2) = [loopN Try.f23 3] by kernel_rfl]
  exact dgoodr (mix G B) (by kernel_rfl) .nil (.skip (by kernel_rfl) .nil) (.cons (i := 114) (by kernel_rfl) rfl (sR_ok G B) .nil) noY_ok
def HA8 (cs : List AV) (lw t : Int) : Hp := [some ⟨1, cs⟩, some ⟨1, tlU [.agg cs]⟩, some ⟨1, [.int .i64 lw]⟩, some ⟨1, [.bool false]⟩, some ⟨1, [.ptr (.rw 0) 0]⟩, some ⟨7, allC cs (opens' cs 32)⟩, some ⟨1, [.slice true (.rw 5) 0 (opens' cs 32).length]⟩, some ⟨1, [.int .i64 t]⟩]
theorem st4_view {cs : List AV} (hs : okS cs = true) (lw t u : Int) (b : Option Blk) : View 2 [.ptr (.rw 2) 0, .ptr (.rw 3) 0, .func 46 [.ptr (.rw 4) 0], .ptr (.rw 6) 0, .ptr (.rw 7) 0] (HA8 cs lw t) [.ptr (.rw 2) 0, .ptr (.rw 3) 0, .func 46 [.ptr (.rw 4) 0], .ptr (.rw 6) 0, .ptr (.rw 9) 0] (HA8 cs lw u ++ [b, some ⟨1, [.int .i64 t]⟩]) := by
  have f1 := okS_flat hs 0
  have f2 : bnds 0 (tlU [.agg cs]) = true := tl_flat hs
  have f3 := allC_flat hs (opens' cs 32)
  refine View.renM (θ := [0, 1, 2, 3, 4, 5, 6, 9]) (by simp [HA8]) (fixes2' rfl rfl) (by decide) ?_ (by simp [HA8, bnds, bnd]) (by simp [rens, ren, wk, List.getD])
  refine ⟨⟨m_of f1, by rw [rens_flat _ _ f1]; rfl⟩, ⟨m_of f2, by rw [rens_flat _ _ f2]; rfl⟩, ⟨by simp [HA8, bnds, bnd], rfl⟩, ⟨by simp [HA8, bnds, bnd], rfl⟩, ⟨by simp [HA8, bnds, bnd], rfl⟩, ⟨m_of f3, by rw [rens_flat _ _ f3]; rfl⟩, ⟨by simp [HA8, bnds, bnd], rfl⟩, ⟨by simp [HA8, bnds, bnd], rfl⟩, trivial⟩
theorem st_loop4 (G : Nat → List AV) (B : Nat) (cs : List AV) (hs : okS cs = true) (lw : Int) :
    AWp (⟨Try.prog, G, B⟩ : Ctx) 2 (.loop (loopN Try.f23 2)) (fl 160 [5, 6, 19, 20, 21] [.ptr (.rw 2) 0, .ptr (.rw 3) 0, .func 46 [.ptr (.rw 4) 0], .ptr (.rw 6) 0, .ptr (.rw 7) 0]) (HA8 cs lw 0)
      (lv 160 [5, 6, 19, 20, 21] fun e vs H => e = .exit 4 ∧ wk [.ptr (.rw 2) 0, .ptr (.rw 3) 0, .undef, .undef, .undef] vs ∧ H = HA8 cs lw 2) := by
  refine aloop_lv (fun j vs H => ∃ i : Nat, i ≤ 2 ∧ j = 2 - i ∧ vs = [.ptr (.rw 2) 0, .ptr (.rw 3) 0, .func 46 [.ptr (.rw 4) 0], .ptr (.rw 6) 0, .ptr (.rw 7) 0] ∧ H = HA8 cs lw (i : Int)) 2 ⟨0, by omega, rfl, rfl, rfl⟩ ?_
  rintro j vs H ⟨i, hi, rfl, rfl, rfl⟩
  refine dloop_ok (C := (⟨Try.prog, G, B⟩ : Ctx)) (dgT4 G B) (fuel := 600) (n0 := 60) (m := 2) (c := loopN Try.f23 2) (vs := [.ptr (.rw 2) (.lit 0), .ptr (.rw 3) (.lit 0), .func 46 [.ptr (.rw 4) (.lit 0)], .ptr (.rw 6) (.lit 0), .ptr (.rw 7) (.lit 0)]) (H := HS8 (.var 8 cs) (.var 9 (tlU [.agg cs])) (.var 10 (allC cs (opens' cs 32))) (.var 18 lw) (.var 19 (i : Int)) (.var 21 (opens' cs 32).length)) (by simp [HS8]) ?_
  rw [st_b4]
  have nx : i < 2 → ∀ n : Int, ∃ k', k' < 2 - i ∧ ((∃ i' : Nat, i' ≤ 2 ∧ k' = 2 - i' ∧ [AV.ptr (.rw 2) 0, .ptr (.rw 3) 0, .func 46 [.ptr (.rw 4) 0], .ptr (.rw 6) 0, .ptr (.rw 9) 0] = [.ptr (.rw 2) 0, .ptr (.rw 3) 0, .func 46 [.ptr (.rw 4) 0], .ptr (.rw 6) 0, .ptr (.rw 7) 0] ∧ (HA8 cs lw (i : Int) ++ [some ⟨1, [.int .i64 n]⟩, some ⟨1, [.int .i64 (IntKind.wrap .i64 ((i : Int) + 1))]⟩] : Hp) = HA8 cs lw (i' : Int)) ∨
      ∃ vs'' H'', (∃ i' : Nat, i' ≤ 2 ∧ k' = 2 - i' ∧ vs'' = [.ptr (.rw 2) 0, .ptr (.rw 3) 0, .func 46 [.ptr (.rw 4) 0], .ptr (.rw 6) 0, .ptr (.rw 7) 0] ∧ H'' = HA8 cs lw (i' : Int)) ∧ View 2 vs'' H'' [AV.ptr (.rw 2) 0, .ptr (.rw 3) 0, .func 46 [.ptr (.rw 4) 0], .ptr (.rw 6) 0, .ptr (.rw 9) 0] (HA8 cs lw (i : Int) ++ [some ⟨1, [.int .i64 n]⟩, some ⟨1, [.int .i64 (IntKind.wrap .i64 ((i : Int) + 1))]⟩])) := fun h n =>
    ⟨2 - (i + 1), by omega, .inr ⟨[.ptr (.rw 2) 0, .ptr (.rw 3) 0, .func 46 [.ptr (.rw 4) 0], .ptr (.rw 6) 0, .ptr (.rw 7) 0], HA8 cs lw ((i + 1 : Nat) : Int), ⟨i + 1, by omega, rfl, rfl, rfl⟩, by
      rw [i64_in (by omega)]
      exact st4_view hs lw ((i + 1 : Nat) : Int) (i : Int) _⟩⟩
  refine ⟨fun h => ?_, fun h => ⟨rfl, by simp [wk], ?_⟩⟩
  · have h2 := of_decide_eq_true h
    have nx := nx (by omega)
    have ht : i = 0 ∨ i = 1 := by omega
    refine ⟨lnk_ok hs, fun hp => ⟨fun h1 => ?_, fun h1 => ⟨fun h0 => ⟨fun _ => nx lw, fun _ => ⟨by simp, nx lw⟩⟩, fun h0 => nx lw⟩⟩, fun hp => ⟨fun h1 => ⟨by simp, ?_, nx _⟩, fun h1 => ⟨fun h0 => ⟨by simp, nx _⟩, fun h0 => nx _⟩⟩⟩
    · have hp' : stpB cs (i : Int) lw = true := hp
      have := of_decide_eq_true hp'
      have h1' : (i : Int) = 1 := by simpa using h1
      omega
    · have h1' : (i : Int) = 1 := by simpa using h1
      rw [h1']; rfl
  · have := of_decide_eq_false h
    have e : i = 2 := by omega
    subst e; rfl
def stL4 : DL := ⟨4, 160, [5, 6, 19, 20, 21], fun vs H => match vs, H with
  | [.ptr (.rw 2) (.lit 0), .ptr (.rw 3) (.lit 0), .func 46 [.ptr (.rw 4) (.lit 0)], .ptr (.rw 6) (.lit 0), .ptr (.rw 7) (.lit 0)], [some ⟨1, l⟩, some ⟨1, l1⟩, some ⟨1, .of [.int .i64 lw]⟩, some ⟨1, .of [.bool (.lit false)]⟩, some ⟨1, .of [.ptr (.rw 0) (.lit 0)]⟩, some ⟨7, x⟩, some ⟨1, .of [.slice true (.rw 5) (.lit 0) c]⟩, some ⟨1, .of [.int .i64 (.lit 0)]⟩] =>
    some (.chk (.uf 1535 lnkU [.agg l, .agg l1, .agg x, .int .i64 (.ofN c)]) (.one (.exit 4) [.ptr (.rw 2) (.lit 0), .ptr (.rw 3) (.lit 0), .undef, .undef, .undef] (HS8 l l1 x lw (.lit 2) c)))
  | _, _ => none⟩
theorem stL4_ok (G : Nat → List AV) (B : Nat) : DLoopOk (⟨Try.prog, G, B⟩ : Ctx) 2 (loopN Try.f23 2) stL4 := by
  refine .of fun vs H o ho n Q hQ => ?_
  simp only [stL4] at ho
  split at ho
  · rename_i l l1 lw x c
    simp only [Option.some.injEq] at ho
    subst ho
    obtain ⟨h1, h2⟩ := hQ
    obtain ⟨g1, g2, g3, g4⟩ := lnk_iff (cs := vL G l) (l1 := vL G l1) (x := vL G x) (c := vN G c) h1
    have key := st_loop4 G B (vL G l) g1 (vI G lw)
    unfold HA8 at key
    rw [← g2, ← g3, ← g4] at key
    simp only [stL4, vVs, vV, vR, vN, vI, vB, vHp, List.map_cons, List.map_nil, Option.map_some, vBlk, vL]
    refine key.lmono ?_
    rintro e vs'' H'' ⟨rfl, q, rfl⟩
    exact .inl ⟨_, q, h2⟩
  · simp at ho
/-- the two tables -/
def lnk0U : List AV → Bool := fun ys => match ys with
  | [.agg cs, .agg l1] => okDU [.agg cs] && samCs l1 (tl cs)
  | _ => false
theorem lnk0_iff {cs l1 : List AV} (h : lnk0U [.agg cs, .agg l1] = true) : okD cs 1000000 ∧ l1 = tlU [.agg cs] := by
  simp only [lnk0U, Bool.and_eq_true] at h
  exact ⟨okDU_iff.1 h.1, samCs_eq h.2⟩
def stL0 : DL := ⟨0, 160, [0, 1, 5, 6, 7], fun vs H => match vs, H with
  | [.ptr (.rw 0) (.lit 0), .ptr (.rw 1) (.lit 0), .ptr (.rw 2) (.lit 0), .ptr (.rw 3) (.lit 0), .int .i64 z], [some ⟨1, l⟩, some ⟨1, l1⟩, some ⟨1, .of [.int .i64 lw]⟩, some ⟨1, .of [.bool (.lit false)]⟩] =>
    some (.chk (.cmp .eql z (.lit (-1))) (.chk (.uf 1537 lnk0U [.agg l, .agg l1]) (.one (.exit 0) [.ptr (.rw 0) (.lit 0), .ptr (.rw 1) (.lit 0), .ptr (.rw 2) (.lit 0), .ptr (.rw 3) (.lit 0), .undef] [some ⟨1, l⟩, some ⟨1, l1⟩, some ⟨1, .of [.int .i64 lw]⟩, some ⟨1, .of [.bool (.lit false)]⟩])))
  | _, _ => none⟩
theorem stL0_ok (G : Nat → List AV) (B : Nat) : DLoopOk (⟨Try.prog, G, B⟩ : Ctx) 2 (loopN Try.f23 0) stL0 := by
  refine .of fun vs H o ho n Q hQ => ?_
  simp only [stL0] at ho
  split at ho
  · rename_i z l l1 lw
    simp only [Option.some.injEq] at ho
    subst ho
    obtain ⟨h0, h1, h2⟩ := hQ
    obtain ⟨g1, g2⟩ := lnk0_iff (cs := vL G l) (l1 := vL G l1) h1
    have hz : vI G z = -1 := by simpa [vB, cmpI, vI] using h0
    refine lone ?_ h2
    have key := st_loop0 G B (vL G l) (okT_iff.1 g1.1.1).1 (vI G lw)
    rw [← g2] at key
    simp only [stL0, vVs, vV, vR, vN, vI, vB, vHp, List.map_cons, List.map_nil, Option.map_some, vBlk, vL]
    rw [hz]
    exact key
  · simp at ho
def stL2 : DL := ⟨2, 160, [0, 1, 5, 6, 18], fun vs H => match vs, H with
  | [.ptr (.rw 0) (.lit 0), .ptr (.rw 1) (.lit 0), .ptr (.rw 2) (.lit 0), .ptr (.rw 3) (.lit 0), .int .i64 z], [some ⟨1, l⟩, some ⟨1, l1⟩, some ⟨1, .of [.int .i64 lw]⟩, some ⟨1, .of [.bool (.lit false)]⟩] =>
    some (.chk (.cmp .eql z (.lit (-1))) (.chk (.uf 1537 lnk0U [.agg l, .agg l1]) (.one (.exit 2) [.ptr (.rw 0) (.lit 0), .ptr (.rw 1) (.lit 0), .ptr (.rw 2) (.lit 0), .ptr (.rw 3) (.lit 0), .undef] [some ⟨1, l⟩, some ⟨1, l1⟩, some ⟨1, .of [.int .i64 lw]⟩, some ⟨1, .of [.bool (.lit false)]⟩])))
  | _, _ => none⟩
theorem stL2_ok (G : Nat → List AV) (B : Nat) : DLoopOk (⟨Try.prog, G, B⟩ : Ctx) 2 (loopN Try.f23 1) stL2 := by
  refine .of fun vs H o ho n Q hQ => ?_
  simp only [stL2] at ho
  split at ho
  · rename_i z l l1 lw
    simp only [Option.some.injEq] at ho
    subst ho
    obtain ⟨h0, h1, h2⟩ := hQ
    obtain ⟨g1, g2⟩ := lnk0_iff (cs := vL G l) (l1 := vL G l1) h1
    have hz : vI G z = -1 := by simpa [vB, cmpI, vI] using h0
    refine lone ?_ h2
    have key := st_loop2 G B (vL G l) g1 (vI G lw)
    rw [← g2] at key
    simp only [stL2, vVs, vV, vR, vN, vI, vB, vHp, List.map_cons, List.map_nil, Option.map_some, vBlk, vL]
    rw [hz]
    exact key
  · simp at ho
theorem dg23 (G : Nat → List AV) (B : Nat) : DGood (⟨Try.prog, G, B⟩ : Ctx) (Dr Try.prog [43] progQ [stL0, stL2, stL4] [] noY 2) (loopsOf (bodyOf Try.f23)) := by
  rw [show loopsOf (bodyOf Try.f23) = [loopN Try.f23 0, loopN Try.f23 1, loopN Try.f23 2, loopN Try.f23 3] by kernel_rfl]
  exact dgoodr (mix G B) (by kernel_rfl) (progQ_ok G B) (.cons (i := 0) (by kernel_rfl) rfl (stL0_ok G B) (.cons (i := 2) (by kernel_rfl) rfl (stL2_ok G B) (.cons (i := 4) (by kernel_rfl) rfl (stL4_ok G B) (.skip (by kernel_rfl) .nil)))) .none noY_ok
theorem t23 (G : Nat → List AV) (cs : List AV) (lw : Int) (Q : Ex → List AV → Hp → Prop) (R : AV → Hp → Prop) : vT G Q R (dcall (Dr Try.prog [43] progQ [stL0, stL2, stL4] [] noY 2) 900 20 Try.f23 [.ptr (.rw 0) (.lit 0), .ptr (.rw 1) (.lit 0), .int .i64 (.var 18 lw)] [some ⟨1, .var 8 cs⟩, some ⟨1, .uf 1501 tlU [.agg (.var 8 cs)]⟩] 2) = (
    (((-1) : Int) == (-1)) = true ∧
    lnk0U [.agg cs, .agg (tlU [.agg cs])] = true ∧
    okSU [.agg cs] = true ∧
    okDU [.agg (([.bool (true)] : List AV) ++ (tlU [.agg cs]))] = true ∧
    (((wS32 [.agg cs] : Int) == wS32 [.agg (([.bool (true)] : List AV) ++ (tlU [.agg cs]))]) = true →
      (((wT32 [.agg cs] : Int) == wT32 [.agg (([.bool (true)] : List AV) ++ (tlU [.agg cs]))]) = true →
        (wO32 [.agg cs] = true →
          (wO32 [.agg (([.bool (true)] : List AV) ++ (tlU [.agg cs]))] = true →
            okSU [.agg cs] = true ∧
            isI .i64 (tlU [.agg cs]) (256) = true ∧
            (((tickU [.agg cs] : Int) == getI (tlU [.agg cs]) (256)) = true →
              (((-1) : Int) == (-1)) = true ∧
              lnk0U [.agg cs, .agg (tlU [.agg cs])] = true ∧
              okSU [.agg (([.bool (true)] : List AV) ++ (tlU [.agg cs]))] = true ∧
              lnkU [.agg cs, .agg (tlU [.agg cs]), .agg (allU [.agg (([.bool (true)] : List AV) ++ (tlU [.agg cs]))]), .int .i64 (((cntU [.agg (([.bool (true)] : List AV) ++ (tlU [.agg cs]))] : Nat) : Int))] = true ∧
              R (.bool (true)) [some ⟨1, cs⟩, some ⟨1, (tlU [.agg cs])⟩]) ∧
            (((tickU [.agg cs] : Int) == getI (tlU [.agg cs]) (256)) = false →
              R (.bool (false)) [some ⟨1, cs⟩, some ⟨1, (tlU [.agg cs])⟩])) ∧
          (wO32 [.agg (([.bool (true)] : List AV) ++ (tlU [.agg cs]))] = false →
            R (.bool (false)) [some ⟨1, cs⟩, some ⟨1, (tlU [.agg cs])⟩])) ∧
        (wO32 [.agg cs] = false →
          (wO32 [.agg (([.bool (true)] : List AV) ++ (tlU [.agg cs]))] = true →
            R (.bool (false)) [some ⟨1, cs⟩, some ⟨1, (tlU [.agg cs])⟩]) ∧
          (wO32 [.agg (([.bool (true)] : List AV) ++ (tlU [.agg cs]))] = false →
            okSU [.agg cs] = true ∧
            isI .i64 (tlU [.agg cs]) (256) = true ∧
            (((tickU [.agg cs] : Int) == getI (tlU [.agg cs]) (256)) = true →
              (((-1) : Int) == (-1)) = true ∧
              lnk0U [.agg cs, .agg (tlU [.agg cs])] = true ∧
              okSU [.agg (([.bool (true)] : List AV) ++ (tlU [.agg cs]))] = true ∧
              lnkU [.agg cs, .agg (tlU [.agg cs]), .agg (allU [.agg (([.bool (true)] : List AV) ++ (tlU [.agg cs]))]), .int .i64 (((cntU [.agg (([.bool (true)] : List AV) ++ (tlU [.agg cs]))] : Nat) : Int))] = true ∧
              R (.bool (true)) [some ⟨1, cs⟩, some ⟨1, (tlU [.agg cs])⟩]) ∧
            (((tickU [.agg cs] : Int) == getI (tlU [.agg cs]) (256)) = false →
              R (.bool (false)) [some ⟨1, cs⟩, some ⟨1, (tlU [.agg cs])⟩])))) ∧
      (((wT32 [.agg cs] : Int) == wT32 [.agg (([.bool (true)] : List AV) ++ (tlU [.agg cs]))]) = false →
        R (.bool (false)) [some ⟨1, cs⟩, some ⟨1, (tlU [.agg cs])⟩])) ∧
    (((wS32 [.agg cs] : Int) == wS32 [.agg (([.bool (true)] : List AV) ++ (tlU [.agg cs]))]) = false →
      R (.bool (false)) [some ⟨1, cs⟩, some ⟨1, (tlU [.agg cs])⟩])) := by kernel_rfl
end Go.Am
