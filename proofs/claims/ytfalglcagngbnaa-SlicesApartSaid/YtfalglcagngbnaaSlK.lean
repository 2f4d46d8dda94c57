/-
  SlicesApart: the loops' summaries and the run.
-/
import Derived.Test.YtfalglcagngbnaaSlJ
namespace Go.Am
open Go.Proofs
set_option maxRecDepth 100000
def c0U : List AV → Bool := fun xs => match xs with
  | [.agg cs] => okS cs && ((List.range 32).all (fun i => !getB cs (i + 1)) && (List.range 225).all fun k => getI cs (k + 33) == 0)
  | _ => false
theorem cells0_get (i : Nat) : cells0[i]? = if i = 0 then some (.bool true) else if i < 33 then some (.bool false) else if i < 258 then some (.int .i64 0) else none := by
  unfold cells0
  match i with
  | 0 => rfl
  | i + 1 =>
    rw [List.getElem?_cons_succ, if_neg (by omega)]
    by_cases h : i < 32
    · rw [List.getElem?_append_left (by simpa using h), if_pos (by omega), List.getElem?_replicate, if_pos h]
    · rw [List.getElem?_append_right (by simp; omega), if_neg (by omega), List.getElem?_replicate, List.length_replicate]
      by_cases h2 : i - 32 < 225
      · rw [if_pos h2, if_pos (by omega)]
      · rw [if_neg h2, if_neg (by omega)]
theorem c0_eq {cs : List AV} (h : c0U [.agg cs] = true) : cs = cells0 := by
  simp only [c0U, Bool.and_eq_true, List.all_eq_true, List.mem_range, Bool.not_eq_true', beq_iff_eq] at h
  obtain ⟨hs, hb, hi⟩ := h
  apply List.ext_getElem?
  intro i
  rw [cells0_get]
  have cellB : ∀ {i : Nat} {b : Bool}, isB cs i = true → getB cs i = b → cs[i]? = some (.bool b) := fun {i b} h1 h2 => by
    unfold isB at h1
    unfold getB at h2
    cases hc : cs[i]? with
    | none => rw [hc] at h1; simp at h1
    | some v => rw [hc] at h1 h2; cases v <;> simp_all
  by_cases h0 : i = 0
  · subst h0; rw [if_pos rfl]; exact cellB (okS_0 hs) (okS_made hs)
  · rw [if_neg h0]
    by_cases h1 : i < 33
    · rw [if_pos h1]
      have e1 := okS_open hs (i := i - 1) (by omega)
      have e2 := hb (i - 1) (by omega)
      rw [show i - 1 + 1 = i by omega] at e1 e2
      exact cellB e1 e2
    · rw [if_neg h1]
      by_cases h2 : i < 258
      · rw [if_pos h2, isI_cell (okS_isF hs (by omega) h2)]
        have := hi (i - 33) (by omega)
        rw [show i - 33 + 33 = i by omega] at this
        rw [this]
      · rw [if_neg h2, List.getElem?_eq_none (by rw [okS_len hs]; omega)]
def apL0 : DL := ⟨0, 167, [0, 1, 5, 6, 7], fun vs H => match vs, H with
  | [.slice true (.ro k) (.lit 0) n, .slice true (.ro k2) (.lit 0) n2, .ptr (.rw 0) (.lit 0), .ptr (.rw 1) (.lit 0), .int .i64 (.lit 0)], [some ⟨1, l⟩, some ⟨1, l2⟩] =>
    some (.chk (.uf 1316 c0U [.agg l]) (.chk (.uf 1316 c0U [.agg l2]) (.allL fun x => .allL fun y => .imp (.uf 1317 JaU [.agg x, .agg y]) (.one (.exit 0) [.slice true (.ro k) (.lit 0) n, .slice true (.ro k2) (.lit 0) n2, .ptr (.rw 0) (.lit 0), .ptr (.rw 1) (.lit 0), .undef] [some ⟨1, x⟩, some ⟨1, y⟩]))))
  | _, _ => none⟩
theorem apL0_ok (G : Nat → List AV) (B : Nat) : DLoopOk (⟨Try.prog, G, B⟩ : Ctx) 0 (loopN Try.f5 0) apL0 := by
  refine .of fun vs H o ho n Q hQ => ?_
  simp only [apL0] at ho
  split at ho
  · rename_i k m k2 m2 l l2
    simp only [Option.some.injEq] at ho
    subst ho
    obtain ⟨h1, h2, h3⟩ := hQ
    simp only [vB, vVs, vV] at h1 h2
    simp only [apL0, vVs, vV, vR, vN, vI, vHp, List.map_cons, List.map_nil, Option.map_some, vBlk]
    rw [c0_eq h1, c0_eq h2]
    refine (ap_loop0 G B _ _ _ _).lmono ?_
    rintro e vs'' H'' ⟨rfl, g2, rfl⟩
    refine .inl ⟨_, g2, ?_⟩
    have := h3 (opTab 8) (opTab 8) opTab_Ja
    simp only [lHolds, vVs, vV, vR, vN, vI, vL, vHp, List.map_cons, List.map_nil, Option.map_some, vBlk] at this
    exact this
  · simp at ho
def apL2 : DL := ⟨2, 167, [0, 1, 5, 6, 8], fun vs H => match vs, H with
  | [.slice true (.ro k) (.lit 0) n, .slice true (.ro k2) (.lit 0) n2, .ptr (.rw 0) (.lit 0), .ptr (.rw 1) (.lit 0), .int .i64 (.lit 0)], [some ⟨1, l⟩, some ⟨1, l2⟩] =>
    some (.chk (.uf 1318 stepsT2 [.agg (.ro k), .ptr (.rw 0) n]) (.chk (.uf 1318 stepsT2 [.agg (.ro k2), .ptr (.rw 0) n2]) (.chk (.uf 1317 JaU [.agg l, .agg l2]) (.allL fun k => .allL fun k2 => .imp (.uf 1317 JaU [.agg k, .agg k2]) (.one (.exit 2) [.undef, .undef, .ptr (.rw 0) (.lit 0), .ptr (.rw 1) (.lit 0), .undef] [some ⟨1, k⟩, some ⟨1, k2⟩])))))
  | _, _ => none⟩
theorem apL2_ok (G : Nat → List AV) (B : Nat) : DLoopOk (⟨Try.prog, G, B⟩ : Ctx) 0 (loopN Try.f5 1) apL2 := by
  refine .of fun vs H o ho n Q hQ => ?_
  simp only [apL2] at ho
  split at ho
  · rename_i k m k2 m2 l l2
    simp only [Option.some.injEq] at ho
    subst ho
    obtain ⟨h1, h2, h3, h4⟩ := hQ
    simp only [vB, vVs, vV, vL, vR, vN, stepsT2] at h1 h2
    simp only [vB, vVs, vV, JaU, decide_eq_true_eq] at h3
    simp only [apL2, vVs, vV, vR, vN, vI, vHp, List.map_cons, List.map_nil, Option.map_some, vBlk]
    refine (ap_loop2 G B _ _ h3 _ _ _ _ h1 h2).lmono ?_
    rintro e vs'' H'' ⟨rfl, g2, cs, ds, g3, rfl⟩
    refine .inl ⟨_, g2, ?_⟩
    have := h4 cs ds (by simp only [vB, vVs, vV, vL, JaU, decide_eq_true_eq]; exact g3)
    simp only [lHolds, vVs, vV, vR, vN, vI, vL, vHp, List.map_cons, List.map_nil, Option.map_some, vBlk] at this
    exact this
  · simp at ho
def apL6 : DL := ⟨6, 167, [5, 6, 15], fun vs H => match vs, H with
  | [.ptr (.rw 0) (.lit 0), .ptr (.rw 1) (.lit 0), .int .i64 (.lit 0)], [some ⟨1, l⟩, some ⟨1, l2⟩] =>
    some (.chk (.uf 1317 JaU [.agg l, .agg l2]) (.one (.exit 6) [.undef, .undef, .undef] [some ⟨1, l⟩, some ⟨1, l2⟩]))
  | _, _ => none⟩
theorem apL6_ok (G : Nat → List AV) (B : Nat) : DLoopOk (⟨Try.prog, G, B⟩ : Ctx) 0 (loopN Try.f5 2) apL6 := by
  refine .of fun vs H o ho n Q hQ => ?_
  simp only [apL6] at ho
  split at ho
  · rename_i l l2
    simp only [Option.some.injEq] at ho
    subst ho
    obtain ⟨h1, h2⟩ := hQ
    simp only [vB, vVs, vV, JaU, decide_eq_true_eq] at h1
    simp only [apL6, vVs, vV, vR, vN, vI, vHp, List.map_cons, List.map_nil, Option.map_some, vBlk]
    refine (ap_loop6 G B _ _ h1).lmono ?_
    rintro e vs'' H'' ⟨rfl, g2, rfl⟩
    refine .inl ⟨_, g2, ?_⟩
    simp only [lHolds, vVs, vV, vR, vN, vI, vL, vHp, List.map_cons, List.map_nil, Option.map_some, vBlk] at h2
    exact h2
  · simp at ho
theorem dgAp (G : Nat → List AV) (B : Nat) : DGood (⟨Try.prog, G, B⟩ : Ctx) (Dc Try.prog [9, 16] progT [apL0, apL2, apL6] 0) (loopsOf (bodyOf Try.f5)) := dgood (mix G B) (by kernel_rfl) (progT_ok G B) (.cast (.cons (i := 0) (by kernel_rfl) rfl (apL0_ok G B) (.cons (i := 2) (by kernel_rfl) rfl (apL2_ok G B) (.cons (i := 6) (by kernel_rfl) rfl (apL6_ok G B) .nil))) (by kernel_rfl))
theorem ap_run (G : Nat → List AV) (k n k2 n2 : Nat) (Q : Ex → List AV → Hp → Prop) (R : AV → Hp → Prop) : vT G Q R (dlaw (Dc Try.prog [9, 16] progT [apL0, apL2, apL6] 0) 400 20 Try.f5 [.slice true (.ro (.var 1 k)) (.lit 0) (.var 2 n), .slice true (.ro (.var 3 k2)) (.lit 0) (.var 4 n2)] []) = (
    c0U [.agg ([.bool (true), .bool (false), .bool (false), .bool (false), .bool (false), .bool (false), .bool (false), .bool (false), .bool (false), .bool (false), .bool (false), .bool (false), .bool (false), .bool (false), .bool (false), .bool (false), .bool (false), .bool (false), .bool (false), .bool (false), .bool (false), .bool (false), .bool (false), .bool (false), .bool (false), .bool (false), .bool (false), .bool (false), .bool (false), .bool (false), .bool (false), .bool (false), .bool (false), .int .i64 (0), .int .i64 (0), .int .i64 (0), .int .i64 (0), .int .i64 (0), .int .i64 (0), .int .i64 (0), .int .i64 (0), .int .i64 (0), .int .i64 (0), .int .i64 (0), .int .i64 (0), .int .i64 (0), .int .i64 (0), .int .i64 (0), .int .i64 (0), .int .i64 (0), .int .i64 (0), .int .i64 (0), .int .i64 (0), .int .i64 (0), .int .i64 (0), .int .i64 (0), .int .i64 (0), .int .i64 (0), .int .i64 (0), .int .i64 (0), .int .i64 (0), .int .i64 (0), .int .i64 (0), .int .i64 (0), .int .i64 (0), .int .i64 (0), .int .i64 (0), .int .i64 (0), .int .i64 (0), .int .i64 (0), .int .i64 (0), .int .i64 (0), .int .i64 (0), .int .i64 (0), .int .i64 (0), .int .i64 (0), .int .i64 (0), .int .i64 (0), .int .i64 (0), .int .i64 (0), .int .i64 (0), .int .i64 (0), .int .i64 (0), .int .i64 (0), .int .i64 (0), .int .i64 (0), .int .i64 (0), .int .i64 (0), .int .i64 (0), .int .i64 (0), .int .i64 (0), .int .i64 (0), .int .i64 (0), .int .i64 (0), .int .i64 (0), .int .i64 (0), .int .i64 (0), .int .i64 (0), .int .i64 (0), .int .i64 (0), .int .i64 (0), .int .i64 (0), .int .i64 (0), .int .i64 (0), .int .i64 (0), .int .i64 (0), .int .i64 (0), .int .i64 (0), .int .i64 (0), .int .i64 (0), .int .i64 (0), .int .i64 (0), .int .i64 (0), .int .i64 (0), .int .i64 (0), .int .i64 (0), .int .i64 (0), .int .i64 (0), .int .i64 (0), .int .i64 (0), .int .i64 (0), .int .i64 (0), .int .i64 (0), .int .i64 (0), .int .i64 (0), .int .i64 (0), .int .i64 (0), .int .i64 (0), .int .i64 (0), .int .i64 (0), .int .i64 (0), .int .i64 (0), .int .i64 (0), .int .i64 (0), .int .i64 (0), .int .i64 (0), .int .i64 (0), .int .i64 (0), .int .i64 (0), .int .i64 (0), .int .i64 (0), .int .i64 (0), .int .i64 (0), .int .i64 (0), .int .i64 (0), .int .i64 (0), .int .i64 (0), .int .i64 (0), .int .i64 (0), .int .i64 (0), .int .i64 (0), .int .i64 (0), .int .i64 (0), .int .i64 (0), .int .i64 (0), .int .i64 (0), .int .i64 (0), .int .i64 (0), .int .i64 (0), .int .i64 (0), .int .i64 (0), .int .i64 (0), .int .i64 (0), .int .i64 (0), .int .i64 (0), .int .i64 (0), .int .i64 (0), .int .i64 (0), .int .i64 (0), .int .i64 (0), .int .i64 (0), .int .i64 (0), .int .i64 (0), .int .i64 (0), .int .i64 (0), .int .i64 (0), .int .i64 (0), .int .i64 (0), .int .i64 (0), .int .i64 (0), .int .i64 (0), .int .i64 (0), .int .i64 (0), .int .i64 (0), .int .i64 (0), .int .i64 (0), .int .i64 (0), .int .i64 (0), .int .i64 (0), .int .i64 (0), .int .i64 (0), .int .i64 (0), .int .i64 (0), .int .i64 (0), .int .i64 (0), .int .i64 (0), .int .i64 (0), .int .i64 (0), .int .i64 (0), .int .i64 (0), .int .i64 (0), .int .i64 (0), .int .i64 (0), .int .i64 (0), .int .i64 (0), .int .i64 (0), .int .i64 (0), .int .i64 (0), .int .i64 (0), .int .i64 (0), .int .i64 (0), .int .i64 (0), .int .i64 (0), .int .i64 (0), .int .i64 (0), .int .i64 (0), .int .i64 (0), .int .i64 (0), .int .i64 (0), .int .i64 (0), .int .i64 (0), .int .i64 (0), .int .i64 (0), .int .i64 (0), .int .i64 (0), .int .i64 (0), .int .i64 (0), .int .i64 (0), .int .i64 (0), .int .i64 (0), .int .i64 (0), .int .i64 (0), .int .i64 (0), .int .i64 (0), .int .i64 (0), .int .i64 (0), .int .i64 (0), .int .i64 (0), .int .i64 (0), .int .i64 (0), .int .i64 (0), .int .i64 (0), .int .i64 (0), .int .i64 (0), .int .i64 (0), .int .i64 (0), .int .i64 (0), .int .i64 (0), .int .i64 (0), .int .i64 (0), .int .i64 (0), .int .i64 (0), .int .i64 (0), .int .i64 (0), .int .i64 (0), .int .i64 (0), .int .i64 (0), .int .i64 (0)] : List AV)] = true ∧
    c0U [.agg ([.bool (true), .bool (false), .bool (false), .bool (false), .bool (false), .bool (false), .bool (false), .bool (false), .bool (false), .bool (false), .bool (false), .bool (false), .bool (false), .bool (false), .bool (false), .bool (false), .bool (false), .bool (false), .bool (false), .bool (false), .bool (false), .bool (false), .bool (false), .bool (false), .bool (false), .bool (false), .bool (false), .bool (false), .bool (false), .bool (false), .bool (false), .bool (false), .bool (false), .int .i64 (0), .int .i64 (0), .int .i64 (0), .int .i64 (0), .int .i64 (0), .int .i64 (0), .int .i64 (0), .int .i64 (0), .int .i64 (0), .int .i64 (0), .int .i64 (0), .int .i64 (0), .int .i64 (0), .int .i64 (0), .int .i64 (0), .int .i64 (0), .int .i64 (0), .int .i64 (0), .int .i64 (0), .int .i64 (0), .int .i64 (0), .int .i64 (0), .int .i64 (0), .int .i64 (0), .int .i64 (0), .int .i64 (0), .int .i64 (0), .int .i64 (0), .int .i64 (0), .int .i64 (0), .int .i64 (0), .int .i64 (0), .int .i64 (0), .int .i64 (0), .int .i64 (0), .int .i64 (0), .int .i64 (0), .int .i64 (0), .int .i64 (0), .int .i64 (0), .int .i64 (0), .int .i64 (0), .int .i64 (0), .int .i64 (0), .int .i64 (0), .int .i64 (0), .int .i64 (0), .int .i64 (0), .int .i64 (0), .int .i64 (0), .int .i64 (0), .int .i64 (0), .int .i64 (0), .int .i64 (0), .int .i64 (0), .int .i64 (0), .int .i64 (0), .int .i64 (0), .int .i64 (0), .int .i64 (0), .int .i64 (0), .int .i64 (0), .int .i64 (0), .int .i64 (0), .int .i64 (0), .int .i64 (0), .int .i64 (0), .int .i64 (0), .int .i64 (0), .int .i64 (0), .int .i64 (0), .int .i64 (0), .int .i64 (0), .int .i64 (0), .int .i64 (0), .int .i64 (0), .int .i64 (0), .int .i64 (0), .int .i64 (0), .int .i64 (0), .int .i64 (0), .int .i64 (0), .int .i64 (0), .int .i64 (0), .int .i64 (0), .int .i64 (0), .int .i64 (0), .int .i64 (0), .int .i64 (0), .int .i64 (0), .int .i64 (0), .int .i64 (0), .int .i64 (0), .int .i64 (0), .int .i64 (0), .int .i64 (0), .int .i64 (0), .int .i64 (0), .int .i64 (0), .int .i64 (0), .int .i64 (0), .int .i64 (0), .int .i64 (0), .int .i64 (0), .int .i64 (0), .int .i64 (0), .int .i64 (0), .int .i64 (0), .int .i64 (0), .int .i64 (0), .int .i64 (0), .int .i64 (0), .int .i64 (0), .int .i64 (0), .int .i64 (0), .int .i64 (0), .int .i64 (0), .int .i64 (0), .int .i64 (0), .int .i64 (0), .int .i64 (0), .int .i64 (0), .int .i64 (0), .int .i64 (0), .int .i64 (0), .int .i64 (0), .int .i64 (0), .int .i64 (0), .int .i64 (0), .int .i64 (0), .int .i64 (0), .int .i64 (0), .int .i64 (0), .int .i64 (0), .int .i64 (0), .int .i64 (0), .int .i64 (0), .int .i64 (0), .int .i64 (0), .int .i64 (0), .int .i64 (0), .int .i64 (0), .int .i64 (0), .int .i64 (0), .int .i64 (0), .int .i64 (0), .int .i64 (0), .int .i64 (0), .int .i64 (0), .int .i64 (0), .int .i64 (0), .int .i64 (0), .int .i64 (0), .int .i64 (0), .int .i64 (0), .int .i64 (0), .int .i64 (0), .int .i64 (0), .int .i64 (0), .int .i64 (0), .int .i64 (0), .int .i64 (0), .int .i64 (0), .int .i64 (0), .int .i64 (0), .int .i64 (0), .int .i64 (0), .int .i64 (0), .int .i64 (0), .int .i64 (0), .int .i64 (0), .int .i64 (0), .int .i64 (0), .int .i64 (0), .int .i64 (0), .int .i64 (0), .int .i64 (0), .int .i64 (0), .int .i64 (0), .int .i64 (0), .int .i64 (0), .int .i64 (0), .int .i64 (0), .int .i64 (0), .int .i64 (0), .int .i64 (0), .int .i64 (0), .int .i64 (0), .int .i64 (0), .int .i64 (0), .int .i64 (0), .int .i64 (0), .int .i64 (0), .int .i64 (0), .int .i64 (0), .int .i64 (0), .int .i64 (0), .int .i64 (0), .int .i64 (0), .int .i64 (0), .int .i64 (0), .int .i64 (0), .int .i64 (0), .int .i64 (0), .int .i64 (0), .int .i64 (0), .int .i64 (0), .int .i64 (0), .int .i64 (0), .int .i64 (0), .int .i64 (0), .int .i64 (0), .int .i64 (0), .int .i64 (0), .int .i64 (0), .int .i64 (0), .int .i64 (0), .int .i64 (0), .int .i64 (0), .int .i64 (0), .int .i64 (0), .int .i64 (0), .int .i64 (0), .int .i64 (0), .int .i64 (0)] : List AV)] = true ∧
    (∀ l20 : List AV,
    (∀ l21 : List AV,
    (JaU [.agg l20, .agg l21] = true →
    stepsT2 [.agg (G (k)), .ptr (.rw 0) (n)] = true ∧
    stepsT2 [.agg (G (k2)), .ptr (.rw 0) (n2)] = true ∧
    JaU [.agg l20, .agg l21] = true ∧
    (∀ l22 : List AV,
    (∀ l23 : List AV,
    (JaU [.agg l22, .agg l23] = true →
    JaU [.agg l22, .agg l23] = true ∧
    R (.bool (true)) []))))))) := by kernel_rfl
theorem ap_call (G : Nat → List AV) (B : Nat) (k n k2 n2 : Nat) (hk : okI .i64 (G k) 0 (n * 3) = true) (hk2 : okI .i64 (G k2) 0 (n2 * 3) = true) : ACalls (⟨Try.prog, G, B⟩ : Ctx) 5 [.slice true (.ro k) 0 n, .slice true (.ro k2) 0 n2] [] fun v _ => v = .bool true := by
  have := dlaw_ok (C := (⟨Try.prog, G, B⟩ : Ctx)) (fuel := 400) (n0 := 20) (f := 5) (fn := Try.f5) (args := [.slice true (.ro (.var 1 k)) (.lit 0) (.var 2 n), .slice true (.ro (.var 3 k2)) (.lit 0) (.var 4 n2)]) (H := []) (R := fun v _ => v = .bool true) (dgAp G B) (by kernel_rfl) (by kernel_rfl) (by kernel_rfl) (by
    rw [ap_run]
    repeat' first | refine And.intro ?_ ?_ | intro _
    all_goals first
      | assumption
      | exact hk
      | exact hk2
      | rfl
      | kernel_rfl)
  exact this
end Go.Am
