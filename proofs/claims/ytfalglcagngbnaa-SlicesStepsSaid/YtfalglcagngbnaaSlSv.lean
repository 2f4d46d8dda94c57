/-
  SlicesSteps: the loop over the open slots in 'stands', gone through.
-/
import Derived.Test.YtfalglcagngbnaaSlSu
namespace Go.Am
open Go.Proofs
set_option maxRecDepth 100000
theorem opens_prefix (cs : List AV) (n : Nat) : ∀ k, ∃ t, opens' cs (n + k) = opens' cs n ++ t
  | 0 => ⟨[], by simp⟩
  | k + 1 => by
    obtain ⟨t, e⟩ := opens_prefix cs n k
    have e1 : opens' cs (n + (k + 1)) = if sO cs (n + k) then opens' cs (n + k) ++ [n + k] else opens' cs (n + k) := rfl
    rw [e1]
    split
    · exact ⟨t ++ [n + k], by rw [e, List.append_assoc]⟩
    · exact ⟨t, e⟩
theorem opens_at {cs : List AV} {i : Nat} (hi : i < 32) (ho : sO cs i = true) : (opens' cs i).length < (opens' cs 32).length ∧ (opens' cs 32).getD (opens' cs i).length 0 = i := by
  obtain ⟨t, e⟩ := opens_prefix cs (i + 1) (32 - (i + 1))
  rw [show i + 1 + (32 - (i + 1)) = 32 by omega] at e
  have e1 : opens' cs (i + 1) = opens' cs i ++ [i] := by simp only [opens', ho, if_true]
  rw [e, e1]
  refine ⟨by simp, ?_⟩
  rw [List.getD_eq_getElem?_getD, List.append_assoc, List.getElem?_append_right (Nat.le_refl _), Nat.sub_self]; rfl
theorem opens_mono (cs : List AV) {i : Nat} (hi : i ≤ 32) : (opens' cs i).length ≤ (opens' cs 32).length := by
  obtain ⟨t, e⟩ := opens_prefix cs i (32 - i)
  rw [show i + (32 - i) = 32 by omega] at e
  rw [e]; simp
/-- is it left early? -/
def stpB (cs : List AV) (t lw : Int) : Bool := decide (t = 0 ∧ 1 ≤ lw ∧ lw ≤ ((opens' cs 32).length : Int))
theorem dgYT (G : Nat → List AV) (B : Nat) : DGood (⟨Try.prog, G, B⟩ : Ctx) (Dr Try.prog [26, 28] [] [] [] (yT (isRc (rcS 0)) (.var 25 (rcS 9))) 0) [] := dgoodr (mix G B) (by kernel_rfl) .nil .nil .none (yT_ok G B)
def IT (G : Nat → List AV) (cs : List AV) (lw t : Int) (j : Nat) (vs : List AV) (H : Hp) : Prop := ∃ i : Nat, i ≤ 32 ∧ j = 32 - i ∧ vs = [.yld 9, .ptr (.rw 4) 0, .int .i64 (i : Int)] ∧ ¬ (t = 0 ∧ 1 ≤ lw ∧ lw ≤ ((opens' cs i).length : Int)) ∧ H = vHp G (HTd (.var 8 cs) (.var 9 (tlU [.agg cs])) (.var 10 (allC cs (opens' cs 32))) (.var 18 lw) (.var 19 t) (.var 20 ((opens' cs i).length : Int)) (.var 21 (opens' cs 32).length) (.var 24 (rcS 0)))
theorem s_loop (G : Nat → List AV) (B : Nat) (cs : List AV) (hs : okS cs = true) (lw t : Int) :
    AWp (⟨Try.prog, G, B⟩ : Ctx) 10 (.loop (loopN Try.f46 0)) (fl 22 [0, 1, 4] [.yld 9, .ptr (.rw 4) 0, .int .i64 0]) (vHp G (HTd (.var 8 cs) (.var 9 (tlU [.agg cs])) (.var 10 (allC cs (opens' cs 32))) (.var 18 lw) (.var 19 t) (.var 20 0) (.var 21 (opens' cs 32).length) (.var 24 (rcS 0))))
      (lv 22 [0, 1, 4] fun e vs H => wk [.undef, .undef, .undef] vs ∧ (stpB cs t lw = false → e = .exit 0 ∧ H = vHp G (HTd (.var 8 cs) (.var 9 (tlU [.agg cs])) (.var 10 (allC cs (opens' cs 32))) (.var 18 lw) (.var 19 t) (.var 20 ((opens' cs 32).length : Int)) (.var 21 (opens' cs 32).length) (.var 24 (rcS 0)))) ∧ (stpB cs t lw = true → e = .ret ∧ H = vHp G (HTd (.var 8 cs) (.var 9 (tlU [.agg cs])) (.var 10 (allC cs (opens' cs 32))) (.var 18 lw) (.var 19 t) (.var 20 lw) (.var 21 (opens' cs 32).length) (.var 24 (rcS 9))))) := by
  refine aloop_lv (IT G cs lw t) 32 ⟨0, by omega, rfl, rfl, fun q => by simp [opens'] at q; omega, rfl⟩ ?_
  rintro j vs H ⟨i, hi, rfl, rfl, hst, rfl⟩
  refine dloop_ok (C := (⟨Try.prog, G, B⟩ : Ctx)) (dgYT G B) (fuel := 300) (n0 := 60) (m := 10) (c := loopN Try.f46 0) (vs := [.yld 9, .ptr (.rw 4) (.lit 0), .int .i64 (.var 6 (i : Int))]) (H := (HTd (.var 8 cs) (.var 9 (tlU [.agg cs])) (.var 10 (allC cs (opens' cs 32))) (.var 18 lw) (.var 19 t) (.var 20 ((opens' cs i).length : Int)) (.var 21 (opens' cs 32).length) (.var 24 (rcS 0)))) (by simp [HTd]) ?_
  rw [s_it (rc2 := rcS 9)]
  have hl := okS_len hs
  have hm : ∀ j ∈ opens' cs 32, j < 32 := fun j hj => (opens_lt cs 32 j hj).1
  have hal := allC_len hs hm
  have hc32 := opens_len cs 32
  have nx : i < 32 → ¬ (t = 0 ∧ 1 ≤ lw ∧ lw ≤ ((opens' cs (i + 1)).length : Int)) → ∀ H', H' = vHp G (HTd (.var 8 cs) (.var 9 (tlU [.agg cs])) (.var 10 (allC cs (opens' cs 32))) (.var 18 lw) (.var 19 t) (.var 20 ((opens' cs (i + 1)).length : Int)) (.var 21 (opens' cs 32).length) (.var 24 (rcS 0))) →
      ∃ k', k' < 32 - i ∧ (IT G cs lw t k' [.yld 9, .ptr (.rw 4) 0, .int .i64 (IntKind.wrap .i64 ((i : Int) + 1))] H' ∨ ∃ vs'' H'', IT G cs lw t k' vs'' H'' ∧ View 10 vs'' H'' [.yld 9, .ptr (.rw 4) 0, .int .i64 (IntKind.wrap .i64 ((i : Int) + 1))] H') := fun h hst' H' e =>
    ⟨32 - (i + 1), by omega, .inl ⟨i + 1, by omega, rfl, by rw [i64_in (by omega)]; rfl, hst', e⟩⟩
  refine ⟨fun h => ⟨okS_0 hs, fun _ => ⟨fun h0 => ⟨h, decide_eq_true (by omega), h, ?_, fun ho => ⟨decide_eq_true (by omega), h, leB_iff.2 ?_, isRc_iff.2 rfl, ?_, ?_, ?_, fun hb => ?_, fun hb => ?_⟩, fun ho => ?_⟩, fun h0 => ?_⟩, fun h0 => ?_⟩, fun h => ⟨by simp [wk], ?_, ?_⟩⟩
  · have := of_decide_eq_true h
    rw [Int.toNat_natCast]; exact okS_open hs (by omega)
  · have := of_decide_eq_true h
    rw [Int.toNat_natCast]; omega
  · have := of_decide_eq_true h
    rw [Int.toNat_natCast]; exact sub_ok7 hs (by omega)
  · show (bnds 0 cs && (bnds 0 (tlU [.agg cs]) && bnds 0 (allC cs (opens' cs 32)))) = true
    rw [okS_flat hs 0, show bnds 0 (tlU [.agg cs]) = true from tl_flat hs, allC_flat hs]; rfl
  · have h32 := of_decide_eq_true h
    rw [Int.toNat_natCast] at ho ⊢
    obtain ⟨q1, q2⟩ := opens_at (cs := cs) (i := i) (by omega) ho
    show nextB (allC cs (opens' cs 32)) (subL cs (i * 7 + 33) 7) ((opens' cs i).length : Int) ((((opens' cs 32).length : Nat) : Int)).toNat = true
    rw [Int.toNat_natCast]
    simp only [nextB, Bool.and_eq_true, decide_eq_true_eq, List.all_eq_true, List.mem_range, Int.toNat_natCast]
    refine ⟨⟨by omega, by omega, by omega, hal⟩, fun j hj => ⟨all_isI hs hm q1 hj, ?_⟩⟩
    rw [all_I hs hm q1 hj, q2]
    exact beq_self_eq_true _
  · have h32 := of_decide_eq_true h
    rw [Int.toNat_natCast] at ho
    obtain ⟨q1, _⟩ := opens_at (cs := cs) (i := i) (by omega) ho
    have hb' : decide (t = 0 ∧ ((opens' cs i).length : Int) + 1 = lw) = true := hb
    have hb' := of_decide_eq_true hb'
    have e : stpB cs t lw = true := decide_eq_true ⟨hb'.1, by omega, by omega⟩
    refine ⟨by simp [wk], fun q => (by rw [e] at q; cases q), fun _ => ⟨rfl, ?_⟩⟩
    have ew : IntKind.wrap .i64 (((opens' cs i).length : Int) + 1) = lw := by rw [i64_in (by omega)]; exact hb'.2
    rw [ew]; rfl
  · have h32 := of_decide_eq_true h
    rw [Int.toNat_natCast] at ho
    obtain ⟨q1, _⟩ := opens_at (cs := cs) (i := i) (by omega) ho
    have hb' : decide (t = 0 ∧ ((opens' cs i).length : Int) + 1 = lw) = false := hb
    have hb' := of_decide_eq_false hb'
    have e1 : (opens' cs (i + 1)).length = (opens' cs i).length + 1 := by
      have : opens' cs (i + 1) = opens' cs i ++ [i] := by simp only [opens', show sO cs i = true from ho, if_true]
      rw [this, List.length_append]; rfl
    refine nx (by omega) (by rw [e1]; omega) _ ?_
    have ew : IntKind.wrap .i64 (((opens' cs i).length : Int) + 1) = ((opens' cs (i + 1)).length : Int) := by rw [i64_in (by omega), e1]; omega
    rw [ew]; rfl
  · have h32 := of_decide_eq_true h
    rw [Int.toNat_natCast] at ho
    have eo : opens' cs (i + 1) = opens' cs i := by simp only [opens', show sO cs i = false from ho, Bool.false_eq_true, if_false]
    refine nx (by omega) (by rw [eo]; exact hst) _ ?_
    rw [eo]; rfl
  · exact absurd (of_decide_eq_false h0) (by omega)
  · rw [okS_made hs] at h0; cases h0
  · intro _
    have : i = 32 := by have := of_decide_eq_false h; omega
    subst this
    exact ⟨rfl, rfl⟩
  · intro q
    have : i = 32 := by have := of_decide_eq_false h; omega
    subst this
    exact absurd (of_decide_eq_true q) hst
def stpU : List AV → Bool := fun ys => match ys with
  | [.agg cs, .int _ t, .int _ lw] => stpB cs t lw
  | _ => false
/-- the table, the document's, all that are open, and how many -/
def lnkU : List AV → Bool := fun ys => match ys with
  | [.agg cs, .agg l1, .agg x, .int _ c] => stU [.agg cs, .agg x, .int .i64 c] && samCs l1 (tl cs)
  | _ => false
theorem lnk_iff {cs l1 x : List AV} {c : Nat} (h : lnkU [.agg cs, .agg l1, .agg x, .int .i64 (c : Int)] = true) : okS cs = true ∧ l1 = tlU [.agg cs] ∧ x = allC cs (opens' cs 32) ∧ c = (opens' cs 32).length := by
  simp only [lnkU, Bool.and_eq_true] at h
  obtain ⟨g1, g2, g3⟩ := stU_iff h.1
  exact ⟨g1, samCs_eq h.2, g2, by omega⟩
def iT (rq : List AV → Bool) (rc2 : EL) : DL := ⟨0, 22, [0, 1, 4], fun vs H => match vs, H with
  | [.yld 9, .ptr (.rw 4) (.lit 0), .int .i64 (.lit 0)], [some ⟨1, l⟩, some ⟨1, l1⟩, some ⟨1, .of [.int .i64 lw]⟩, some ⟨1, .of [.bool (.lit false)]⟩, some ⟨1, .of [.ptr (.rw 0) (.lit 0)]⟩, some ⟨7, x⟩, some ⟨1, .of [.slice true (.rw 5) (.lit 0) c]⟩, some ⟨1, .of [.int .i64 t]⟩, some ⟨1, .of [.int .i64 (.lit 0)]⟩, some ⟨4294967291, rc⟩] =>
    some (.chk (.uf 1400 rq [.agg rc]) (.chk (.uf 1535 lnkU [.agg l, .agg l1, .agg x, .int .i64 (.ofN c)]) (.tst (.uf 1536 stpU [.agg l, .int .i64 t, .int .i64 lw]) (.one .ret [.undef, .undef, .undef] (HTd l l1 x lw t lw c rc2)) (.one (.exit 0) [.undef, .undef, .undef] (HTd l l1 x lw t (.ofN c) c rc)))))
  | _, _ => none⟩
theorem iT_ok (G : Nat → List AV) (B : Nat) : DLoopOk (⟨Try.prog, G, B⟩ : Ctx) 10 (loopN Try.f46 0) (iT (isRc (rcS 0)) (.var 25 (rcS 9))) := by
  refine .of fun vs H o ho n Q hQ => ?_
  simp only [iT] at ho
  split at ho
  · rename_i l l1 lw x c t rc
    simp only [Option.some.injEq] at ho
    subst ho
    obtain ⟨h1, h2, h3, h4⟩ := hQ
    simp only [vB, vVs, vV] at h1
    have e1 := isRc_iff.1 h1
    obtain ⟨g1, g2, g3, g4⟩ := lnk_iff (cs := vL G l) (l1 := vL G l1) (x := vL G x) (c := vN G c) h2
    simp only [iT, vVs, vV, vR, vN, vI, vB, vHp, List.map_cons, List.map_nil, Option.map_some, vBlk, vL]
    have key := s_loop G B (vL G l) g1 (vI G lw) (vI G t)
    simp only [HTd, vVs, vV, vR, vN, vI, vB, vHp, List.map_cons, List.map_nil, Option.map_some, vBlk, vL, ← e1, ← g2, ← g3, ← g4] at key
    refine key.lmono ?_
    rintro e vs'' H'' ⟨q, q1, q2⟩
    cases hf : stpB (vL G l) (vI G t) (vI G lw) with
    | true =>
      obtain ⟨rfl, rfl⟩ := q2 hf
      exact .inl ⟨_, q, h3 hf⟩
    | false =>
      obtain ⟨rfl, rfl⟩ := q1 hf
      exact .inl ⟨_, q, h4 hf⟩
  · simp at ho
theorem s_c46 (G : Nat → List AV) (rq : List AV → Bool) (cs l1 xs rc rc2 : List AV) (lw t : Int) (c : Nat) (Q : Ex → List AV → Hp → Prop) (R : AV → Hp → Prop) : vT G Q R (dcall (Dr Try.prog [] [] [iT rq (.var 25 rc2)] [] noY 10) 100 60 Try.f46 [.yld 9, .ptr (.rw 4) (.lit 0)] (HTd (.var 8 cs) (.var 9 l1) (.var 10 xs) (.var 18 lw) (.var 19 t) (.lit 0) (.var 21 c) (.var 24 rc)) 10) = (
    rq [.agg rc] = true ∧
    lnkU [.agg cs, .agg l1, .agg xs, .int .i64 (((c : Nat) : Int))] = true ∧
    (stpU [.agg cs, .int .i64 (t), .int .i64 (lw)] = true →
      R (.tup []) [some ⟨1, cs⟩, some ⟨1, l1⟩, some ⟨1, ([.int .i64 (lw)] : List AV)⟩, some ⟨1, ([.bool (false)] : List AV)⟩, some ⟨1, ([.ptr (.rw 0) (0)] : List AV)⟩, some ⟨7, xs⟩, some ⟨1, ([.slice true (.rw 5) (0) (c)] : List AV)⟩, some ⟨1, ([.int .i64 (t)] : List AV)⟩, some ⟨1, ([.int .i64 (lw)] : List AV)⟩, some ⟨4294967291, rc2⟩]) ∧
    (stpU [.agg cs, .int .i64 (t), .int .i64 (lw)] = false →
      R (.tup []) [some ⟨1, cs⟩, some ⟨1, l1⟩, some ⟨1, ([.int .i64 (lw)] : List AV)⟩, some ⟨1, ([.bool (false)] : List AV)⟩, some ⟨1, ([.ptr (.rw 0) (0)] : List AV)⟩, some ⟨7, xs⟩, some ⟨1, ([.slice true (.rw 5) (0) (c)] : List AV)⟩, some ⟨1, ([.int .i64 (t)] : List AV)⟩, some ⟨1, ([.int .i64 (((c : Nat) : Int))] : List AV)⟩, some ⟨4294967291, rc⟩])) := by kernel_rfl
theorem dgs46 (G : Nat → List AV) (B : Nat) : DGood (⟨Try.prog, G, B⟩ : Ctx) (Dr Try.prog [] [] [iT (isRc (rcS 0)) (.var 25 (rcS 9))] [] noY 10) (loopsOf (bodyOf Try.f46)) :=
  dgoodr (mix G B) (by kernel_rfl) .nil (.cast (.cons (i := 0) (by kernel_rfl) rfl (iT_ok G B) .nil) (by kernel_rfl)) .none noY_ok
def HT9' (cs : List AV) (lw t n : Int) : DHp := [some ⟨1, .var 8 cs⟩, some ⟨1, .var 9 (tlU [.agg cs])⟩, some ⟨1, .of [.int .i64 (.var 18 lw)]⟩, some ⟨1, .of [.bool (.lit false)]⟩, some ⟨1, .of [.ptr (.rw 0) (.lit 0)]⟩, some ⟨7, .var 10 (allC cs (opens' cs 32))⟩, some ⟨1, .of [.slice true (.rw 5) (.lit 0) (.var 21 (opens' cs 32).length)]⟩, some ⟨1, .of [.int .i64 (.var 19 t)]⟩, some ⟨1, .of [.int .i64 (.var 20 n)]⟩]
theorem HT9_b (G : Nat → List AV) {cs : List AV} (hs : okS cs = true) (lw t n : Int) : hpB 9 (vHp G (HT9' cs lw t n)) = true := by
  simp only [HT9', vHp, List.map_cons, List.map_nil, Option.map_some, vBlk, vL, vVs, vV, vR, vN, vI, vB, hpB, m_of (okS_flat hs 0), m_of (show bnds 0 (tlU [.agg cs]) = true from tl_flat hs), m_of (allC_flat hs (opens' cs 32)), bnds, bnd, Bool.and_self, Bool.and_true]
  rfl
theorem lnk_ok {cs : List AV} (hs : okS cs = true) : lnkU [.agg cs, .agg (tlU [.agg cs]), .agg (allC cs (opens' cs 32)), .int .i64 ((opens' cs 32).length : Int)] = true := by
  have hsam : samCs (tlU [.agg cs]) (tl cs) = true := by
    refine samCs_refl (l := tl cs) ?_
    have e := T_tl hs
    rw [List.all_eq_true]
    intro v hv
    have hv' : v ∈ cs := by rw [← e]; exact List.mem_cons_of_mem _ hv
    obtain ⟨i, hi⟩ := List.getElem?_of_mem hv'
    have hlt : i < 258 := by rw [← okS_len hs]; exact (List.getElem?_eq_some_iff.1 hi).1
    by_cases h33 : i < 33
    · have hb : isB cs i = true := by
        by_cases h0 : i = 0
        · subst h0; exact okS_0 hs
        · have := okS_open hs (i := i - 1) (by omega)
          rwa [show i - 1 + 1 = i by omega] at this
      unfold isB at hb
      rw [hi] at hb
      cases v <;> simp_all [samC]
    · have hb := okS_isF hs (o := i) (by omega) hlt
      unfold isI at hb
      rw [hi] at hb
      cases v <;> simp_all [samC]
  show (stU [.agg cs, .agg (allC cs (opens' cs 32)), .int .i64 ((opens' cs 32).length : Int)] && samCs (tlU [.agg cs]) (tl cs)) = true
  rw [st_ok hs, hsam]; rfl
theorem s46t (G : Nat → List AV) (B : Nat) (cs : List AV) (hs : okS cs = true) (lw t : Int) (hf : stpB cs t lw = true) : ACalls (⟨Try.prog, G, B⟩ : Ctx) 46 [.yld 9, .ptr (.rw 4) 0] (vHp G (HT9' cs lw t 0) ++ [some ⟨4294967291, rcS 0⟩]) fun v H => v = .tup [] ∧ H = vHp G (HT9' cs lw t lw) ++ [some ⟨4294967291, rcS 9⟩] := by
  have := dcall_ok (C := (⟨Try.prog, G, B⟩ : Ctx)) (fuel := 100) (n0 := 60) (f := 46) (fn := Try.f46) (args := [.yld 9, .ptr (.rw 4) (.lit 0)]) (H := HTd (.var 8 cs) (.var 9 (tlU [.agg cs])) (.var 10 (allC cs (opens' cs 32))) (.var 18 lw) (.var 19 t) (.lit 0) (.var 21 (opens' cs 32).length) (.var 24 (rcS 0))) (keep := 10)
    (R := fun v H => v = .tup [] ∧ H = vHp G (HT9' cs lw t lw) ++ [some ⟨4294967291, rcS 9⟩]) (dgs46 G B) (by kernel_rfl) (by kernel_rfl) (by kernel_rfl) (by
    have := s_c46 G (isRc (rcS 0)) cs (tlU [.agg cs]) (allC cs (opens' cs 32)) (rcS 0) (rcS 9) lw t (opens' cs 32).length (fun _ _ _ => False) (fun v H => v = .tup [] ∧ H = vHp G (HT9' cs lw t lw) ++ [some ⟨4294967291, rcS 9⟩])
    exact Eq.mpr this ⟨isRc_iff.2 rfl, lnk_ok hs, fun _ => ⟨rfl, rfl⟩, fun h => (by rw [show stpU [.agg cs, .int .i64 t, .int .i64 lw] = stpB cs t lw from rfl, hf] at h; cases h)⟩)
  refine ACalls.keep (k := 10) ?_ (by simp [HT9', vHp]) (HT_b G (okS_flat hs 0) (tl_flat hs) (allC_flat hs _) lw t lw _ rcS_b9) rfl (by simp)
  exact this
theorem s46f (G : Nat → List AV) (B : Nat) (cs : List AV) (hs : okS cs = true) (lw t : Int) (hf : stpB cs t lw = false) : ACalls (⟨Try.prog, G, B⟩ : Ctx) 46 [.yld 9, .ptr (.rw 4) 0] (vHp G (HT9' cs lw t 0) ++ [some ⟨4294967291, rcS 0⟩]) fun v H => v = .tup [] ∧ H = vHp G (HT9' cs lw t ((opens' cs 32).length : Int)) ++ [some ⟨4294967291, rcS 0⟩] := by
  have := dcall_ok (C := (⟨Try.prog, G, B⟩ : Ctx)) (fuel := 100) (n0 := 60) (f := 46) (fn := Try.f46) (args := [.yld 9, .ptr (.rw 4) (.lit 0)]) (H := HTd (.var 8 cs) (.var 9 (tlU [.agg cs])) (.var 10 (allC cs (opens' cs 32))) (.var 18 lw) (.var 19 t) (.lit 0) (.var 21 (opens' cs 32).length) (.var 24 (rcS 0))) (keep := 10)
    (R := fun v H => v = .tup [] ∧ H = vHp G (HT9' cs lw t ((opens' cs 32).length : Int)) ++ [some ⟨4294967291, rcS 0⟩]) (dgs46 G B) (by kernel_rfl) (by kernel_rfl) (by kernel_rfl) (by
    have := s_c46 G (isRc (rcS 0)) cs (tlU [.agg cs]) (allC cs (opens' cs 32)) (rcS 0) (rcS 9) lw t (opens' cs 32).length (fun _ _ _ => False) (fun v H => v = .tup [] ∧ H = vHp G (HT9' cs lw t ((opens' cs 32).length : Int)) ++ [some ⟨4294967291, rcS 0⟩])
    exact Eq.mpr this ⟨isRc_iff.2 rfl, lnk_ok hs, fun h => (by rw [show stpU [.agg cs, .int .i64 t, .int .i64 lw] = stpB cs t lw from rfl, hf] at h; cases h), fun _ => ⟨rfl, rfl⟩⟩)
  refine ACalls.keep (k := 10) ?_ (by simp [HT9', vHp]) (HT_b G (okS_flat hs 0) (tl_flat hs) (allC_flat hs _) lw t _ _ rcS_b) rfl (by simp)
  exact this
theorem s_rng (G : Nat → List AV) (B : Nat) (cs : List AV) (hs : okS cs = true) (lw t : Int) : AWp (⟨Try.prog, G, B⟩ : Ctx) 9 (loopN Try.f23 3) F0s (vHp G (HT9' cs lw t 0))
    (lv 160 [5, 6, 19, 20, 21, 22, 113] fun e vs H => vs = [.ptr (.rw 2) 0, .ptr (.rw 3) 0, .func 46 [.ptr (.rw 4) 0], .ptr (.rw 6) 0, .ptr (.rw 7) 0, .ptr (.rw 8) 0, .func 46 [.ptr (.rw 4) 0]] ∧ (stpB cs t lw = true → e = .exit 6 ∧ H = vHp G (HT9' cs lw t lw) ++ [none]) ∧ (stpB cs t lw = false → e = .normal ∧ H = vHp G (HT9' cs lw t ((opens' cs 32).length : Int)) ++ [none])) := by
  rw [N23_eq]
  refine AWp.rng (f := 46) (cap := [.ptr (.rw 4) 0]) (by simp [HT9', vHp]) (by kernel_rfl) ?_
  cases hf : stpB cs t lw with
  | true =>
    refine (s46t G B cs hs lw t hf).monoK ?_
    rintro v H ⟨rfl, rfl⟩
    exact ⟨rfl, fun _ => ⟨rfl, rfl⟩, fun h => (by cases h)⟩
  | false =>
    refine (s46f G B cs hs lw t hf).monoK ?_
    rintro v H ⟨rfl, rfl⟩
    exact ⟨rfl, fun h => (by cases h), fun _ => ⟨rfl, rfl⟩⟩
def HS9 (l l1 x : EL) (lw t n : EI) (c : EN) : DHp := [some ⟨1, l⟩, some ⟨1, l1⟩, some ⟨1, .of [.int .i64 lw]⟩, some ⟨1, .of [.bool (.lit false)]⟩, some ⟨1, .of [.ptr (.rw 0) (.lit 0)]⟩, some ⟨7, x⟩, some ⟨1, .of [.slice true (.rw 5) (.lit 0) c]⟩, some ⟨1, .of [.int .i64 t]⟩, some ⟨1, .of [.int .i64 n]⟩]
def sR' : DL := ⟨114, 160, [5, 6, 19, 20, 21, 22, 113], fun vs H => match vs, H with
  | [.ptr (.rw 2) (.lit 0), .ptr (.rw 3) (.lit 0), .func 46 [.ptr (.rw 4) (.lit 0)], .ptr (.rw 6) (.lit 0), .ptr (.rw 7) (.lit 0), .ptr (.rw 8) (.lit 0), .func 46 [.ptr (.rw 4) (.lit 0)]], [some ⟨1, l⟩, some ⟨1, l1⟩, some ⟨1, .of [.int .i64 lw]⟩, some ⟨1, .of [.bool (.lit false)]⟩, some ⟨1, .of [.ptr (.rw 0) (.lit 0)]⟩, some ⟨7, x⟩, some ⟨1, .of [.slice true (.rw 5) (.lit 0) c]⟩, some ⟨1, .of [.int .i64 t]⟩, some ⟨1, .of [.int .i64 (.lit 0)]⟩] =>
    some (.chk (.uf 1535 lnkU [.agg l, .agg l1, .agg x, .int .i64 (.ofN c)]) (.tst (.uf 1536 stpU [.agg l, .int .i64 t, .int .i64 lw]) (.one (.exit 6) [.ptr (.rw 2) (.lit 0), .ptr (.rw 3) (.lit 0), .func 46 [.ptr (.rw 4) (.lit 0)], .ptr (.rw 6) (.lit 0), .ptr (.rw 7) (.lit 0), .ptr (.rw 8) (.lit 0), .func 46 [.ptr (.rw 4) (.lit 0)]] (HS9 l l1 x lw t lw c)) (.one .normal [.ptr (.rw 2) (.lit 0), .ptr (.rw 3) (.lit 0), .func 46 [.ptr (.rw 4) (.lit 0)], .ptr (.rw 6) (.lit 0), .ptr (.rw 7) (.lit 0), .ptr (.rw 8) (.lit 0), .func 46 [.ptr (.rw 4) (.lit 0)]] (HS9 l l1 x lw t (.ofN c) c))))
  | _, _ => none⟩
theorem sR_ok (G : Nat → List AV) (B : Nat) : DCodeOk (⟨Try.prog, G, B⟩ : Ctx) 2 (loopN Try.f23 3) sR' := by
  intro m vs H o hm ho n Q hQ
  simp only [sR'] at ho
  split at ho
  · rename_i l l1 lw x c t
    simp only [Option.some.injEq] at ho
    subst ho
    obtain ⟨h1, h2, h3⟩ := hQ
    obtain ⟨g1, g2, g3, g4⟩ := lnk_iff (cs := vL G l) (l1 := vL G l1) (x := vL G x) (c := vN G c) h1
    have key := s_rng G B (vL G l) g1 (vI G lw) (vI G t)
    have key := key.pin (m' := m) (by omega)
    have hb := HT9_b G g1 (vI G lw) (vI G t)
    simp only [sR', HT9', vVs, vV, vR, vN, vI, vB, vHp, List.map_cons, List.map_nil, Option.map_some, vBlk, vL, ← g2, ← g3, ← g4] at key hb ⊢
    refine key.lmono ?_
    rintro e vs'' H'' ⟨rfl, q1, q2⟩
    cases hf : stpB (vL G l) (vI G t) (vI G lw) with
    | true =>
      obtain ⟨rfl, rfl⟩ := q1 hf
      refine .inr ⟨_, _, ?_, h2 hf⟩
      exact View.same (by simp [HS9, vHp]; omega) (hb (vI G lw)) ⟨⟨rfl, rfl⟩, ⟨rfl, rfl⟩, ⟨rfl, rfl⟩, ⟨rfl, rfl⟩, ⟨rfl, rfl⟩, ⟨rfl, rfl⟩, ⟨rfl, rfl⟩, trivial⟩
    | false =>
      obtain ⟨rfl, rfl⟩ := q2 hf
      refine .inr ⟨_, _, ?_, h3 hf⟩
      exact View.same (by simp [HS9, vHp]; omega) (hb ((vN G c : Nat) : Int)) ⟨⟨rfl, rfl⟩, ⟨rfl, rfl⟩, ⟨rfl, rfl⟩, ⟨rfl, rfl⟩, ⟨rfl, rfl⟩, ⟨rfl, rfl⟩, ⟨rfl, rfl⟩, trivial⟩
  · simp at ho
end Go.Am
