/-
  SlicesRounds: how the tables stand; the loops.
-/
import Derived.Test.YtfalglcagngbnaaSlM
namespace Go.Am
open Go.Proofs
set_option maxRecDepth 100000
theorem dgR (G : Nat → List AV) (B : Nat) : DGood (⟨Try.prog, G, B⟩ : Ctx) (Dc Try.prog [9, 16] progR [] 0) [] := dgood (mix G B) (by kernel_rfl) (progR_ok G B) .nil
/-- so many slots were opened, nothing was picked -/
def Jo (cs : List AV) (n : Nat) : Prop :=
  okT cs = true ∧ tk cs = 0 ∧ (∀ i, i < 32 → sO cs i = decide (i < n)) ∧ (∀ i, i < 32 → i < n → sN cs i = (i : Int) ∧ sG cs i = -1 ∧ sL cs i = 0 ∧ sQ cs i = 0)
theorem Jo_oN {cs : List AV} {n : Nat} (h : Jo cs n) (hn : n ≤ 32) : oN cs = n := by
  refine oN_eq cs (fun j hj => ?_) hn fun h32 => ?_
  · have := h.2.2.1 j (by omega)
    rw [decide_eq_true hj] at this
    exact this
  · have := h.2.2.1 n h32
    rw [decide_eq_false (by omega)] at this
    exact this
theorem Jo_open {cs : List AV} {n : Nat} (h : Jo cs n) (hn : n < 32) {a : Int} (h0 : 0 ≤ a) (h1 : a < 8) : openE cs a = 0 ∧ Jo (openR cs a) (n + 1) := by
  have eN := Jo_oN h (by omega)
  obtain ⟨t1, t2, t3, t4⟩ := h
  have hs := (okT_iff.1 t1).1
  have ho : opens cs a = true := by
    simp only [opens, Bool.and_eq_true, decide_eq_true_eq]
    omega
  refine ⟨by unfold openE; rw [ho]; rfl, okT_openR t1 a, by rw [openR_tk hs]; exact t2, fun i hi => ?_, fun i hi hin => ?_⟩
  · rw [openR_O hs a i hi, eN]
    by_cases hc : i = n
    · subst hc; rw [if_pos ⟨ho, rfl⟩, decide_eq_true (by omega)]
    · rw [if_neg (fun q => hc q.2), t3 i hi]
      by_cases h2 : i < n
      · rw [decide_eq_true h2, decide_eq_true (by omega)]
      · rw [decide_eq_false h2, decide_eq_false (by omega)]
  · have f : ∀ j, j < 7 → getI (openR cs a) (i * 7 + (33 + j)) = if i = n then getI (slotA n a (tk cs)) j else getI cs (i * 7 + (33 + j)) := fun j hj => by
      rw [openR_f hs a hj hi, eN]
      by_cases hc : i = n
      · rw [if_pos ⟨ho, hc⟩, if_pos hc]
      · rw [if_neg (fun q => hc q.2), if_neg hc]
    have f0 : sN (openR cs a) i = if i = n then (n : Int) else sN cs i := f 0 (by omega)
    have f2 : sG (openR cs a) i = if i = n then -1 else sG cs i := f 2 (by omega)
    have f5 : sL (openR cs a) i = if i = n then tk cs else sL cs i := f 5 (by omega)
    have f6 : sQ (openR cs a) i = if i = n then 0 else sQ cs i := f 6 (by omega)
    rw [f0, f2, f5, f6, t2]
    by_cases hc : i = n
    · subst hc; simp
    · rw [if_neg hc, if_neg hc, if_neg hc, if_neg hc]
      exact t4 i hi (by omega)
/-- so many were picked in so many rounds -/
def Jr (cs : List AV) (n r k : Nat) : Prop :=
  okT cs = true ∧ tk cs = ((r * n + k : Nat) : Int) ∧ (∀ i, i < 32 → sO cs i = decide (i < n)) ∧
  (∀ i, i < 32 → i < n → (sN cs i = (i : Int) ∧ sG cs i = -1) ∧ (sL cs i = if i < k then ((r * n + i + 1 : Nat) : Int) else if r = 0 then 0 else (((r - 1) * n + i + 1 : Nat) : Int)) ∧ 0 ≤ sQ cs i ∧ sQ cs i ≤ (n : Int))
theorem Jo_Jr {cs : List AV} {n : Nat} (h : Jo cs n) : Jr cs n 0 0 := by
  obtain ⟨t1, t2, t3, t4⟩ := h
  refine ⟨t1, by rw [t2]; simp, t3, fun i hi hin => ?_⟩
  obtain ⟨q1, q2, q3, q4⟩ := t4 i hi hin
  refine ⟨⟨q1, q2⟩, by rw [q3]; simp, by omega, by omega⟩
theorem Jr_next {cs : List AV} {n r : Nat} (h : Jr cs n r n) : Jr cs n (r + 1) 0 := by
  obtain ⟨t1, t2, t3, t4⟩ := h
  refine ⟨t1, by rw [t2, Nat.succ_mul]; simp, t3, fun i hi hin => ?_⟩
  obtain ⟨q1, q2, q3⟩ := t4 i hi hin
  refine ⟨q1, ?_, q3⟩
  rw [q2, if_pos hin, if_neg (by omega), if_neg (by omega), Nat.add_sub_cancel]
theorem Jr_pick {cs : List AV} {n r k : Nat} (h : Jr cs n r k) (hk : k < n) (hn : n ≤ 32) (hr : r ≤ 20) : (pickN cs (k : Int) = (k : Int) ∧ pickE cs (k : Int) = 0) ∧ Jr (pickR cs (k : Int)) n r (k + 1) := by
  obtain ⟨t1, t2, t3, t4⟩ := h
  have hb : r * n ≤ 20 * 32 := Nat.mul_le_mul hr hn
  have hk32 : k < 32 := by omega
  have ho : isO cs (k : Int) = true := by rw [isO_nat hk32, t3 k hk32, decide_eq_true hk]
  have hs := (okT_iff.1 t1).1
  obtain ⟨⟨q1, q2⟩, q3, q4, q5⟩ := t4 k hk32 hk
  have eg : pkG cs ((k : Int)).toNat = -1 := by rw [Int.toNat_natCast, pkG_eq hs hk32]; exact q2
  refine ⟨⟨by unfold pickN; rw [ho, eg]; simp, by unfold pickE; rw [ho]; rfl⟩, okT_pickR t1 _, ?_, fun i hi => ?_, fun i hi hin => ?_⟩
  · rw [pickR_tk t1 ho, t2]
    unfold w64
    rw [i64_in (by omega)]
    omega
  · rw [pickR_O t1 ho i hi]; exact t3 i hi
  · obtain ⟨⟨p1, p2⟩, p3, p4, p5⟩ := t4 i hi hin
    have hbr : (r - 1) * n ≤ r * n := Nat.mul_le_mul_right n (by omega)
    rw [pickR_N t1 ho i hi, pickR_G t1 ho i hi, pickR_L t1 ho i hi, pickR_Q t1 ho i hi, Int.toNat_natCast, q2, if_neg (by omega)]
    have ew : w64 (tk cs + 1) = ((r * n + k + 1 : Nat) : Int) := by
      rw [t2]; unfold w64; rw [i64_in (by omega)]; omega
    refine ⟨⟨p1, p2⟩, ?_, ?_⟩
    · by_cases hc : i = k
      · subst hc; rw [if_pos rfl, if_pos (by omega), ew]
      · rw [if_neg hc, p3]
        by_cases h2 : i < k
        · rw [if_pos h2, if_pos (by omega)]
        · rw [if_neg h2, if_neg (show ¬ i < k + 1 by omega)]
    · by_cases hc : i = k
      · subst hc
        rw [if_pos rfl]
        unfold gapN
        rw [ew, q3, if_neg (Nat.lt_irrefl _)]
        have key : ∃ d : Int, w64 (((r * n + i + 1 : Nat) : Int) - (if r = 0 then 0 else (((r - 1) * n + i + 1 : Nat) : Int))) = d ∧ 0 ≤ d ∧ d ≤ (n : Int) := by
          by_cases h0 : r = 0
          · subst h0
            rw [if_pos rfl]
            refine ⟨(i : Int) + 1, ?_, by omega, by omega⟩
            unfold w64; rw [i64_in (by omega)]; simp
          · rw [if_neg h0]
            refine ⟨(n : Int), ?_, by omega, by omega⟩
            have e : r * n = (r - 1) * n + n := by
              obtain ⟨m, rfl⟩ := Nat.exists_eq_succ_of_ne_zero h0
              rw [Nat.succ_mul]; simp
            unfold w64; rw [i64_in (by omega)]; omega
        obtain ⟨d, e, d0, d1⟩ := key
        rw [e]
        split <;> omega
      · rw [if_neg hc]; exact ⟨p4, p5⟩
theorem sub_get {cs : List AV} {i j : Nat} (hj : j < 7) : getI (subL cs (i * 7 + 33) 7) j = getI cs (i * 7 + (33 + j)) := by
  unfold subL getI
  rw [List.getElem?_take, if_pos hj, List.getElem?_drop, Nat.add_assoc]
theorem Jr_gap {cs : List AV} {n r : Nat} (h : Jr cs n r 0) (h1 : 1 ≤ r) (h2 : r ≤ 20) (hn : n ≤ 32) {i : Nat} (hi : i < n) : w64 (tk cs - getI (subL cs (i * 7 + 33) 7) 5) = (n : Int) - 1 - (i : Int) := by
  obtain ⟨t1, t2, t3, t4⟩ := h
  obtain ⟨_, q, _⟩ := t4 i (by omega) hi
  have hb : r * n ≤ 20 * 32 := Nat.mul_le_mul h2 hn
  have e : r * n = (r - 1) * n + n := by
    obtain ⟨m, rfl⟩ := Nat.exists_eq_succ_of_ne_zero (n := r) (by omega)
    rw [Nat.succ_mul]; simp
  have e5 : getI (subL cs (i * 7 + 33) 7) 5 = sL cs i := sub_get (by omega)
  rw [e5, q, if_neg (Nat.not_lt_zero i), if_neg (by omega), t2]
  unfold w64
  rw [i64_in (by omega)]
  omega
theorem Jr_wF {cs : List AV} {n r : Nat} (h : Jr cs n r 0) (h1 : 1 ≤ r) (h2 : r ≤ 20) (hn : n ≤ 32) (h0 : 1 ≤ n) : ∀ m, m < 32 → wF cs (m + 1) = (0, (n : Int) - 1, true)
  | 0, _ => by
    have ho := h.2.2.1 0 (by omega)
    rw [decide_eq_true (by omega)] at ho
    have e0 : getI (subL cs (0 * 7 + 33) 7) 0 = 0 := by
      rw [sub_get (by omega)]
      exact (h.2.2.2 0 (by omega) (by omega)).1.1
    have hg := Jr_gap h h1 h2 hn (i := 0) (by omega)
    simp only [wF, ho, if_true, wStep, Bool.not_false, Bool.true_or, e0, hg]
    simp
  | m + 1, hm => by
    have ih := Jr_wF h h1 h2 hn h0 m (by omega)
    have ho := h.2.2.1 (m + 1) hm
    rw [wF, ih, ho]
    by_cases hlt : m + 1 < n
    · rw [decide_eq_true hlt, if_pos rfl]
      have hg := Jr_gap h h1 h2 hn hlt
      simp only [wStep, hg, Bool.not_true, Bool.false_or]
      rw [if_neg]
      simp only [decide_eq_true_eq]
      omega
    · rw [decide_eq_false hlt]; rfl
theorem Jr_fair {cs : List AV} {n r : Nat} (h : Jr cs n r 0) (h1 : 1 ≤ r) (h2 : r ≤ 20) (hn : n ≤ 32) : ∀ m, m ≤ 32 → fairF cs (n : Int) m = true
  | 0, _ => rfl
  | m + 1, hm => by
    have ih := Jr_fair h h1 h2 hn m (by omega)
    have ho := h.2.2.1 m (by omega)
    simp only [fairF, ih, ho, Bool.true_and]
    by_cases hlt : m < n
    · have hg := Jr_gap h h1 h2 hn hlt
      have q := (h.2.2.2 m (by omega) hlt).2.2
      have e6 : getI (subL cs (m * 7 + 33) 7) 6 = sQ cs m := sub_get (by omega)
      simp only [fB, hg, e6]
      rw [decide_eq_true (p := sQ cs m ≤ (n : Int)) q.2, decide_eq_true (p := (n : Int) - 1 - (m : Int) < (n : Int)) (by omega)]
      simp
    · rw [decide_eq_false hlt]; rfl
theorem Jr_unfair {cs : List AV} {n r : Nat} (h : Jr cs n r 0) (h1 : 1 ≤ r) (h2 : r ≤ 20) (hn : n ≤ 32) (h0 : 1 ≤ n) : fairF cs ((n : Int) - 1) 32 = false := by
  refine fairF_false (n := 1) ?_ 31
  have ho := h.2.2.1 0 (by omega)
  rw [decide_eq_true (by omega)] at ho
  have hg := Jr_gap h h1 h2 hn (i := 0) (by omega)
  simp only [fairF, ho, Bool.true_and, Bool.not_true, Bool.false_or, fB, hg]
  rw [decide_eq_false (p := (n : Int) - 1 - ((0 : Nat) : Int) < (n : Int) - 1) (by omega)]
  simp
def intsU : List AV → Bool := fun ys => match ys with
  | [.agg g, .ptr _ n] => okI .i64 g 0 n
  | _ => false
def JoU : List AV → Bool := fun ys => match ys with
  | [.agg cs, .int _ n] => @decide (0 ≤ n ∧ n ≤ 32 ∧ Jo cs n.toNat) (by unfold Jo; infer_instance)
  | _ => false
def JrU : List AV → Bool := fun ys => match ys with
  | [.agg cs, .int _ n, .int _ r, .int _ k] => @decide ((0 ≤ n ∧ n ≤ 32) ∧ (0 ≤ r ∧ r ≤ 20) ∧ Jr cs n.toNat r.toNat k.toNat) (by unfold Jr; infer_instance)
  | _ => false
theorem rd_b0 (G : Nat → List AV) (cs : List AV) (k m : Nat) (rs c i : Int) (Q : Ex → List AV → Hp → Prop) (R : AV → Hp → Prop) : vT G Q R (dloop (Dc Try.prog [9, 16] progR [] 0) 300 20 0 (loopN Try.f4 0) 110 [0, 1, 5, 6, 7] [.slice true (.ro (.var 1 k)) (.lit 0) (.var 2 m), .int .i64 (.var 3 rs), .ptr (.rw 0) (.lit 0), .int .i64 (.var 4 c), .int .i64 (.var 6 i)] [some ⟨1, .var 8 cs⟩]) = (
    (decide ((i : Int) < ((m : Nat) : Int)) = true →
      (decide ((i : Int) < 32) = true →
        decide ((0 : Int) ≤ i) = true ∧
        decide ((i : Int) < ((m : Nat) : Int)) = true ∧
        isI .i64 (G (k)) (Int.toNat (i)) = true ∧
        okSU [.agg cs] = true ∧
        (((openEU [.agg cs, .int .i64 (kAnd .i64 (getI (G (k)) (Int.toNat (i))) (7))] : Int) == 0) = true →
          Q .normal [.slice true (.ro (k)) (0) (m), .int .i64 (rs), .ptr (.rw 0) (0), .int .i64 (IntKind.wrap .i64 (c + 1)), .int .i64 (IntKind.wrap .i64 (i + 1))] [some ⟨1, (openRU [.agg cs, .int .i64 (kAnd .i64 (getI (G (k)) (Int.toNat (i))) (7))])⟩]) ∧
        (((openEU [.agg cs, .int .i64 (kAnd .i64 (getI (G (k)) (Int.toNat (i))) (7))] : Int) == 0) = false →
          Q .ret [.slice true (.ro (k)) (0) (m), .int .i64 (rs), .ptr (.rw 0) (0), .int .i64 (c), .int .i64 (i)] [some ⟨1, (openRU [.agg cs, .int .i64 (kAnd .i64 (getI (G (k)) (Int.toNat (i))) (7))])⟩])) ∧
      (decide ((i : Int) < 32) = false →
        Q (.exit 0) [.slice true (.ro (k)) (0) (m), .int .i64 (rs), .ptr (.rw 0) (0), .int .i64 (c), .int .i64 (i)] [some ⟨1, cs⟩])) ∧
    (decide ((i : Int) < ((m : Nat) : Int)) = false →
      Q (.exit 0) [.slice true (.ro (k)) (0) (m), .int .i64 (rs), .ptr (.rw 0) (0), .int .i64 (c), .int .i64 (i)] [some ⟨1, cs⟩])) := by kernel_rfl
theorem rd_b4 (G : Nat → List AV) (cs : List AV) (rs n r i : Int) (Q : Ex → List AV → Hp → Prop) (R : AV → Hp → Prop) : vT G Q R (dloop (Dc Try.prog [9, 16] progR [] 0) 300 20 0 (loopN Try.f4 2) 110 [1, 5, 6, 10, 11] [.int .i64 (.var 3 rs), .ptr (.rw 0) (.lit 0), .int .i64 (.var 4 n), .int .i64 (.var 5 r), .int .i64 (.var 6 i)] [some ⟨1, .var 8 cs⟩]) = (
    (decide ((i : Int) < n) = true →
      okTU [.agg cs] = true ∧
      (((pickNU [.agg cs, .int .i64 (i)] : Int) == i) = true →
        (((pickEU [.agg cs, .int .i64 (i)] : Int) == 0) = true →
          Q .normal [.int .i64 (rs), .ptr (.rw 0) (0), .int .i64 (n), .int .i64 (r), .int .i64 (IntKind.wrap .i64 (i + 1))] [some ⟨1, (pickRU [.agg cs, .int .i64 (i)])⟩]) ∧
        (((pickEU [.agg cs, .int .i64 (i)] : Int) == 0) = false →
          Q .ret [.int .i64 (rs), .ptr (.rw 0) (0), .int .i64 (n), .int .i64 (r), .int .i64 (i)] [some ⟨1, (pickRU [.agg cs, .int .i64 (i)])⟩])) ∧
      (((pickNU [.agg cs, .int .i64 (i)] : Int) == i) = false →
        Q .ret [.int .i64 (rs), .ptr (.rw 0) (0), .int .i64 (n), .int .i64 (r), .int .i64 (i)] [some ⟨1, (pickRU [.agg cs, .int .i64 (i)])⟩])) ∧
    (decide ((i : Int) < n) = false →
      Q (.exit 4) [.int .i64 (rs), .ptr (.rw 0) (0), .int .i64 (n), .int .i64 (r), .int .i64 (i)] [some ⟨1, cs⟩])) := by kernel_rfl
theorem kAnd_le7 (x : Int) : 0 ≤ kAnd .i64 x 7 ∧ kAnd .i64 x 7 < 8 := by
  unfold kAnd
  have e : (BitVec.ofInt IntKind.i64.bits x &&& BitVec.ofInt IntKind.i64.bits 7).toNat ≤ 7 := by
    rw [BitVec.toNat_and]
    exact Nat.le_trans Nat.and_le_right (by decide)
  rw [i64_in (by omega)]
  omega
/-- a loop whose summary is lacking -/
theorem DLoopsOk.more {C : Ctx} {M : Nat} {c : Code} {cs : List Code} {l : List DL} {i : Nat} (he : exOf c = some i) (hp : dpick i l = Option.none) (k : DLoopsOk C M cs (dloops l)) : DLoopsOk C M (c :: cs) (dloops l) := by
  intro m c' F H o hm hc ho n Q hQ
  rcases List.mem_cons.1 hc with rfl | hc
  · obtain ⟨d', h1, _⟩ := dloops_pick he l ho
    rw [hp] at h1; cases h1
  · exact k m c' F H o hm hc ho n Q hQ
theorem rd_loop0 (G : Nat → List AV) (B : Nat) (cs : List AV) (hJ : Jo cs 0) (k m : Nat) (rs : Int) (hk : okI .i64 (G k) 0 m = true) :
    AWp (⟨Try.prog, G, B⟩ : Ctx) 0 (.loop (loopN Try.f4 0)) (fl 110 [0, 1, 5, 6, 7] [.slice true (.ro k) 0 m, .int .i64 rs, .ptr (.rw 0) 0, .int .i64 0, .int .i64 0]) [some ⟨1, cs⟩]
      (lv 110 [0, 1, 5, 6, 7] fun e vs H => e = .exit 0 ∧ ∃ c : Nat, c ≤ 32 ∧ wk [.undef, .int .i64 rs, .ptr (.rw 0) 0, .int .i64 (c : Int), .undef] vs ∧ ∃ cs, Jo cs c ∧ H = [some ⟨1, cs⟩]) := by
  refine aloop_lv (fun j vs H => ∃ i : Nat, i ≤ 32 ∧ j = 32 - i ∧ vs = [.slice true (.ro k) 0 m, .int .i64 rs, .ptr (.rw 0) 0, .int .i64 (i : Int), .int .i64 (i : Int)] ∧ ∃ cs, Jo cs i ∧ H = [some ⟨1, cs⟩]) 32 ⟨0, by omega, rfl, rfl, cs, hJ, rfl⟩ ?_
  rintro j vs H ⟨i, hi, rfl, rfl, cs, hJ, rfl⟩
  refine dloop_ok (C := (⟨Try.prog, G, B⟩ : Ctx)) (dgR G B) (fuel := 300) (n0 := 20) (m := 0) (c := loopN Try.f4 0) (vs := [.slice true (.ro (.var 1 k)) (.lit 0) (.var 2 m), .int .i64 (.var 3 rs), .ptr (.rw 0) (.lit 0), .int .i64 (.var 4 (i : Int)), .int .i64 (.var 6 (i : Int))]) (H := [some ⟨1, .var 8 cs⟩]) (by simp) ?_
  rw [rd_b0]
  simp only [Int.toNat_natCast]
  have hb := kAnd_le7 (getI (G k) i)
  refine ⟨fun h => ⟨fun h' => ⟨decide_eq_true (by omega), h, ?_, (okT_iff.1 hJ.1).1, fun he => ?_, fun he => ?_⟩, fun h' => ?_⟩, fun h => ?_⟩
  · have := of_decide_eq_true h
    have := okI_get hk (j := i) (by omega)
    rwa [Nat.zero_add] at this
  · have h32 := of_decide_eq_true h'
    have := Jo_open hJ (by omega) hb.1 hb.2
    rw [i64_in (by omega)]
    exact ⟨32 - (i + 1), by omega, .inl ⟨i + 1, by omega, rfl, rfl, _, this.2, rfl⟩⟩
  · have h32 := of_decide_eq_true h'
    have := Jo_open hJ (by omega) hb.1 hb.2
    rw [show openEU [.agg cs, .int .i64 (kAnd .i64 (getI (G k) i) 7)] = openE cs (kAnd .i64 (getI (G k) i) 7) from rfl, this.1] at he
    cases he
  · exact ⟨trivial, i, hi, by simp [wk], cs, hJ, rfl⟩
  · exact ⟨trivial, i, hi, by simp [wk], cs, hJ, rfl⟩
theorem rd_loop4 (G : Nat → List AV) (B : Nat) (cs : List AV) (rs : Int) (n r : Nat) (hJ : Jr cs n r 0) (hn : n ≤ 32) (hr : r ≤ 20) :
    AWp (⟨Try.prog, G, B⟩ : Ctx) 0 (.loop (loopN Try.f4 2)) (fl 110 [1, 5, 6, 10, 11] [.int .i64 rs, .ptr (.rw 0) 0, .int .i64 (n : Int), .int .i64 (r : Int), .int .i64 0]) [some ⟨1, cs⟩]
      (lv 110 [1, 5, 6, 10, 11] fun e vs H => e = .exit 4 ∧ wk [.int .i64 rs, .ptr (.rw 0) 0, .int .i64 (n : Int), .int .i64 (r : Int), .undef] vs ∧ ∃ cs, Jr cs n r n ∧ H = [some ⟨1, cs⟩]) := by
  refine aloop_lv (fun j vs H => ∃ i : Nat, i ≤ n ∧ j = n - i ∧ vs = [.int .i64 rs, .ptr (.rw 0) 0, .int .i64 (n : Int), .int .i64 (r : Int), .int .i64 (i : Int)] ∧ ∃ cs, Jr cs n r i ∧ H = [some ⟨1, cs⟩]) n ⟨0, by omega, rfl, rfl, cs, hJ, rfl⟩ ?_
  rintro j vs H ⟨i, hi, rfl, rfl, cs, hJ, rfl⟩
  refine dloop_ok (C := (⟨Try.prog, G, B⟩ : Ctx)) (dgR G B) (fuel := 300) (n0 := 20) (m := 0) (c := loopN Try.f4 2) (vs := [.int .i64 (.var 3 rs), .ptr (.rw 0) (.lit 0), .int .i64 (.var 4 (n : Int)), .int .i64 (.var 5 (r : Int)), .int .i64 (.var 6 (i : Int))]) (H := [some ⟨1, .var 8 cs⟩]) (by simp) ?_
  rw [rd_b4]
  refine ⟨fun h => ?_, fun h => ?_⟩
  · have h' := of_decide_eq_true h
    obtain ⟨⟨p1, p2⟩, p3⟩ := Jr_pick hJ (by omega) hn hr
    rw [show pickNU [.agg cs, .int .i64 (i : Int)] = pickN cs (i : Int) from rfl, show pickEU [.agg cs, .int .i64 (i : Int)] = pickE cs (i : Int) from rfl, p1, p2]
    refine ⟨hJ.1, fun _ => ⟨fun _ => ?_, fun q => by cases q⟩, fun q => by simp at q⟩
    rw [i64_in (by omega)]
    exact ⟨n - (i + 1), by omega, .inl ⟨i + 1, by omega, rfl, rfl, _, p3, rfl⟩⟩
  · have := of_decide_eq_false h
    have e : i = n := by omega
    subst e
    exact ⟨rfl, by simp [wk], cs, hJ, rfl⟩
def rdL0 : DL := ⟨0, 110, [0, 1, 5, 6, 7], fun vs H => match vs, H with
  | [.slice true (.ro k) (.lit 0) m, .int .i64 rs, .ptr (.rw 0) (.lit 0), .int .i64 (.lit 0), .int .i64 (.lit 0)], [some ⟨1, l⟩] =>
    some (.chk (.uf 1420 intsU [.agg (.ro k), .ptr (.rw 0) m]) (.chk (.uf 1421 JoU [.agg l, .int .i64 (.lit 0)]) (.allI fun c => .allL fun l' => .imp (.uf 1421 JoU [.agg l', .int .i64 c]) (.one (.exit 0) [.undef, .int .i64 rs, .ptr (.rw 0) (.lit 0), .int .i64 c, .undef] [some ⟨1, l'⟩]))))
  | _, _ => none⟩
theorem rdL0_ok (G : Nat → List AV) (B : Nat) : DLoopOk (⟨Try.prog, G, B⟩ : Ctx) 0 (loopN Try.f4 0) rdL0 := by
  refine .of fun vs H o ho n Q hQ => ?_
  simp only [rdL0] at ho
  split at ho
  · rename_i k m rs l
    simp only [Option.some.injEq] at ho
    subst ho
    obtain ⟨h1, h2, h3⟩ := hQ
    simp only [vB, vVs, vV, vL, vR, vN, intsU] at h1
    simp only [vB, vVs, vV, vI, JoU, decide_eq_true_eq] at h2
    simp only [rdL0, vVs, vV, vR, vN, vI, vHp, List.map_cons, List.map_nil, Option.map_some, vBlk]
    refine (rd_loop0 G B _ h2.2.2 _ _ _ h1).lmono ?_
    rintro e vs'' H'' ⟨rfl, c, hc, g2, cs, g3, rfl⟩
    refine .inl ⟨_, g2, ?_⟩
    have := h3 (c : Int) cs (by simp only [vB, vVs, vV, vL, vI, JoU, decide_eq_true_eq, Int.toNat_natCast]; exact ⟨by omega, by omega, g3⟩)
    simp only [lHolds, vVs, vV, vR, vN, vI, vL, vHp, List.map_cons, List.map_nil, Option.map_some, vBlk] at this
    exact this
  · simp at ho
def rdL4 : DL := ⟨4, 110, [1, 5, 6, 10, 11], fun vs H => match vs, H with
  | [.int .i64 rs, .ptr (.rw 0) (.lit 0), .int .i64 n, .int .i64 r, .int .i64 (.lit 0)], [some ⟨1, l⟩] =>
    some (.chk (.uf 1422 JrU [.agg l, .int .i64 n, .int .i64 r, .int .i64 (.lit 0)]) (.allL fun l' => .imp (.uf 1422 JrU [.agg l', .int .i64 n, .int .i64 r, .int .i64 n]) (.one (.exit 4) [.int .i64 rs, .ptr (.rw 0) (.lit 0), .int .i64 n, .int .i64 r, .undef] [some ⟨1, l'⟩])))
  | _, _ => none⟩
theorem rdL4_ok (G : Nat → List AV) (B : Nat) : DLoopOk (⟨Try.prog, G, B⟩ : Ctx) 0 (loopN Try.f4 2) rdL4 := by
  refine .of fun vs H o ho n Q hQ => ?_
  simp only [rdL4] at ho
  split at ho
  · rename_i rs n r l
    simp only [Option.some.injEq] at ho
    subst ho
    obtain ⟨h2, h3⟩ := hQ
    simp only [vB, vVs, vV, vI, JrU, decide_eq_true_eq] at h2
    obtain ⟨⟨n0, n1⟩, ⟨r0, r1⟩, hJ⟩ := h2
    have en : vI G n = ((vI G n).toNat : Int) := by omega
    have er : vI G r = ((vI G r).toNat : Int) := by omega
    simp only [rdL4, vVs, vV, vR, vN, vI, vHp, List.map_cons, List.map_nil, Option.map_some, vBlk]
    rw [en, er]
    refine (rd_loop4 G B _ _ _ _ hJ (by omega) (by omega)).lmono ?_
    rintro e vs'' H'' ⟨rfl, g2, cs, g3, rfl⟩
    refine .inl ⟨_, g2, ?_⟩
    have := h3 cs (by simp only [vB, vVs, vV, vL, vI, JrU, decide_eq_true_eq]; exact ⟨⟨n0, n1⟩, ⟨r0, r1⟩, g3⟩)
    simp only [lHolds, vVs, vV, vR, vN, vI, vL, vHp, List.map_cons, List.map_nil, Option.map_some, vBlk] at this
    rw [en, er] at this
    exact this
  · simp at ho
theorem dgR4 (G : Nat → List AV) (B : Nat) : DGood (⟨Try.prog, G, B⟩ : Ctx) (Dc Try.prog [9, 16] progR [rdL4] 0) (loopsOf (loopN Try.f4 1)) := dgood (mix G B) (by kernel_rfl) (progR_ok G B) (.cast (.cons (i := 4) (by kernel_rfl) rfl (rdL4_ok G B) .nil) (by kernel_rfl))
theorem rd_b2 (G : Nat → List AV) (cs : List AV) (rs n i : Int) (Q : Ex → List AV → Hp → Prop) (R : AV → Hp → Prop) : vT G Q R (dloop (Dc Try.prog [9, 16] progR [rdL4] 0) 300 20 0 (loopN Try.f4 1) 110 [1, 5, 6, 10] [.int .i64 (.var 3 rs), .ptr (.rw 0) (.lit 0), .int .i64 (.var 4 n), .int .i64 (.var 6 i)] [some ⟨1, .var 8 cs⟩]) = (
    (decide ((i : Int) < rs) = true →
      JrU [.agg cs, .int .i64 (n), .int .i64 (i), .int .i64 (0)] = true ∧
      (∀ l20 : List AV,
      (JrU [.agg l20, .int .i64 (n), .int .i64 (i), .int .i64 (n)] = true →
      Q .normal [.int .i64 (rs), .ptr (.rw 0) (0), .int .i64 (n), .int .i64 (IntKind.wrap .i64 (i + 1))] [some ⟨1, l20⟩]))) ∧
    (decide ((i : Int) < rs) = false →
      Q (.exit 2) [.int .i64 (rs), .ptr (.rw 0) (0), .int .i64 (n), .int .i64 (i)] [some ⟨1, cs⟩])) := by kernel_rfl
theorem rd_loop2 (G : Nat → List AV) (B : Nat) (cs : List AV) (rs n : Nat) (hJ : Jr cs n 0 0) (hn : n ≤ 32) (hr : rs ≤ 20) :
    AWp (⟨Try.prog, G, B⟩ : Ctx) 0 (.loop (loopN Try.f4 1)) (fl 110 [1, 5, 6, 10] [.int .i64 (rs : Int), .ptr (.rw 0) 0, .int .i64 (n : Int), .int .i64 0]) [some ⟨1, cs⟩]
      (lv 110 [1, 5, 6, 10] fun e vs H => e = .exit 2 ∧ wk [.undef, .ptr (.rw 0) 0, .int .i64 (n : Int), .undef] vs ∧ ∃ cs, Jr cs n rs 0 ∧ H = [some ⟨1, cs⟩]) := by
  refine aloop_lv (fun j vs H => ∃ i : Nat, i ≤ rs ∧ j = rs - i ∧ vs = [.int .i64 (rs : Int), .ptr (.rw 0) 0, .int .i64 (n : Int), .int .i64 (i : Int)] ∧ ∃ cs, Jr cs n i 0 ∧ H = [some ⟨1, cs⟩]) rs ⟨0, by omega, rfl, rfl, cs, hJ, rfl⟩ ?_
  rintro j vs H ⟨i, hi, rfl, rfl, cs, hJ, rfl⟩
  refine dloop_ok (C := (⟨Try.prog, G, B⟩ : Ctx)) (dgR4 G B) (fuel := 300) (n0 := 20) (m := 0) (c := loopN Try.f4 1) (vs := [.int .i64 (.var 3 (rs : Int)), .ptr (.rw 0) (.lit 0), .int .i64 (.var 4 (n : Int)), .int .i64 (.var 6 (i : Int))]) (H := [some ⟨1, .var 8 cs⟩]) (by simp) ?_
  rw [rd_b2]
  refine ⟨fun h => ?_, fun h => ?_⟩
  · have h' := of_decide_eq_true h
    refine ⟨?_, fun l hl => ?_⟩
    · simp only [JrU, decide_eq_true_eq, Int.toNat_natCast]
      exact ⟨⟨by omega, by omega⟩, ⟨by omega, by omega⟩, hJ⟩
    · simp only [JrU, decide_eq_true_eq, Int.toNat_natCast] at hl
      rw [i64_in (by omega)]
      exact ⟨rs - (i + 1), by omega, .inl ⟨i + 1, by omega, rfl, rfl, l, Jr_next hl.2.2, rfl⟩⟩
  · have := of_decide_eq_false h
    have e : i = rs := by omega
    subst e
    exact ⟨rfl, by simp [wk], cs, hJ, rfl⟩
def rdL2 : DL := ⟨2, 110, [1, 5, 6, 10], fun vs H => match vs, H with
  | [.int .i64 rs, .ptr (.rw 0) (.lit 0), .int .i64 n, .int .i64 (.lit 0)], [some ⟨1, l⟩] =>
    some (.chk (.uf 1422 JrU [.agg l, .int .i64 n, .int .i64 (.lit 0), .int .i64 (.lit 0)]) (.chk (.cmp .leq (.lit 0) rs) (.chk (.cmp .leq rs (.lit 20)) (.allL fun l' => .imp (.uf 1422 JrU [.agg l', .int .i64 n, .int .i64 rs, .int .i64 (.lit 0)]) (.one (.exit 2) [.undef, .ptr (.rw 0) (.lit 0), .int .i64 n, .undef] [some ⟨1, l'⟩])))))
  | _, _ => none⟩
theorem rdL2_ok (G : Nat → List AV) (B : Nat) : DLoopOk (⟨Try.prog, G, B⟩ : Ctx) 0 (loopN Try.f4 1) rdL2 := by
  refine .of fun vs H o ho n Q hQ => ?_
  simp only [rdL2] at ho
  split at ho
  · rename_i rs n l
    simp only [Option.some.injEq] at ho
    subst ho
    obtain ⟨h2, h4, h5, h3⟩ := hQ
    simp only [vB, vVs, vV, vI, JrU, decide_eq_true_eq] at h2
    have h4 : 0 ≤ vI G rs := of_decide_eq_true h4
    have h5 : vI G rs ≤ 20 := of_decide_eq_true h5
    obtain ⟨⟨n0, n1⟩, _, hJ⟩ := h2
    have en : vI G n = ((vI G n).toNat : Int) := by omega
    have er : vI G rs = ((vI G rs).toNat : Int) := by omega
    simp only [rdL2, vVs, vV, vR, vN, vI, vHp, List.map_cons, List.map_nil, Option.map_some, vBlk]
    rw [en, er]
    refine (rd_loop2 G B _ _ _ hJ (by omega) (by omega)).lmono ?_
    rintro e vs'' H'' ⟨rfl, g2, cs, g3, rfl⟩
    refine .inl ⟨_, g2, ?_⟩
    have := h3 cs (by simp only [vB, vVs, vV, vL, vI, JrU, decide_eq_true_eq]; exact ⟨⟨n0, n1⟩, ⟨h4, h5⟩, g3⟩)
    simp only [lHolds, vVs, vV, vR, vN, vI, vL, vHp, List.map_cons, List.map_nil, Option.map_some, vBlk] at this
    rw [en] at this
    exact this
  · simp at ho
theorem dgRR (G : Nat → List AV) (B : Nat) : DGood (⟨Try.prog, G, B⟩ : Ctx) (Dc Try.prog [9, 16] progR [rdL0, rdL2] 0) (loopsOf (bodyOf Try.f4)) := dgood (mix G B) (by kernel_rfl) (progR_ok G B) (.cast (.cons (i := 0) (by kernel_rfl) rfl (rdL0_ok G B) (.cons (i := 2) (by kernel_rfl) rfl (rdL2_ok G B) (.more (c := loopN Try.f4 2) (i := 4) (by kernel_rfl) rfl .nil))) (by kernel_rfl))
theorem rd_run (G : Nat → List AV) (k m : Nat) (rs : Int) (Q : Ex → List AV → Hp → Prop) (R : AV → Hp → Prop) : vT G Q R (dlaw (Dc Try.prog [9, 16] progR [rdL0, rdL2] 0) 400 20 Try.f4 [.slice true (.ro (.var 1 k)) (.lit 0) (.var 2 m), .int .i64 (.var 3 rs)] []) = (
    intsU [.agg (G (k)), .ptr (.rw 0) (m)] = true ∧
    JoU [.agg ([.bool (true), .bool (false), .bool (false), .bool (false), .bool (false), .bool (false), .bool (false), .bool (false), .bool (false), .bool (false), .bool (false), .bool (false), .bool (false), .bool (false), .bool (false), .bool (false), .bool (false), .bool (false), .bool (false), .bool (false), .bool (false), .bool (false), .bool (false), .bool (false), .bool (false), .bool (false), .bool (false), .bool (false), .bool (false), .bool (false), .bool (false), .bool (false), .bool (false), .int .i64 (0), .int .i64 (0), .int .i64 (0), .int .i64 (0), .int .i64 (0), .int .i64 (0), .int .i64 (0), .int .i64 (0), .int .i64 (0), .int .i64 (0), .int .i64 (0), .int .i64 (0), .int .i64 (0), .int .i64 (0), .int .i64 (0), .int .i64 (0), .int .i64 (0), .int .i64 (0), .int .i64 (0), .int .i64 (0), .int .i64 (0), .int .i64 (0), .int .i64 (0), .int .i64 (0), .int .i64 (0), .int .i64 (0), .int .i64 (0), .int .i64 (0), .int .i64 (0), .int .i64 (0), .int .i64 (0), .int .i64 (0), .int .i64 (0), .int .i64 (0), .int .i64 (0), .int .i64 (0), .int .i64 (0), .int .i64 (0), .int .i64 (0), .int .i64 (0), .int .i64 (0), .int .i64 (0), .int .i64 (0), .int .i64 (0), .int .i64 (0), .int .i64 (0), .int .i64 (0), .int .i64 (0), .int .i64 (0), .int .i64 (0), .int .i64 (0), .int .i64 (0), .int .i64 (0), .int .i64 (0), .int .i64 (0), .int .i64 (0), .int .i64 (0), .int .i64 (0), .int .i64 (0), .int .i64 (0), .int .i64 (0), .int .i64 (0), .int .i64 (0), .int .i64 (0), .int .i64 (0), .int .i64 (0), .int .i64 (0), .int .i64 (0), .int .i64 (0), .int .i64 (0), .int .i64 (0), .int .i64 (0), .int .i64 (0), .int .i64 (0), .int .i64 (0), .int .i64 (0), .int .i64 (0), .int .i64 (0), .int .i64 (0), .int .i64 (0), .int .i64 (0), .int .i64 (0), .int .i64 (0), .int .i64 (0), .int .i64 (0), .int .i64 (0), .int .i64 (0), .int .i64 (0), .int .i64 (0), .int .i64 (0), .int .i64 (0), .int .i64 (0), .int .i64 (0), .int .i64 (0), .int .i64 (0), .int .i64 (0), .int .i64 (0), .int .i64 (0), .int .i64 (0), .int .i64 (0), .int .i64 (0), .int .i64 (0), .int .i64 (0), .int .i64 (0), .int .i64 (0), .int .i64 (0), .int .i64 (0), .int .i64 (0), .int .i64 (0), .int .i64 (0), .int .i64 (0), .int .i64 (0), .int .i64 (0), .int .i64 (0), .int .i64 (0), .int .i64 (0), .int .i64 (0), .int .i64 (0), .int .i64 (0), .int .i64 (0), .int .i64 (0), .int .i64 (0), .int .i64 (0), .int .i64 (0), .int .i64 (0), .int .i64 (0), .int .i64 (0), .int .i64 (0), .int .i64 (0), .int .i64 (0), .int .i64 (0), .int .i64 (0), .int .i64 (0), .int .i64 (0), .int .i64 (0), .int .i64 (0), .int .i64 (0), .int .i64 (0), .int .i64 (0), .int .i64 (0), .int .i64 (0), .int .i64 (0), .int .i64 (0), .int .i64 (0), .int .i64 (0), .int .i64 (0), .int .i64 (0), .int .i64 (0), .int .i64 (0), .int .i64 (0), .int .i64 (0), .int .i64 (0), .int .i64 (0), .int .i64 (0), .int .i64 (0), .int .i64 (0), .int .i64 (0), .int .i64 (0), .int .i64 (0), .int .i64 (0), .int .i64 (0), .int .i64 (0), .int .i64 (0), .int .i64 (0), .int .i64 (0), .int .i64 (0), .int .i64 (0), .int .i64 (0), .int .i64 (0), .int .i64 (0), .int .i64 (0), .int .i64 (0), .int .i64 (0), .int .i64 (0), .int .i64 (0), .int .i64 (0), .int .i64 (0), .int .i64 (0), .int .i64 (0), .int .i64 (0), .int .i64 (0), .int .i64 (0), .int .i64 (0), .int .i64 (0), .int .i64 (0), .int .i64 (0), .int .i64 (0), .int .i64 (0), .int .i64 (0), .int .i64 (0), .int .i64 (0), .int .i64 (0), .int .i64 (0), .int .i64 (0), .int .i64 (0), .int .i64 (0), .int .i64 (0), .int .i64 (0), .int .i64 (0), .int .i64 (0), .int .i64 (0), .int .i64 (0), .int .i64 (0), .int .i64 (0), .int .i64 (0), .int .i64 (0), .int .i64 (0), .int .i64 (0), .int .i64 (0), .int .i64 (0), .int .i64 (0), .int .i64 (0), .int .i64 (0), .int .i64 (0), .int .i64 (0), .int .i64 (0), .int .i64 (0), .int .i64 (0), .int .i64 (0), .int .i64 (0), .int .i64 (0), .int .i64 (0), .int .i64 (0), .int .i64 (0), .int .i64 (0)] : List AV), .int .i64 (0)] = true ∧
    (∀ i20 : Int,
    (∀ l21 : List AV,
    (JoU [.agg l21, .int .i64 (i20)] = true →
    (((i20 : Int) == 0) = true →
      R (.bool (true)) []) ∧
    (((i20 : Int) == 0) = false →
      (decide ((rs : Int) < 1) = true →
        R (.bool (true)) []) ∧
      (decide ((rs : Int) < 1) = false →
        (decide ((rs : Int) > 20) = true →
          R (.bool (true)) []) ∧
        (decide ((rs : Int) > 20) = false →
          JrU [.agg l21, .int .i64 (i20), .int .i64 (0), .int .i64 (0)] = true ∧
          decide ((0 : Int) ≤ rs) = true ∧
          decide ((rs : Int) ≤ 20) = true ∧
          (∀ l22 : List AV,
          (JrU [.agg l22, .int .i64 (i20), .int .i64 (rs), .int .i64 (0)] = true →
          okSU [.agg l22] = true ∧
          okSU [.agg l22] = true ∧
          (fairU [.agg l22, .int .i64 (i20)] = true →
            okSU [.agg l22] = true ∧
            (fairU [.agg l22, .int .i64 (IntKind.wrap .i64 (i20 - 1))] = true →
              R (.bool (false)) []) ∧
            (fairU [.agg l22, .int .i64 (IntKind.wrap .i64 (i20 - 1))] = false →
              (((wS32 [.agg l22] : Int) == 0) = true →
                (((wT32 [.agg l22] : Int) == IntKind.wrap .i64 (i20 - 1)) = true →
                  (wO32 [.agg l22] = true →
                    R (.bool (true)) []) ∧
                  (wO32 [.agg l22] = false →
                    R (.bool (false)) [])) ∧
                (((wT32 [.agg l22] : Int) == IntKind.wrap .i64 (i20 - 1)) = false →
                  R (.bool (false)) [])) ∧
              (((wS32 [.agg l22] : Int) == 0) = false →
                R (.bool (false)) []))) ∧
          (fairU [.agg l22, .int .i64 (i20)] = false →
            R (.bool (false)) [])))))))))) := by kernel_rfl
theorem rd_call (G : Nat → List AV) (B : Nat) (k m : Nat) (rs : Int) (hk : okI .i64 (G k) 0 m = true) : ACalls (⟨Try.prog, G, B⟩ : Ctx) 4 [.slice true (.ro k) 0 m, .int .i64 rs] [] fun v _ => v = .bool true := by
  have := dlaw_ok (C := (⟨Try.prog, G, B⟩ : Ctx)) (fuel := 400) (n0 := 20) (f := 4) (fn := Try.f4) (args := [.slice true (.ro (.var 1 k)) (.lit 0) (.var 2 m), .int .i64 (.var 3 rs)]) (H := []) (R := fun v _ => v = .bool true) (dgRR G B) (by kernel_rfl) (by kernel_rfl) (by kernel_rfl) (by
    rw [rd_run]
    refine ⟨hk, by kernel_rfl, fun n l hJ => ⟨fun _ => rfl, fun hn => ⟨fun _ => rfl, fun h1 => ⟨fun _ => rfl, fun h2 => ?_⟩⟩⟩⟩
    simp only [JoU, decide_eq_true_eq] at hJ
    have h1 := of_decide_eq_false h1
    have h2 := of_decide_eq_false h2
    have hn : ¬ n = 0 := by simpa using hn
    obtain ⟨n0, n1, hJ⟩ := hJ
    refine ⟨?_, decide_eq_true (by omega), decide_eq_true (by omega), fun l2 hR => ?_⟩
    · simp only [JrU, decide_eq_true_eq]
      exact ⟨⟨n0, n1⟩, ⟨by omega, by omega⟩, Jo_Jr hJ⟩
    · simp only [JrU, decide_eq_true_eq] at hR
      obtain ⟨_, _, hR⟩ := hR
      have hR : Jr l2 n.toNat rs.toNat 0 := hR
      have en : ((n.toNat : Nat) : Int) = n := by omega
      have hs := (okT_iff.1 hR.1).1
      have f1 := Jr_fair hR (by omega) (by omega) (by omega) 32 (Nat.le_refl _)
      have f2 := Jr_unfair hR (by omega) (by omega) (by omega) (by omega)
      have f3 := Jr_wF hR (by omega) (by omega) (by omega) (by omega) 31 (by omega)
      rw [en] at f1 f2 f3
      have ew : IntKind.wrap .i64 (n - 1) = n - 1 := i64_in (by omega)
      rw [ew, show fairU [.agg l2, .int .i64 n] = true from f1, show fairU [.agg l2, .int .i64 (n - 1)] = false from f2,
        show wS32 [.agg l2] = 0 by simp only [wS32, f3], show wT32 [.agg l2] = n - 1 by simp only [wT32, f3], show wO32 [.agg l2] = true by simp only [wO32, f3]]
      refine ⟨hs, hs, fun _ => ⟨hs, fun q => (by cases q), fun _ => ⟨fun _ => ⟨fun _ => ⟨fun _ => rfl, fun q => (by cases q)⟩, fun q => ?_⟩, fun q => (by cases q)⟩⟩, fun q => (by cases q)⟩
      simp at q)
  exact this
end Go.Am
