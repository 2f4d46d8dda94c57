/-
  SlicesCounts: the loops and the run.
-/
import Derived.Test.YtfalglcagngbnaaSlF
import Derived.Test.YtfalglcagngbnaaSlH
import Derived.Test.YtfalglcagngbnaaProg
namespace Go.Am
open Go.Proofs
set_option maxRecDepth 100000
theorem dgT (G : Nat → List AV) (B : Nat) : DGood (⟨Try.prog, G, B⟩ : Ctx) (Dc Try.prog [9] progT [] 0) [] := dgood (mix G B) (by kernel_rfl) (progT_ok G B) .nil
def stepsT : List AV → Bool := fun xs => match xs with
  | [.agg g, .ptr _ n] => okI .i64 g 0 (n * 3)
  | _ => false
/-- how a table stands after at most t steps of which none closes a slot -/
def Jc (cs : List AV) (t : Int) : Prop :=
  okT cs = true ∧ (∀ i, i < 32 → sO cs i = true → 0 ≤ sG cs i → sO cs (sG cs i).toNat = true) ∧ (∀ i, i < 32 → sO cs i = false → sP cs i = 0 ∧ sR cs i = 0) ∧
  (∀ i, i < 32 → (0 ≤ sP cs i ∧ sP cs i ≤ t) ∧ (0 ≤ sR cs i ∧ sR cs i ≤ t)) ∧ (sumN 32 (sP cs) = tk cs ∧ sumN 32 (sR cs) = tk cs) ∧ 0 ≤ tk cs ∧ tk cs ≤ t
def JcU : List AV → Bool := fun xs => match xs with
  | [.agg cs, .int _ t] => @decide (Jc cs t) (by unfold Jc; infer_instance)
  | _ => false
theorem Jc.mono {cs : List AV} {t t' : Int} (h : Jc cs t) (ht : t ≤ t') : Jc cs t' :=
  let ⟨h1, h2, h3, h4, h5, h6, h7⟩ := h
  ⟨h1, h2, h3, fun i hi => by have := h4 i hi; omega, h5, h6, by omega⟩
theorem Jc_open {cs : List AV} {t : Int} (h : Jc cs t) (a : Int) : Jc (openR cs a) t := by
  obtain ⟨h1, h2, h3, h4, ⟨h5, h5'⟩, h6, h7⟩ := h
  have hs := (okT_iff.1 h1).1
  have hg := (okT_iff.1 h1).2
  have eP : ∀ i, i < 32 → sP (openR cs a) i = sP cs i := fun i hi => by
    have e := openR_f hs a (j := 3) (by omega) hi
    have e' : sP (openR cs a) i = if opens cs a = true ∧ i = oN cs then getI (slotA (oN cs) a (tk cs)) 3 else sP cs i := e
    rw [e']
    split
    · rename_i hc
      obtain ⟨_, rfl⟩ := hc
      rw [(h3 _ hi (oN_free cs hi)).1]; rfl
    · rfl
  have eR : ∀ i, i < 32 → sR (openR cs a) i = sR cs i := fun i hi => by
    have e := openR_f hs a (j := 4) (by omega) hi
    have e' : sR (openR cs a) i = if opens cs a = true ∧ i = oN cs then getI (slotA (oN cs) a (tk cs)) 4 else sR cs i := e
    rw [e']
    split
    · rename_i hc
      obtain ⟨_, rfl⟩ := hc
      rw [(h3 _ hi (oN_free cs hi)).2]; rfl
    · rfl
  have eG : ∀ i, i < 32 → sG (openR cs a) i = if opens cs a = true ∧ i = oN cs then -1 else sG cs i := fun i hi => openR_f hs a (j := 2) (by omega) hi
  have eO : ∀ i, i < 32 → sO (openR cs a) i = if opens cs a = true ∧ i = oN cs then true else sO cs i := fun i hi => openR_O hs a i hi
  have up : ∀ i, i < 32 → sO cs i = true → sO (openR cs a) i = true := fun i hi ho => by rw [eO i hi]; split <;> first | rfl | exact ho
  refine ⟨okT_openR h1 a, fun i hi ho hgi => ?_, fun i hi ho => ?_, fun i hi => ?_, ⟨?_, ?_⟩, ?_⟩
  · rw [eG i hi] at hgi ⊢
    split at hgi
    · omega
    · rename_i hc
      rw [if_neg hc]
      rw [eO i hi, if_neg hc] at ho
      have := hg i hi
      exact up _ (by unfold sG at *; omega) (h2 i hi ho hgi)
  · rw [eO i hi] at ho
    split at ho
    · cases ho
    · rw [eP i hi, eR i hi]; exact h3 i hi ho
  · rw [eP i hi, eR i hi]; exact h4 i hi
  · rw [sumN_congr 32 eP, openR_tk hs]; exact h5
  · rw [sumN_congr 32 eR, openR_tk hs]; exact h5'
  · rw [openR_tk hs]; exact ⟨h6, h7⟩
theorem Jc_give {cs : List AV} {t : Int} (h : Jc cs t) (a b : Int) : Jc (giveR cs a b) t := by
  obtain ⟨h1, h2, h3, h4, ⟨h5, h5'⟩, h6, h7⟩ := h
  have hs := (okT_iff.1 h1).1
  have hg := (okT_iff.1 h1).2
  have eI : ∀ o, (∀ n, n < 32 → o ≠ n * 7 + 35) → getI (giveR cs a b) o = getI cs o := fun o ho => by
    rw [giveR_I hs]
    split
    · rename_i hc
      have h' := hc.1
      simp only [gives, Bool.and_eq_true] at h'
      have ha := isO_spec h'.1
      exact absurd hc.2 (ho _ (by omega))
    · rfl
  have eP : ∀ i, i < 32 → sP (giveR cs a b) i = sP cs i := fun i hi => eI _ fun n _ => by omega
  have eR : ∀ i, i < 32 → sR (giveR cs a b) i = sR cs i := fun i hi => eI _ fun n _ => by omega
  have eT : tk (giveR cs a b) = tk cs := eI _ fun n _ => by omega
  have eO : ∀ i, i < 32 → sO (giveR cs a b) i = sO cs i := fun i hi => giveR_O hs a b i hi
  refine ⟨okT_giveR h1 a b, fun i hi ho hgi => ?_, fun i hi ho => ?_, fun i hi => ?_, ⟨?_, ?_⟩, ?_⟩
  · rw [eO i hi] at ho
    have eG : sG (giveR cs a b) i = if gives cs a b = true ∧ i * 7 + 35 = a.toNat * 7 + 35 then (if a == b then -1 else b) else sG cs i := giveR_I hs a b
    rw [eG] at hgi ⊢
    split at hgi
    · rename_i hc
      rw [if_pos hc]
      have h' := hc.1
      simp only [gives, Bool.and_eq_true] at h'
      have hb := isO_spec h'.2.1
      split at hgi
      · omega
      · rename_i hab
        rw [if_neg hab, eO _ (by omega)]
        exact hb.2.2
    · rename_i hc
      rw [if_neg hc]
      have := hg i hi
      rw [eO _ (by unfold sG at *; omega)]
      exact h2 i hi ho hgi
  · rw [eO i hi] at ho
    rw [eP i hi, eR i hi]; exact h3 i hi ho
  · rw [eP i hi, eR i hi]; exact h4 i hi
  · rw [sumN_congr 32 eP, eT]; exact h5
  · rw [sumN_congr 32 eR, eT]; exact h5'
  · rw [eT]; exact ⟨h6, h7⟩
theorem w64_in {x : Int} (h : -9223372036854775808 ≤ x ∧ x ≤ 9223372036854775807) : w64 x = x := i64_in h
theorem Jc_pick {cs : List AV} {t : Int} (h : Jc cs t) (ht : t ≤ 1000) (a : Int) : Jc (pickR cs a) (t + 1) := by
  cases ha : isO cs a with
  | false => rw [pickR_not ha]; exact h.mono (by omega)
  | true =>
    obtain ⟨h1, h2, h3, h4, ⟨h5, h5'⟩, h6, h7⟩ := h
    obtain ⟨a0, a1, a2⟩ := isO_iff.1 ha
    have hn : a.toNat < 32 := by omega
    have hr := rn_lt h1 hn
    have hg := (okT_iff.1 h1).2
    have hro : sO cs (rn cs a.toNat) = true := by
      unfold rn
      split
      · rename_i h0; exact h2 _ hn a2 (of_decide_eq_true h0)
      · exact a2
    have eO : ∀ i, i < 32 → sO (pickR cs a) i = sO cs i := fun i hi => pickR_O h1 ha i hi
    have eP : ∀ i, i < 32 → sP (pickR cs a) i = if i = a.toNat then sP cs i + 1 else sP cs i := fun i hi => by
      have := h4 i hi
      rw [pickR_P h1 ha i hi, w64_in (by omega)]
    have eR : ∀ i, i < 32 → sR (pickR cs a) i = if i = rn cs a.toNat then sR cs i + 1 else sR cs i := fun i hi => by
      have := h4 i hi
      rw [pickR_R h1 ha i hi, w64_in (by omega)]
    have eT : tk (pickR cs a) = tk cs + 1 := by rw [pickR_tk h1 ha, w64_in (by omega)]
    refine ⟨okT_pickR h1 a, fun i hi ho hgi => ?_, fun i hi ho => ?_, fun i hi => ?_, ⟨?_, ?_⟩, ?_, ?_⟩
    · rw [eO i hi] at ho
      rw [pickR_G h1 ha i hi] at hgi ⊢
      split at hgi
      · omega
      · rename_i hc
        rw [if_neg hc]
        have := hg i hi
        rw [eO _ (by unfold sG at *; omega)]
        exact h2 i hi ho hgi
    · rw [eO i hi] at ho
      rw [eP i hi, eR i hi, if_neg (by rintro rfl; rw [a2] at ho; cases ho), if_neg (by rintro rfl; rw [hro] at ho; cases ho)]
      exact h3 i hi ho
    · have := h4 i hi
      rw [eP i hi, eR i hi]
      split <;> split <;> omega
    · rw [sumN_one 32 hn eP, eT, h5]
    · rw [sumN_one 32 hr eR, eT, h5']
    · rw [eT]; omega
    · rw [eT]; omega
theorem cn_b0 (G : Nat → List AV) (cs : List AV) (k n : Nat) (i : Int) (Q : Ex → List AV → Hp → Prop) (R : AV → Hp → Prop) : vT G Q R (dloop (Dc Try.prog [9] progT [] 0) 300 20 0 (loopN Try.f3 0) 89 [0, 3, 4] [.slice true (.ro (.var 1 k)) (.lit 0) (.var 2 n), .ptr (.rw 0) (.lit 0), .int .i64 (.var 6 i)] [some ⟨1, .var 8 cs⟩]) = (
    (decide ((i : Int) < ((n : Nat) : Int)) = true →
      (decide ((i : Int) < 300) = true →
        decide ((0 : Int) ≤ i) = true ∧
        decide ((i : Int) < ((n : Nat) : Int)) = true ∧
        isI .i64 (G (k)) ((Int.toNat (i)) * 3) = true ∧
        (((getI (G (k)) ((Int.toNat (i)) * 3) : Int) == 1) = true →
          decide ((0 : Int) ≤ i) = true ∧
          decide ((i : Int) < ((n : Nat) : Int)) = true ∧
          isI .i64 (G (k)) ((Int.toNat (i)) * 3 + 1) = true ∧
          okSU [.agg cs] = true ∧
          Q .normal [.slice true (.ro (k)) (0) (n), .ptr (.rw 0) (0), .int .i64 (IntKind.wrap .i64 (i + 1))] [some ⟨1, (openRU [.agg cs, .int .i64 (getI (G (k)) ((Int.toNat (i)) * 3 + 1))])⟩]) ∧
        (((getI (G (k)) ((Int.toNat (i)) * 3) : Int) == 1) = false →
          (((getI (G (k)) ((Int.toNat (i)) * 3) : Int) == 3) = true →
            decide ((0 : Int) ≤ i) = true ∧
            decide ((i : Int) < ((n : Nat) : Int)) = true ∧
            isI .i64 (G (k)) ((Int.toNat (i)) * 3 + 1) = true ∧
            decide ((0 : Int) ≤ i) = true ∧
            decide ((i : Int) < ((n : Nat) : Int)) = true ∧
            isI .i64 (G (k)) ((Int.toNat (i)) * 3 + 2) = true ∧
            okSU [.agg cs] = true ∧
            Q .normal [.slice true (.ro (k)) (0) (n), .ptr (.rw 0) (0), .int .i64 (IntKind.wrap .i64 (i + 1))] [some ⟨1, (giveRU [.agg cs, .int .i64 (getI (G (k)) ((Int.toNat (i)) * 3 + 1)), .int .i64 (getI (G (k)) ((Int.toNat (i)) * 3 + 2))])⟩]) ∧
          (((getI (G (k)) ((Int.toNat (i)) * 3) : Int) == 3) = false →
            (((getI (G (k)) ((Int.toNat (i)) * 3) : Int) == 4) = true →
              decide ((0 : Int) ≤ i) = true ∧
              decide ((i : Int) < ((n : Nat) : Int)) = true ∧
              isI .i64 (G (k)) ((Int.toNat (i)) * 3 + 1) = true ∧
              okTU [.agg cs] = true ∧
              Q .normal [.slice true (.ro (k)) (0) (n), .ptr (.rw 0) (0), .int .i64 (IntKind.wrap .i64 (i + 1))] [some ⟨1, (pickRU [.agg cs, .int .i64 (getI (G (k)) ((Int.toNat (i)) * 3 + 1))])⟩]) ∧
            (((getI (G (k)) ((Int.toNat (i)) * 3) : Int) == 4) = false →
              Q .normal [.slice true (.ro (k)) (0) (n), .ptr (.rw 0) (0), .int .i64 (IntKind.wrap .i64 (i + 1))] [some ⟨1, cs⟩])))) ∧
      (decide ((i : Int) < 300) = false →
        Q (.exit 0) [.slice true (.ro (k)) (0) (n), .ptr (.rw 0) (0), .int .i64 (i)] [some ⟨1, cs⟩])) ∧
    (decide ((i : Int) < ((n : Nat) : Int)) = false →
      Q (.exit 0) [.slice true (.ro (k)) (0) (n), .ptr (.rw 0) (0), .int .i64 (i)] [some ⟨1, cs⟩])) := by kernel_rfl
theorem cn_b3 (G : Nat → List AV) (cs : List AV) (q r i : Int) (Q : Ex → List AV → Hp → Prop) (R : AV → Hp → Prop) : vT G Q R (dloop (Dc Try.prog [9] progT [] 0) 300 20 0 (loopN Try.f3 1) 89 [3, 5, 6, 7] [.ptr (.rw 0) (.lit 0), .int .i64 (.var 4 q), .int .i64 (.var 5 r), .int .i64 (.var 6 i)] [some ⟨1, .var 8 cs⟩]) = (
    (decide ((i : Int) < 32) = true →
      okSU [.agg cs] = true ∧
      Q .normal [.ptr (.rw 0) (0), .int .i64 (IntKind.wrap .i64 (q + getI (tellLU [.agg cs, .int .i64 (i)]) (3))), .int .i64 (IntKind.wrap .i64 (r + getI (tellLU [.agg cs, .int .i64 (i)]) (4))), .int .i64 (IntKind.wrap .i64 (i + 1))] [some ⟨1, cs⟩, some ⟨1, ([.int .i64 (getI (tellLU [.agg cs, .int .i64 (i)]) (0)), .int .i64 (getI (tellLU [.agg cs, .int .i64 (i)]) (1)), .int .i64 (getI (tellLU [.agg cs, .int .i64 (i)]) (2)), .int .i64 (getI (tellLU [.agg cs, .int .i64 (i)]) (3)), .int .i64 (getI (tellLU [.agg cs, .int .i64 (i)]) (4)), .int .i64 (getI (tellLU [.agg cs, .int .i64 (i)]) (5)), .int .i64 (getI (tellLU [.agg cs, .int .i64 (i)]) (6))] : List AV)⟩]) ∧
    (decide ((i : Int) < 32) = false →
      Q (.exit 3) [.ptr (.rw 0) (0), .int .i64 (q), .int .i64 (r), .int .i64 (i)] [some ⟨1, cs⟩])) := by kernel_rfl
theorem cn_loop0 (G : Nat → List AV) (B : Nat) (cs : List AV) (hJ : Jc cs 0) (k n : Nat) (hk : okI .i64 (G k) 0 (n * 3) = true) :
    AWp (⟨Try.prog, G, B⟩ : Ctx) 0 (.loop (loopN Try.f3 0)) (fl 89 [0, 3, 4] [.slice true (.ro k) 0 n, .ptr (.rw 0) 0, .int .i64 0]) [some ⟨1, cs⟩]
      (lv 89 [0, 3, 4] fun e vs H => e = .exit 0 ∧ wk [.undef, .ptr (.rw 0) 0, .undef] vs ∧ ∃ cs, Jc cs 300 ∧ H = [some ⟨1, cs⟩]) := by
  refine aloop_lv (fun j vs H => ∃ i : Nat, i ≤ n ∧ i ≤ 300 ∧ j = 300 - i ∧ vs = [.slice true (.ro k) 0 n, .ptr (.rw 0) 0, .int .i64 (i : Int)] ∧ ∃ cs, Jc cs i ∧ H = [some ⟨1, cs⟩]) 300
    ⟨0, by omega, by omega, rfl, rfl, cs, hJ, rfl⟩ ?_
  rintro j vs H ⟨i, hi1, hi2, rfl, rfl, cs, hJ, rfl⟩
  refine dloop_ok (C := (⟨Try.prog, G, B⟩ : Ctx)) (dgT G B) (fuel := 300) (n0 := 20) (m := 0) (c := loopN Try.f3 0) (vs := [.slice true (.ro (.var 1 k)) (.lit 0) (.var 2 n), .ptr (.rw 0) (.lit 0), .int .i64 (.var 6 (i : Int))]) (H := [some ⟨1, .var 8 cs⟩]) (by simp) ?_
  rw [cn_b0]
  have hst : i < n → ∀ j, j < 3 → isI .i64 (G k) (i * 3 + j) = true := fun h j hj => by
    have := okI_get hk (j := i * 3 + j) (by omega)
    rwa [Nat.zero_add] at this
  have nx : i < n → i < 300 → ∀ cs', Jc cs' ((i : Int) + 1) → ∃ k', k' < 300 - i ∧ ((∃ i' : Nat, i' ≤ n ∧ i' ≤ 300 ∧ k' = 300 - i' ∧ [AV.slice true (.ro k) 0 n, .ptr (.rw 0) 0, .int .i64 (IntKind.wrap .i64 ((i : Int) + 1))] = [.slice true (.ro k) 0 n, .ptr (.rw 0) 0, .int .i64 (i' : Int)] ∧ ∃ cs, Jc cs i' ∧ ([some ⟨1, cs'⟩] : Hp) = [some ⟨1, cs⟩]) ∨
      ∃ vs'' H'', (∃ i' : Nat, i' ≤ n ∧ i' ≤ 300 ∧ k' = 300 - i' ∧ vs'' = [.slice true (.ro k) 0 n, .ptr (.rw 0) 0, .int .i64 (i' : Int)] ∧ ∃ cs, Jc cs i' ∧ H'' = [some ⟨1, cs⟩]) ∧ View 0 vs'' H'' [AV.slice true (.ro k) 0 n, .ptr (.rw 0) 0, .int .i64 (IntKind.wrap .i64 ((i : Int) + 1))] [some ⟨1, cs'⟩]) := fun h1 h2 cs' h3 =>
    ⟨300 - (i + 1), by omega, .inl ⟨i + 1, by omega, by omega, rfl, by rw [i64_in (by omega)]; rfl, cs', h3, rfl⟩⟩
  simp only [Int.toNat_natCast]
  repeat' first | refine And.intro ?_ ?_ | intro _
  all_goals try simp only [decide_eq_true_eq, decide_eq_false_iff_not] at *
  all_goals first
    | omega
    | exact (okT_iff.1 hJ.1).1
    | exact hJ.1
    | exact hst (by omega) 0 (by omega)
    | exact hst (by omega) 1 (by omega)
    | exact hst (by omega) 2 (by omega)
    | exact nx (by omega) (by omega) cs (hJ.mono (by omega))
    | exact nx (by omega) (by omega) _ ((Jc_open hJ _).mono (by omega))
    | exact nx (by omega) (by omega) _ ((Jc_give hJ _ _).mono (by omega))
    | exact nx (by omega) (by omega) _ (Jc_pick hJ (by omega) _)
    | rfl
    | exact ⟨cs, hJ.mono (by omega), rfl⟩
    | (simp [wk]; done)
theorem tell_P {cs : List AV} {t : Int} (hJ : Jc cs t) {i : Nat} (hi : i < 32) : getI (tellLU [.agg cs, .int .i64 (i : Int)]) 3 = sP cs i ∧ getI (tellLU [.agg cs, .int .i64 (i : Int)]) 4 = sR cs i := by
  show getI (tellL cs (i : Int)) 3 = sP cs i ∧ getI (tellL cs (i : Int)) 4 = sR cs i
  unfold tellL
  rw [isO_nat hi]
  cases ho : sO cs i with
  | false => rw [(hJ.2.2.1 i hi ho).1, (hJ.2.2.1 i hi ho).2]; exact ⟨rfl, rfl⟩
  | true =>
    rw [if_pos rfl, Int.toNat_natCast]
    unfold subL sP sR getI
    rw [List.getElem?_take, if_pos (by omega), List.getElem?_drop, List.getElem?_take, if_pos (by omega), List.getElem?_drop]
    exact ⟨rfl, rfl⟩
theorem cn_loop3 (G : Nat → List AV) (B : Nat) (cs : List AV) (hJ : Jc cs 300) :
    AWp (⟨Try.prog, G, B⟩ : Ctx) 0 (.loop (loopN Try.f3 1)) (fl 89 [3, 5, 6, 7] [.ptr (.rw 0) 0, .int .i64 0, .int .i64 0, .int .i64 0]) [some ⟨1, cs⟩]
      (lv 89 [3, 5, 6, 7] fun e vs H => e = .exit 3 ∧ wk [.ptr (.rw 0) 0, .int .i64 (tk cs), .int .i64 (tk cs), .undef] vs ∧ H = [some ⟨1, cs⟩]) := by
  refine aloop_lv (fun j vs H => ∃ i : Nat, i ≤ 32 ∧ j = 32 - i ∧ vs = [.ptr (.rw 0) 0, .int .i64 (sumN i (sP cs)), .int .i64 (sumN i (sR cs)), .int .i64 (i : Int)] ∧ H = [some ⟨1, cs⟩]) 32
    ⟨0, by omega, rfl, rfl, rfl⟩ ?_
  rintro j vs H ⟨i, hi1, rfl, rfl, rfl⟩
  refine dloop_ok (C := (⟨Try.prog, G, B⟩ : Ctx)) (dgT G B) (fuel := 300) (n0 := 20) (m := 0) (c := loopN Try.f3 1) (vs := [.ptr (.rw 0) (.lit 0), .int .i64 (.var 4 (sumN i (sP cs))), .int .i64 (.var 5 (sumN i (sR cs))), .int .i64 (.var 6 (i : Int))]) (H := [some ⟨1, .var 8 cs⟩]) (by simp) ?_
  rw [cn_b3]
  refine ⟨fun h => ⟨(okT_iff.1 hJ.1).1, ?_⟩, fun h => ⟨rfl, ?_, rfl⟩⟩
  · have hi : i < 32 := by have := of_decide_eq_true h; omega
    have b1 := sumN_le (f := sP cs) (b := 300) (by omega) (i + 1) fun k hk => (hJ.2.2.2.1 k (by omega)).1
    have b2 := sumN_le (f := sR cs) (b := 300) (by omega) (i + 1) fun k hk => (hJ.2.2.2.1 k (by omega)).2
    rw [(tell_P hJ hi).1, (tell_P hJ hi).2]
    have e1 : IntKind.wrap .i64 (sumN i (sP cs) + sP cs i) = sumN (i + 1) (sP cs) := by
      have : sumN (i + 1) (sP cs) = sumN i (sP cs) + sP cs i := rfl
      rw [← this, i64_in (by omega)]
    have e2 : IntKind.wrap .i64 (sumN i (sR cs) + sR cs i) = sumN (i + 1) (sR cs) := by
      have : sumN (i + 1) (sR cs) = sumN i (sR cs) + sR cs i := rfl
      rw [← this, i64_in (by omega)]
    rw [e1, e2, i64_in (n := (i : Int) + 1) (by omega)]
    refine ⟨32 - (i + 1), by omega, .inr ⟨[.ptr (.rw 0) 0, .int .i64 (sumN (i + 1) (sP cs)), .int .i64 (sumN (i + 1) (sR cs)), .int .i64 ((i + 1 : Nat) : Int)], [some ⟨1, cs⟩], ⟨i + 1, by omega, rfl, rfl, rfl⟩, ?_⟩⟩
    refine View.same (G := [_]) (by simp) ?_ (by simp [fv, bnd])
    simp only [hpB, okS_flat (okT_iff.1 hJ.1).1, Bool.and_self]
  · have : i = 32 := by have := of_decide_eq_false h; omega
    subst this
    rw [hJ.2.2.2.2.1.1, hJ.2.2.2.2.1.2]
    simp [wk]
def cnL0 : DL := ⟨0, 89, [0, 3, 4], fun vs H => match vs, H with
  | [.slice true (.ro k) (.lit 0) n, .ptr (.rw 0) (.lit 0), .int .i64 (.lit 0)], [some ⟨1, l⟩] =>
    some (.chk (.uf 1314 stepsT [.agg (.ro k), .ptr (.rw 0) n]) (.chk (.uf 1315 JcU [.agg l, .int .i64 (.lit 0)]) (.allL fun l' => .imp (.uf 1315 JcU [.agg l', .int .i64 (.lit 300)]) (.one (.exit 0) [.undef, .ptr (.rw 0) (.lit 0), .undef] [some ⟨1, l'⟩]))))
  | _, _ => none⟩
theorem cnL0_ok (G : Nat → List AV) (B : Nat) : DLoopOk (⟨Try.prog, G, B⟩ : Ctx) 0 (loopN Try.f3 0) cnL0 := by
  refine .of fun vs H o ho n Q hQ => ?_
  simp only [cnL0] at ho
  split at ho
  · rename_i k n l
    simp only [Option.some.injEq] at ho
    subst ho
    obtain ⟨h1, h2, h3⟩ := hQ
    simp only [vB, vVs, vV, vL, vR, vN, stepsT] at h1
    simp only [vB, vVs, vV, vI, JcU, decide_eq_true_eq] at h2
    simp only [cnL0, vVs, vV, vR, vN, vI, vHp, List.map_cons, List.map_nil, Option.map_some, vBlk]
    refine (cn_loop0 G B _ h2 _ _ h1).lmono ?_
    rintro e vs'' H'' ⟨rfl, g2, cs, g3, rfl⟩
    refine .inl ⟨_, g2, ?_⟩
    have := h3 cs (by simp only [vB, vVs, vV, vL, vI, JcU, decide_eq_true_eq]; exact g3)
    simp only [lHolds, vVs, vV, vR, vN, vI, vL, vHp, List.map_cons, List.map_nil, Option.map_some, vBlk] at this
    exact this
  · simp at ho
def cnL3 : DL := ⟨3, 89, [3, 5, 6, 7], fun vs H => match vs, H with
  | [.ptr (.rw 0) (.lit 0), .int .i64 (.lit 0), .int .i64 (.lit 0), .int .i64 (.lit 0)], [some ⟨1, l⟩] =>
    some (.chk (.uf 1315 JcU [.agg l, .int .i64 (.lit 300)]) (.one (.exit 3) [.ptr (.rw 0) (.lit 0), .int .i64 (.uf 1313 tickU [.agg l]), .int .i64 (.uf 1313 tickU [.agg l]), .undef] [some ⟨1, l⟩]))
  | _, _ => none⟩
theorem cnL3_ok (G : Nat → List AV) (B : Nat) : DLoopOk (⟨Try.prog, G, B⟩ : Ctx) 0 (loopN Try.f3 1) cnL3 := by
  refine .of fun vs H o ho n Q hQ => ?_
  simp only [cnL3] at ho
  split at ho
  · rename_i l
    simp only [Option.some.injEq] at ho
    subst ho
    obtain ⟨h1, h2⟩ := hQ
    simp only [vB, vVs, vV, vI, JcU, decide_eq_true_eq] at h1
    refine lone ?_ h2
    simp only [cnL3, vVs, vV, vR, vN, vI, vL, vHp, List.map_cons, List.map_nil, Option.map_some, vBlk]
    exact cn_loop3 G B _ h1
  · simp at ho
theorem dgCn (G : Nat → List AV) (B : Nat) : DGood (⟨Try.prog, G, B⟩ : Ctx) (Dc Try.prog [9] progT [cnL0, cnL3] 0) (loopsOf (bodyOf Try.f3)) := dgood (mix G B) (by kernel_rfl) (progT_ok G B) (.cast (.cons (i := 0) (by kernel_rfl) rfl (cnL0_ok G B) (.cons (i := 3) (by kernel_rfl) rfl (cnL3_ok G B) .nil)) (by kernel_rfl))
theorem cn_run (G : Nat → List AV) (k n : Nat) (Q : Ex → List AV → Hp → Prop) (R : AV → Hp → Prop) : vT G Q R (dlaw (Dc Try.prog [9] progT [cnL0, cnL3] 0) 400 20 Try.f3 [.slice true (.ro (.var 1 k)) (.lit 0) (.var 2 n)] []) = (
    stepsT [.agg (G (k)), .ptr (.rw 0) (n)] = true ∧
    JcU [.agg ([.bool (true), .bool (false), .bool (false), .bool (false), .bool (false), .bool (false), .bool (false), .bool (false), .bool (false), .bool (false), .bool (false), .bool (false), .bool (false), .bool (false), .bool (false), .bool (false), .bool (false), .bool (false), .bool (false), .bool (false), .bool (false), .bool (false), .bool (false), .bool (false), .bool (false), .bool (false), .bool (false), .bool (false), .bool (false), .bool (false), .bool (false), .bool (false), .bool (false), .int .i64 (0), .int .i64 (0), .int .i64 (0), .int .i64 (0), .int .i64 (0), .int .i64 (0), .int .i64 (0), .int .i64 (0), .int .i64 (0), .int .i64 (0), .int .i64 (0), .int .i64 (0), .int .i64 (0), .int .i64 (0), .int .i64 (0), .int .i64 (0), .int .i64 (0), .int .i64 (0), .int .i64 (0), .int .i64 (0), .int .i64 (0), .int .i64 (0), .int .i64 (0), .int .i64 (0), .int .i64 (0), .int .i64 (0), .int .i64 (0), .int .i64 (0), .int .i64 (0), .int .i64 (0), .int .i64 (0), .int .i64 (0), .int .i64 (0), .int .i64 (0), .int .i64 (0), .int .i64 (0), .int .i64 (0), .int .i64 (0), .int .i64 (0), .int .i64 (0), .int .i64 (0), .int .i64 (0), .int .i64 (0), .int .i64 (0), .int .i64 (0), .int .i64 (0), .int .i64 (0), .int .i64 (0), .int .i64 (0), .int .i64 (0), .int .i64 (0), .int .i64 (0), .int .i64 (0), .int .i64 (0), .int .i64 (0), .int .i64 (0), .int .i64 (0), .int .i64 (0), .int .i64 (0), .int .i64 (0), .int .i64 (0), .int .i64 (0), .int .i64 (0), .int .i64 (0), .int .i64 (0), .int .i64 (0), .int .i64 (0), .int .i64 (0), .int .i64 (0), .int .i64 (0), .int .i64 (0), .int .i64 (0), .int .i64 (0), .int .i64 (0), .int .i64 (0), .int .i64 (0), .int .i64 (0), .int .i64 (0), .int .i64 (0), .int .i64 (0), .int .i64 (0), .int .i64 (0), .int .i64 (0), .int .i64 (0), .int .i64 (0), .int .i64 (0), .int .i64 (0), .int .i64 (0), .int .i64 (0), .int .i64 (0), .int .i64 (0), .int .i64 (0), .int .i64 (0), .int .i64 (0), .int .i64 (0), .int .i64 (0), .int .i64 (0), .int .i64 (0), .int .i64 (0), .int .i64 (0), .int .i64 (0), .int .i64 (0), .int .i64 (0), .int .i64 (0), .int .i64 (0), .int .i64 (0), .int .i64 (0), .int .i64 (0), .int .i64 (0), .int .i64 (0), .int .i64 (0), .int .i64 (0), .int .i64 (0), .int .i64 (0), .int .i64 (0), .int .i64 (0), .int .i64 (0), .int .i64 (0), .int .i64 (0), .int .i64 (0), .int .i64 (0), .int .i64 (0), .int .i64 (0), .int .i64 (0), .int .i64 (0), .int .i64 (0), .int .i64 (0), .int .i64 (0), .int .i64 (0), .int .i64 (0), .int .i64 (0), .int .i64 (0), .int .i64 (0), .int .i64 (0), .int .i64 (0), .int .i64 (0), .int .i64 (0), .int .i64 (0), .int .i64 (0), .int .i64 (0), .int .i64 (0), .int .i64 (0), .int .i64 (0), .int .i64 (0), .int .i64 (0), .int .i64 (0), .int .i64 (0), .int .i64 (0), .int .i64 (0), .int .i64 (0), .int .i64 (0), .int .i64 (0), .int .i64 (0), .int .i64 (0), .int .i64 (0), .int .i64 (0), .int .i64 (0), .int .i64 (0), .int .i64 (0), .int .i64 (0), .int .i64 (0), .int .i64 (0), .int .i64 (0), .int .i64 (0), .int .i64 (0), .int .i64 (0), .int .i64 (0), .int .i64 (0), .int .i64 (0), .int .i64 (0), .int .i64 (0), .int .i64 (0), .int .i64 (0), .int .i64 (0), .int .i64 (0), .int .i64 (0), .int .i64 (0), .int .i64 (0), .int .i64 (0), .int .i64 (0), .int .i64 (0), .int .i64 (0), .int .i64 (0), .int .i64 (0), .int .i64 (0), .int .i64 (0), .int .i64 (0), .int .i64 (0), .int .i64 (0), .int .i64 (0), .int .i64 (0), .int .i64 (0), .int .i64 (0), .int .i64 (0), .int .i64 (0), .int .i64 (0), .int .i64 (0), .int .i64 (0), .int .i64 (0), .int .i64 (0), .int .i64 (0), .int .i64 (0), .int .i64 (0), .int .i64 (0), .int .i64 (0), .int .i64 (0), .int .i64 (0), .int .i64 (0), .int .i64 (0), .int .i64 (0), .int .i64 (0), .int .i64 (0), .int .i64 (0), .int .i64 (0), .int .i64 (0), .int .i64 (0), .int .i64 (0), .int .i64 (0), .int .i64 (0), .int .i64 (0), .int .i64 (0), .int .i64 (0), .int .i64 (0), .int .i64 (0), .int .i64 (0)] : List AV), .int .i64 (0)] = true ∧
    (∀ l20 : List AV,
    (JcU [.agg l20, .int .i64 (300)] = true →
    JcU [.agg l20, .int .i64 (300)] = true ∧
    okSU [.agg l20] = true ∧
    ((tickU [.agg l20] : Int) == tickU [.agg l20]) = true ∧
    okSU [.agg l20] = true ∧
    ((tickU [.agg l20] : Int) == tickU [.agg l20]) = true ∧
    R (.bool (true)) []))) := by kernel_rfl
theorem cn_call (G : Nat → List AV) (B : Nat) (k n : Nat) (hk : okI .i64 (G k) 0 (n * 3) = true) : ACalls (⟨Try.prog, G, B⟩ : Ctx) 3 [.slice true (.ro k) 0 n] [] fun v _ => v = .bool true := by
  have := dlaw_ok (C := (⟨Try.prog, G, B⟩ : Ctx)) (fuel := 400) (n0 := 20) (f := 3) (fn := Try.f3) (args := [.slice true (.ro (.var 1 k)) (.lit 0) (.var 2 n)]) (H := []) (R := fun v _ => v = .bool true) (dgCn G B) (by kernel_rfl) (by kernel_rfl) (by kernel_rfl) (by
    rw [cn_run]
    refine ⟨hk, by kernel_rfl, fun l h => ?_⟩
    have hJ : Jc l 300 := by simpa only [JcU, decide_eq_true_eq] using h
    refine ⟨h, (okT_iff.1 hJ.1).1, by simp, (okT_iff.1 hJ.1).1, by simp, rfl⟩)
  exact this
end Go.Am
