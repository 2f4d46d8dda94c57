/-
  Processes: the program's Children: the iterator's loop, the call.
-/
import Derived.Test.YtkabjomhnddnoaaPrC
namespace Go.Am
open Go.Proofs Crc
set_option maxRecDepth 100000
def kidB (s : Ptb) (n : Int) (c : Nat) : Bool := decide (0 < (s.at_ c).num) && kidC n (s.at_ c).par
def kidT (s : Ptb) (n : Int) (i : Nat) : List Nat := (List.range i).filter (kidB s n)
theorem kidT_succ (s : Ptb) (n : Int) (i : Nat) : kidT s n (i + 1) = kidT s n i ++ (if kidB s n i then [i] else []) := by
  unfold kidT
  rw [List.range_succ, List.filter_append]
  congr 1
  simp only [List.filter_cons, List.filter_nil]
theorem kidT_len (s : Ptb) (n : Int) (i : Nat) : (kidT s n i).length ≤ i := by
  have := List.length_filter_le (kidB s n) (List.range i)
  simpa [kidT] using this
def arT (s : Ptb) (cc : Nat) : List AV := subL (encV (ptC s cc) s) 1 91
theorem arT_eq (s : Ptb) (cc : Nat) : arT s cc = tabL 13 7 fun n => fcell (s.at_ n) (ptC s cc n) := by
  unfold arT subL encV
  rw [List.drop_succ_cons, List.drop_zero, List.take_of_length_le (by rw [tabL_len]; omega)]
theorem arT_row {s : Ptb} {cc i : Nat} (hi : i < 13) : subL (arT s cc) (i * 7) 7 = rowT (s.at_ i) (ptC s cc i) := by
  rw [arT_eq, tabL_sub hi]; rfl
theorem arT_len (s : Ptb) (cc : Nat) : (arT s cc).length = 91 := by rw [arT_eq, tabL_len]
theorem ptC_bnd {s : Ptb} {cc i : Nat} (hi : i < 13) : bnd 15 (ptC s cc i) = true := by
  unfold ptC
  split
  · rfl
  · have : (if i = cc then 14 else 1 + i) < 15 := by split <;> omega
    simpa [bnd] using this
theorem row_bnd {s : Ptb} {cc i : Nat} (hi : i < 13) : bnds 15 (rowT (s.at_ i) (ptC s cc i)) = true := by
  have h : bnd 15 (ptC s cc i) = true := ptC_bnd hi
  simp only [rowT, bnds, bnd, h, Bool.and_self]
theorem kO_ok (G : Nat → List AV) (B : Nat) {s : Ptb} {cc : Nat} {sl z : List AV} (hfl : Flt sl z) (n : Int) {i : Nat} (hi : i < 13) : DYsumOk (⟨Try.prog, G, B⟩ : Ctx) (yAt 2300 18 (isSt [.agg (subL (subL (arT s cc) (i * 7) 7) 0 6)] (vHp G ((HKd (.var 1 (encV (ptC s cc) s)) (.var 2 sl) (.var 5 z) (.var 3 n) (.var 4 (kidT s n i).length) (.var 24 (rcK 0)) (.var 22 (nl (kidT s n i)))) ++ ([some ⟨1, .sub (.var 25 (arT s cc)) (.mul (.var 6 i) 7) (.lit 7)⟩] : DHp)))) (.tst (.var 19 (kidC n (s.at_ i).par)) (.one (.bool (.lit true)) [.app 19 ⟨1, .var 21 (nl (kidT s n i) ++ [.int .i64 (s.at_ i).num])⟩, .set 16 ⟨1, .of [.slice true (.rw 21) (.lit 0) (.add (.var 4 (kidT s n i).length) (.lit 1))]⟩]) (.one (.bool (.lit true)) []))) := by
  refine yAt_ok rfl ?_
  have hle := kidT_len s n i
  have key := y_k G B (s := s) (cc := cc) hfl n (kidT s n i).length (nl (kidT s n i)) (rowT (s.at_ i) (ptC s cc i)) (nl_length _).symm (by omega) (nl_flat 0 _) (row_bnd hi) (s.at_ i).num (s.at_ i).par (s.at_ i).grp (s.at_ i).usr (s.at_ i).en (s.at_ i).st
  have e1 : subL (subL (arT s cc) (i * 7) 7) 0 6 = rowU (s.at_ i) := by rw [arT_row hi]; rfl
  have e2 : (vHp G ((HKd (.var 1 (encV (ptC s cc) s)) (.var 2 sl) (.var 5 z) (.var 3 n) (.var 4 (kidT s n i).length) (.var 24 (rcK 0)) (.var 22 (nl (kidT s n i)))) ++ ([some ⟨1, .sub (.var 25 (arT s cc)) (.mul (.var 6 i) 7) (.lit 7)⟩] : DHp))) = hpK0 s cc sl z n (kidT s n i).length (nl (kidT s n i)) ++ [some (⟨1, rowT (s.at_ i) (ptC s cc i)⟩ : Blk)] := by
    rw [vHp_app, hK, ← arT_row hi]; rfl
  rw [e1, e2]
  refine key.mono ?_
  rintro v H' ⟨rfl, h1, h2⟩
  cases hk : kidC n (s.at_ i).par with
  | true =>
    refine .inl ⟨rfl, rfl, ?_⟩
    rw [h1 hk]
    unfold hpKn hpK0 hpK
    rfl
  | false => exact .inr ⟨rfl, rfl, by rw [h2 hk]; rfl⟩
noncomputable def hpI (s : Ptb) (cc : Nat) (sl z : List AV) (n : Int) (i : Nat) : Hp := hpK0 s cc sl z n (kidT s n i).length (nl (kidT s n i))
theorem k_loop (G : Nat → List AV) (B : Nat) {s : Ptb} {cc : Nat} {sl z : List AV} (hfl : Flt sl z) (hw : Wf s) (n : Int) :
    AWp (⟨Try.prog, G, B⟩ : Ctx) 19 (.loop (loopN Try.f76 0)) (fl 27 [0, 11, 12] [.yld 18, .agg (arT s cc), .int .i64 0]) (hpI s cc sl z n 0) (lv 27 [0, 11, 12] fun e vs H => e = .exit 0 ∧ wk [.undef, .undef, .undef] vs ∧ H = hpI s cc sl z n 13) := by
  refine scan 13 (fun i => [.yld 18, .agg (arT s cc), .int .i64 (i : Int)]) (hpI s cc sl z n) fun i hi => ?_
  have eH : hpI s cc sl z n i = vHp G (HKd (.var 1 (encV (ptC s cc) s)) (.var 2 sl) (.var 5 z) (.var 3 n) (.var 4 (kidT s n i).length) (.var 24 (rcK 0)) (.var 22 (nl (kidT s n i)))) := by unfold hpI hpK0; rw [hK]
  rw [eH]
  have al := arT_len s cc
  by_cases him : i < 13
  · refine dloop_ok (C := (⟨Try.prog, G, B⟩ : Ctx)) (K := Dr Try.prog [] [] [] [] (yAt 2300 18 (isSt [.agg (subL (subL (arT s cc) (i * 7) 7) 0 6)] (vHp G ((HKd (.var 1 (encV (ptC s cc) s)) (.var 2 sl) (.var 5 z) (.var 3 n) (.var 4 (kidT s n i).length) (.var 24 (rcK 0)) (.var 22 (nl (kidT s n i)))) ++ ([some ⟨1, .sub (.var 25 (arT s cc)) (.mul (.var 6 i) 7) (.lit 7)⟩] : DHp)))) (.tst (.var 19 (kidC n (s.at_ i).par)) (.one (.bool (.lit true)) [.app 19 ⟨1, .var 21 (nl (kidT s n i) ++ [.int .i64 (s.at_ i).num])⟩, .set 16 ⟨1, .of [.slice true (.rw 21) (.lit 0) (.add (.var 4 (kidT s n i).length) (.lit 1))]⟩]) (.one (.bool (.lit true)) []))) 19) (dgoodr (mix G B) (by kernel_rfl) .nil .nil .none (kO_ok G B hfl n him)) (fuel := 300) (n0 := 60) (m := 19) (c := loopN Try.f76 0)
      (vs := [.yld 18, .agg (.var 25 (arT s cc)), .int .i64 (.ofN (.var 6 i))]) (H := (HKd (.var 1 (encV (ptC s cc) s)) (.var 2 sl) (.var 5 z) (.var 3 n) (.var 4 (kidT s n i).length) (.var 24 (rcK 0)) (.var 22 (nl (kidT s n i))))) (by simp [HKd]) ?_
    rw [k_it]
    have er := arT_row (s := s) (cc := cc) him
    have next : ∀ (H' : Hp) (E : Hp), kidT s n (i + 1) = kidT s n i → H' = hpI s cc sl z n i ++ E → View 19 [.yld 18, .agg (arT s cc), .int .i64 ((i + 1 : Nat) : Int)] (hpI s cc sl z n (i + 1)) [.yld 18, .agg (arT s cc), .int .i64 ((i + 1 : Nat) : Int)] H' := fun H' E e h => by
      subst h
      have e' : hpI s cc sl z n (i + 1) = hpI s cc sl z n i := by unfold hpI; rw [e]
      rw [e']
      have hl : (hpI s cc sl z n i).length = 20 := by simp [hpI, hpK0, hpK, B15_len]
      refine View.same (by rw [hl]; omega) ?_ ?_
      · rw [hl]
        unfold hpI hpK0 hpK
        refine hpB_app (B15_bnd hfl (by omega)) ?_
        simp only [hpB, bm (nl_flat 0 (kidT s n i)), rc_mK (show 18 ≤ 20 by omega), bnds, bnd, Bool.and_self, Bool.and_true]; rfl
      · rw [hl]
        refine ⟨⟨rfl, rfl⟩, ⟨?_, rfl⟩, ⟨rfl, rfl⟩, trivial⟩
        have := ar_b s cc 20 (by omega)
        simpa [bnd] using this
    refine ⟨fun h => ⟨decide_eq_true (by omega), h, leB_iff.2 (by rw [al]; omega), ?_, ?_, ?_, fun hp => ⟨?_, isSt_refl, fun hk => ?_, fun hk => ?_⟩, fun hp => ?_⟩, fun h => ?_⟩
    · rw [er]
      unfold ptC; cases s.sg i <;> rfl
    · rw [er]; rfl
    · rw [er]; rfl
    · rw [er]; rfl
    · have hkb : kidB s n i = true := by
        rw [er] at hp
        unfold kidB
        rw [show decide (0 < (s.at_ i).num) = true from hp, Bool.true_and]; exact hk
      have hnum : (s.at_ i).num = (i : Int) := (hw.there (n := i) (by
        rw [er] at hp
        have := of_decide_eq_true hp
        have : (s.at_ i).num > 0 := this
        omega)).1
      refine ⟨him, .inr ?_⟩
      rw [i64_in (by omega)]
      have et : kidT s n (i + 1) = kidT s n i ++ [i] := by rw [kidT_succ, hkb, if_pos rfl]
      have hl : (hpI s cc sl z n (i + 1)).length = 20 := by simp [hpI, hpK0, hpK, B15_len]
      have hle := kidT_len s n i
      refine View.renM (θ := [0, 1, 2, 3, 4, 5, 6, 7, 8, 9, 10, 11, 12, 13, 14] ++ [15, 16, 17, 18, 21]) (by rw [hl]; omega) (fun j hj => ?_) (by decide) ?_ ?_ ?_
      · exact (by decide : ∀ i, i < 19 → ([0, 1, 2, 3, 4, 5, 6, 7, 8, 9, 10, 11, 12, 13, 14] ++ [15, 16, 17, 18, 21] : List Nat).getD i 0 = i) j hj
      · rw [hl]
        refine blks_b15 hfl (by omega) fixK rfl ?_
        rw [et]
        refine ⟨⟨rfl, rfl⟩, ⟨rfl, ?_⟩, ⟨rfl, rfl⟩, ⟨rc_mK (by omega), by rw [rcK_r2]; rfl⟩, ⟨bm (nl_flat 0 _), ?_⟩, trivial⟩
        · show some (some (⟨1, [.slice true (.rw 21) 0 ((kidT s n i).length + 1)]⟩ : Blk)) = some (some ⟨1, [.slice true (.rw 21) 0 (kidT s n i ++ [i]).length]⟩)
          rw [List.length_append]; rfl
        · rw [nl_rens, nl_append]
          show some (some (⟨1, nl (kidT s n i) ++ [.int .i64 (s.at_ i).num]⟩ : Blk)) = some (some ⟨1, nl (kidT s n i) ++ nl [i]⟩)
          rw [hnum]; rfl
      · rw [hl]
        have := ar_b s cc 20 (by omega)
        simp only [bnds, bnd, this, Bool.and_self, Bool.and_true]; rfl
      · simp only [rens, ren, rens_fix fixK _ (ar_b s cc 15 (by omega))]
        simp [wk]
    · refine ⟨him, .inr ?_⟩
      rw [i64_in (by omega)]
      have hk : kidC n (s.at_ i).par = false := hk
      have hkb : kidB s n i = false := by unfold kidB; rw [hk, Bool.and_false]
      refine next _ [some (⟨1, subL (arT s cc) (i * 7) 7⟩ : Blk)] (by rw [kidT_succ, hkb]; simp) ?_
      rw [eH]; rfl
    · refine ⟨him, .inr ?_⟩
      rw [i64_in (by omega)]
      have hkb : kidB s n i = false := by
        rw [er] at hp
        unfold kidB
        rw [show decide (0 < (s.at_ i).num) = false from hp, Bool.false_and]
      refine next _ [some (⟨1, subL (arT s cc) (i * 7) 7⟩ : Blk)] (by rw [kidT_succ, hkb]; simp) ?_
      rw [eH]; rfl
    · exact absurd (of_decide_eq_false h) (by omega)
  · have : i = 13 := by omega
    subst this
    refine dloop_ok (C := (⟨Try.prog, G, B⟩ : Ctx)) (K := Dr Try.prog [] [] [] [] (yAt 2300 18 (fun _ => false) (.tst (.var 19 false) (.one (.bool (.lit true)) [.app 19 ⟨1, .var 21 []⟩, .set 16 ⟨1, .of [.slice true (.rw 21) (.lit 0) (.add (.var 4 (kidT s n 13).length) (.lit 1))]⟩]) (.one (.bool (.lit true)) []))) 19) (dgoodr (mix G B) (by kernel_rfl) .nil .nil .none (fun i args H o ho => ?_)) (fuel := 300) (n0 := 60) (m := 19) (c := loopN Try.f76 0)
      (vs := [.yld 18, .agg (.var 25 (arT s cc)), .int .i64 (.ofN (.var 6 13))]) (H := (HKd (.var 1 (encV (ptC s cc) s)) (.var 2 sl) (.var 5 z) (.var 3 n) (.var 4 (kidT s n 13).length) (.var 24 (rcK 0)) (.var 22 (nl (kidT s n 13))))) (by simp [HKd]) ?_
    · unfold yAt at ho
      split at ho
      · simp only [Option.some.injEq] at ho; subst ho
        intro h; exact absurd h (by simp [vB])
      · simp at ho
    · rw [k_it]
      refine ⟨fun h => absurd (of_decide_eq_true h) (by omega), fun h => ⟨rfl, by simp [wk], ?_⟩⟩
      rw [eH]; rfl
where
  ar_b (s : Ptb) (cc m : Nat) (h : 15 ≤ m) : bnds m (arT s cc) = true := by
    have h2 : bnds m (encV (ptC s cc) s) = true := tb15 s cc h
    rw [bnds_eq, List.all_eq_true] at h2 ⊢
    intro v hv
    refine h2 v ?_
    unfold arT subL at hv
    exact List.mem_of_mem_drop (List.mem_of_mem_take hv)
end Go.Am
