/-
  Processes: the program's Same, of two tables.
-/
import Derived.Test.YtkabjomhnddnoaaPrZb
namespace Go.Am
open Go.Proofs Crc
set_option maxRecDepth 100000
def SL2 (s s' : Ptb) : List AV := setsL encP s ++ (.agg (encT 15 s') :: setsL encP s')
def two (t : TS) (s s' : Ptb) : Hp := can t s ++ canB t (ptrs 15 s') s' s'
theorem two_len {t : TS} {s s' : Ptb} : (two t s s').length = 28 := by simp [two, can_len, canB_len]
theorem hS2 (G : Nat → List AV) (s s' : Ptb) : vHp G (HSd (.var 1 (encT 1 s)) (.var 2 (SL2 s s'))) = two tsP s s' := rfl
def sameT (s s' : Ptb) : Bool := (List.range 13).all fun n => pcB (s.at_ n) (s'.at_ n) && sgoB (s.sg n) (s'.sg n)
theorem sl2_lo {s s' : Ptb} {n : Nat} (h : n < 13) : rowA (SL2 s s') n = blkO encP (s.sg n) := by
  rw [← rowA_sets (enc := encP) (s := s) h]
  unfold rowA SL2
  rw [List.getElem?_append_left (by rw [setsL_len]; omega)]
theorem sl2_13 {s s' : Ptb} : rowA (SL2 s s') 13 = encT 15 s' := by
  unfold rowA SL2
  rw [List.getElem?_append_right (by rw [setsL_len]; omega), setsL_len]; rfl
theorem sl2_hi {s s' : Ptb} {n : Nat} (h : n < 13) : rowA (SL2 s s') (14 + n) = blkO encP (s'.sg n) := by
  rw [← rowA_sets (enc := encP) (s := s') h]
  unfold rowA SL2
  rw [List.getElem?_append_right (by rw [setsL_len]; omega), setsL_len, show 14 + n - 13 = n + 1 by omega, List.getElem?_cons_succ]
theorem sl2_len {s s' : Ptb} : (SL2 s s').length = 27 := by simp [SL2, setsL_len]
theorem ar_eq (s : Ptb) : subL (encT 1 s) 1 91 = arT s 13 := by unfold arT; rw [encT_C]
theorem sub76 (l : List AV) (o : Nat) : subL l o 6 = (subL l o 7).take 6 := by unfold subL; rw [List.take_take]; rfl
theorem sm_F {s s' : Ptb} {i : Nat} (hi : i < 13) : SmF 27 i (subL (encT 1 s) 1 91) (rowA (SL2 s s') 13) (SL2 s s') [.agg (SL2 s s'), .agg (SL2 s s'), .agg (SL2 s s'), .agg (SL2 s s'), .agg (SL2 s s'), .agg (SL2 s s'), .agg (SL2 s s'), .agg (SL2 s s'), .agg (SL2 s s'), .agg (SL2 s s'), .agg (SL2 s s'), .agg (SL2 s s'), .agg (SL2 s s'), .agg (SL2 s s'), .agg (SL2 s s'), .agg (SL2 s s'), .agg (SL2 s s'), .agg (SL2 s s'), .agg (SL2 s s'), .agg (SL2 s s'), .agg (SL2 s s'), .agg (SL2 s s'), .agg (SL2 s s'), .agg (SL2 s s'), .agg (SL2 s s'), .agg (SL2 s s'), .agg (SL2 s s')] (s.at_ i) (s'.at_ i) (s.sg i) (s'.sg i) := by
  rw [ar_eq, sl2_13]
  refine ⟨by rw [arT_len]; omega, by rw [encT_len]; omega, ⟨ptC s 13 i, arT_row hi, ?_⟩, ?_, ?_, rowsA_same _ 27⟩
  · unfold ptC
    cases e : s.sg i with
    | none => exact .inl ⟨rfl, rfl⟩
    | some p =>
      refine .inr ⟨p, i, rfl, ?_, by omega, by rw [sl2_len]; omega, by rw [sl2_lo hi, e]; rfl⟩
      simp only; rw [if_neg (by omega)]
  · rw [sub76, T_row hi]; rfl
  · have h := T_ptr (b := 15) (s := s') hi
    cases e : s'.sg i with
    | none => exact .inl ⟨rfl, by rw [ptr_nil h, e]; rfl⟩
    | some q =>
      rw [e] at h
      refine .inr ⟨q, 14 + i, rfl, by rw [ptr_nil h]; rfl, ?_, ?_, ?_, by omega, by rw [sl2_len]; omega, by rw [sl2_hi hi, e]; rfl⟩
      · unfold isPA; rw [h]
        simp only [ptrO, Bool.and_eq_true]
        exact ⟨Nat.ble_eq_true_of_le (by omega), Nat.ble_eq_true_of_le (by omega)⟩
      · unfold fkA; rw [h]
        show 15 + i - 1 = 14 + i; omega
      · unfold foA; rw [h]; rfl
theorem two_bnd {s s' : Ptb} {m : Nat} (hm : 28 ≤ m) : hpB m (two tsP s s') = true := by
  unfold two
  refine hpB_app (can_b2 s (by omega)) ?_
  unfold canB setsB
  have h1 : bnds m (encV (ptrs 15 s') s') = true := tsP_ok.bnd m (ptrs 15 s') s' fun n hn => bnd_ptrs' (by omega)
  have h2 : ∀ l : List Nat, hpB m (l.map fun n => some (⟨1, blkO encP (s'.sg n)⟩ : Blk)) = true := fun l => by
    induction l with
    | nil => rfl
    | cons a l ih => simp only [List.map_cons, hpB, ih, Bool.and_true]; exact blkO_bnd tsP_ok _ _
  simp only [hpB]
  rw [Bool.and_eq_true]
  exact ⟨h1, h2 _⟩
theorem ar_b1 (s : Ptb) {m : Nat} (h : 15 ≤ m) : bnd m (.agg (subL (encT 1 s) 1 91)) = true := by
  rw [ar_eq]
  have := ar_b14 s (m := m) h
  simpa [bnd] using this
theorem View.weak {m : Nat} {H K : Hp} {b : Bool} {a c d a' c' d' : AV} (h : View m [a, .bool b, c, d] H [a', .bool b, c', d'] K) : View m [.undef, .bool b, .undef, .undef] H [a', .bool b, c', d'] K := by
  obtain ⟨θ, h1, h2, h3, h4, h5, h6, h7, h8⟩ := h.ex
  refine ⟨θ, h1, h2, h3, h4, h5, h6, rfl, fun k v hk => ?_⟩
  match k, hk with
  | 0, hk => simp at hk; subst hk; exact ⟨rfl, .inl rfl⟩
  | 1, hk => simp at hk; subst hk; exact h8 1 (.bool b) rfl
  | 2, hk => simp at hk; subst hk; exact ⟨rfl, .inl rfl⟩
  | 3, hk => simp at hk; subst hk; exact ⟨rfl, .inl rfl⟩
theorem sm_loop (G : Nat → List AV) (B : Nat) (s s' : Ptb) : AWp (⟨Try.prog, G, B⟩ : Ctx) 28 (.loop (loopN Try.f15 0)) (fl 52 [1, 4, 23, 24] [.ptr (.rw 14) 0, .bool false, .agg (subL (encT 1 s) 1 91), .int .i64 0]) (vHp G (HSd (.var 1 (encT 1 s)) (.var 2 (SL2 s s')))) (lv 52 [1, 4, 23, 24] (LOut.post G 28 (.tst (.var 9 (sameT s s')) (.one (.exit 0) [.undef, .undef, .undef, .undef] (HSd (.var 1 (encT 1 s)) (.var 2 (SL2 s s')))) (.one .ret [.undef, .bool (.lit false), .undef, .undef] (HSd (.var 1 (encT 1 s)) (.var 2 (SL2 s s'))))))) := by
  refine scanP (fun i => ∀ j, j < 13 → j < i → (pcB (s.at_ j) (s'.at_ j) && sgoB (s.sg j) (s'.sg j)) = true) 13 (fun i => [.ptr (.rw 14) 0, .bool false, .agg (subL (encT 1 s) 1 91), .int .i64 (i : Int)]) (fun _ => vHp G (HSd (.var 1 (encT 1 s)) (.var 2 (SL2 s s')))) (fun j hj h => by omega) fun i hi hP => ?_
  refine dloop_ok (C := (⟨Try.prog, G, B⟩ : Ctx)) (K := Df Try.prog [(48, 1, 27)] [36] [(24, sameF sideP)] [] 0) (fuel := 400) (n0 := 20) (m := 28) (c := loopN Try.f15 0)
    (vs := [.ptr (.rw 14) (.lit 0), .bool (.lit false), .agg (.var 25 (subL (encT 1 s) 1 91)), .int .i64 (.ofN (.var 8 i))]) (H := (HSd (.var 1 (encT 1 s)) (.var 2 (SL2 s s')))) (by rw [show loopsOf (loopN Try.f15 0) = [] by kernel_rfl]; exact dgoodf (mix G B) (by kernel_rfl) (.cons (sameFP_ok G B) .nil) .nil) (by simp [HSd]) ?_
  rw [sm_b]
  have vw : ∀ (E : Hp) (vs : List AV) (n : Int), vs = [.ptr (.rw 14) 0, .bool false, .agg (subL (encT 1 s) 1 91), .int .i64 n] → View 28 [.ptr (.rw 14) 0, .bool false, .agg (subL (encT 1 s) 1 91), .int .i64 n] (vHp G (HSd (.var 1 (encT 1 s)) (.var 2 (SL2 s s')))) vs (vHp G (HSd (.var 1 (encT 1 s)) (.var 2 (SL2 s s'))) ++ E) := fun E vs n e => by
    subst e
    rw [hS2]
    refine View.same (by rw [two_len]; omega) (by rw [two_len]; exact two_bnd (by omega)) ?_
    rw [two_len]
    exact ⟨⟨rfl, rfl⟩, ⟨rfl, rfl⟩, ⟨ar_b1 s (by omega), rfl⟩, ⟨rfl, rfl⟩, trivial⟩
  refine sm_tree (K := 27) (x := s.at_ i) (y := s'.at_ i) (u := s.sg i) (v := s'.sg i) (fun hi => sm_F hi) (fun hi hb => ?_) (fun hi hb => ?_) (fun hi => ?_)
  · refine ⟨hi, fun j hj hji => ?_, .inr (vw [some ⟨1, subL (subL (encT 1 s) 1 91) (i * 7) 7⟩] _ _ (by rw [i64_in (by omega)]; rfl))⟩
    by_cases e : j = i
    · subst e; exact hb
    · exact hP j hj (by omega)
  · refine .inr ⟨?_, rfl, .inr (View.weak (vw [some ⟨1, subL (subL (encT 1 s) 1 91) (i * 7) 7⟩] _ _ rfl))⟩
    show sameT s s' = false
    cases hs : sameT s s' with
    | false => rfl
    | true =>
      unfold sameT at hs
      rw [List.all_eq_true] at hs
      rw [hs i (List.mem_range.2 hi)] at hb; cases hb
  · refine .inl ⟨?_, rfl, .inl ⟨trivial, rfl⟩⟩
    show sameT s s' = true
    unfold sameT
    rw [List.all_eq_true]
    intro j hj
    exact hP j (List.mem_range.1 hj) (by have := List.mem_range.1 hj; omega)
theorem p_sameM (G : Nat → List AV) (B : Nat) (s s' : Ptb) : ACalls (⟨Try.prog, G, B⟩ : Ctx) 15 [.ptr (.rw 0) 0, .ptr (.rw 14) 0] (two tsP s s') fun v H' => v = .bool (sameT s s') ∧ H' = two tsP s s' := by
  have h := dcall_ok (C := (⟨Try.prog, G, B⟩ : Ctx)) (K := Dc Try.prog [36] [] [DLat 2370 (isSt [.ptr (.rw 14) 0, .bool false, .agg (subL (encT 1 s) 1 91), .int .i64 0] (vHp G (HSd (.var 1 (encT 1 s)) (.var 2 (SL2 s s'))))) 0 52 [1, 4, 23, 24] (.tst (.var 9 (sameT s s')) (.one (.exit 0) [.undef, .undef, .undef, .undef] (HSd (.var 1 (encT 1 s)) (.var 2 (SL2 s s')))) (.one .ret [.undef, .bool (.lit false), .undef, .undef] (HSd (.var 1 (encT 1 s)) (.var 2 (SL2 s s')))))] 28) (fuel := 300) (n0 := 20) (f := 15) (fn := Try.f15) (args := [.ptr (.rw 0) (.lit 0), .ptr (.rw 14) (.lit 0)]) (H := (HSd (.var 1 (encT 1 s)) (.var 2 (SL2 s s')))) (keep := 28)
    (R := fun v H => v = .bool (sameT s s') ∧ H = vHp G (HSd (.var 1 (encT 1 s)) (.var 2 (SL2 s s')))) (dgood (mix G B) (by kernel_rfl) .nil (.cast (.cons (i := 0) (by kernel_rfl) rfl (DLat_okC rfl (sm_loop G B s s')) .nil) (by kernel_rfl))) (by kernel_rfl) (by kernel_rfl) (by kernel_rfl) (by
    have := sm_c G (isSt [.ptr (.rw 14) 0, .bool false, .agg (subL (encT 1 s) 1 91), .int .i64 0] (vHp G (HSd (.var 1 (encT 1 s)) (.var 2 (SL2 s s'))))) (encT 1 s) (SL2 s s') (sameT s s') (fun _ _ _ => False) (fun v H => v = .bool (sameT s s') ∧ H = vHp G (HSd (.var 1 (encT 1 s)) (.var 2 (SL2 s s'))))
    refine Eq.mpr this ⟨rfl, fun _ => ⟨?_, fun _ => ⟨leB_iff.2 (by rw [encT_len]; omega), isSt_refl, fun h => ⟨by rw [h], rfl⟩, fun h => ⟨by rw [h], rfl⟩⟩, fun h => ?_⟩, fun h => by cases h⟩
    · rw [sl2_13]; rfl
    · rw [sl2_13] at h; cases h)
  rw [hS2] at h
  refine ACalls.keep (k := 28) h (by rw [two_len]; exact Nat.le_refl _) ?_ rfl (by simp)
  rw [two_len]; exact two_bnd (by omega)
end Go.Am
