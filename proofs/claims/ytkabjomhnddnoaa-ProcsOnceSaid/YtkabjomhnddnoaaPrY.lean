/-
  Processes: the program's Copy.
-/
import Derived.Test.YtkabjomhnddnoaaPrX
namespace Go.Am
open Go.Proofs Crc
set_option maxRecDepth 100000
theorem setsB_rows {t : TS} (s : Ptb) : setsB t s = (List.range 13).map fun n => some (⟨1, rowA (setsL t.enc s) n⟩ : Blk) := by
  unfold setsB
  refine List.map_congr_left fun n hn => ?_
  rw [rowA_sets (List.mem_range.1 hn)]
theorem hC (G : Nat → List AV) (s : Ptb) (k : Nat) : vHp G (HCd (.var 1 (encT 1 s)) (.var 2 (setsL encP s)) (.var 21 (encV (cpT s k) s)) (.var 22 (setsL encP (cutS s k)))) = hpC tsP s k := by
  unfold hpC canB
  rw [← hp_can (t := tsP) (s := s), setsB_rows]; rfl
theorem cp_tab {s : Ptb} {k : Nat} (v : AV) (hv : ∀ l, v ≠ .agg l) : setPart (encV (cpT s k) s) (k * 7 + 7) v = encV (fun j => if j = k then v else cpT s k j) s := V_ptr hv
theorem cpT_none {s : Ptb} {k : Nat} (h : s.sg k = none) : (fun j => if j = k then AV.nilp else cpT s k j) = cpT s (k + 1) := by
  funext j
  unfold cpT
  by_cases e : j = k
  · subst e
    rw [if_pos rfl, if_pos (by omega)]
    unfold ptrs; rw [h]; rfl
  · rw [if_neg e]
    by_cases f : j < k
    · rw [if_pos f, if_pos (by omega)]
    · rw [if_neg f, if_neg (by omega)]
theorem cut_none {s : Ptb} {k : Nat} (h : s.sg k = none) : cutS s (k + 1) = cutS s k := by
  unfold cutS
  congr 1
  funext j
  by_cases e : j = k
  · subst e
    rw [if_pos (by omega), if_neg (by omega), h]
  · by_cases f : j < k
    · rw [if_pos f, if_pos (by omega)]
    · rw [if_neg f, if_neg (by omega)]
theorem hpC_bnd {s : Ptb} {k : Nat} {m : Nat} (hm : 28 ≤ m) : hpB m (hpC tsP s k) = true := by
  unfold hpC
  refine hpB_app (can_b2 s (by omega)) ?_
  unfold canB
  have h1 : bnds m (encV (cpT s k) s) = true := tsP_ok.bnd m (cpT s k) s fun n hn => bnd_cpT hn (by omega)
  have h2 : ∀ l : List Nat, hpB m (l.map fun n => some (⟨1, blkO encP ((cutS s k).sg n)⟩ : Blk)) = true := fun l => by
    induction l with
    | nil => rfl
    | cons a l ih => simp only [List.map_cons, hpB, ih, Bool.and_true]; exact blkO_bnd tsP_ok _ _
  simp only [hpB]
  rw [Bool.and_eq_true]
  exact ⟨h1, h2 _⟩
theorem cp_view {s : Ptb} {k : Nat} (hk : k < 13) {p : Sg} (hp : s.sg k = some p) {H' : Hp} (hH : H' = can tsP s ++ canB tsP (fun j => if j = k then .ptr (.rw 28) 0 else cpT s k j) s (cutS s k) ++ [some ⟨1, encP p⟩]) (n : Int) :
    View 15 [.ptr (.rw 0) 0, .nilp, .ptr (.rw 14) 0, .int .i64 n] (hpC tsP s (k + 1)) [.ptr (.rw 0) 0, .nilp, .ptr (.rw 14) 0, .int .i64 n] H' := by
  subst hH
  have eg : ∀ i, i < 15 → (if i = 15 + k then 28 else i) = i := fun i hi => if_neg (by omega)
  refine View.fn (N := 28) (fun i => if i = 15 + k then 28 else i) hpC_len (by omega) eg (fun i j hi hj h => ?_) (fun i hi => ?_) rfl ?_
  · by_cases a : i = 15 + k
    · by_cases b : j = 15 + k
      · omega
      · rw [if_pos a, if_neg b] at h; omega
    · by_cases b : j = 15 + k
      · rw [if_neg a, if_pos b] at h; omega
      · rw [if_neg a, if_neg b] at h; exact h
  · have th : ∀ j, j < 28 → ((List.range 28).map fun i => if i = 15 + k then 28 else i).getD j 0 = if j = 15 + k then 28 else j := fun j hj => thF_get hj
    by_cases h14 : i < 14
    · rw [show (if i = 15 + k then 28 else i) = i from if_neg (by omega)]
      unfold hpC
      rw [List.append_assoc, List.getElem?_append_left (by rw [can_len]; exact h14), List.getElem?_append_left (by rw [can_len]; exact h14)]
      cases i with
      | zero =>
        refine ⟨_, _, rfl, rfl, rfl, tsP_ok.bnd 28 (ptrs 1 s) s fun n hn => bnd_ptrs' (by omega), .inr ?_⟩
        rw [tsP_ok.ren]
        refine tsP_ok.congr _ _ _ fun n hn => ?_
        unfold ptrs ptrO
        split
        · rfl
        · simp only [ren]
          rw [th (1 + n) (by omega), if_neg (by omega)]
      | succ n =>
        have hg : (can tsP s)[n + 1]? = some (some ⟨1, blkO encP (s.sg n)⟩) := canB_get (by omega)
        refine ⟨_, _, hg, hg, rfl, blkO_bnd tsP_ok _ _, .inr (rens_flat' tsP_ok _ _).symm⟩
    · obtain ⟨j, rfl⟩ : ∃ j, i = 14 + j := ⟨i - 14, by omega⟩
      unfold hpC
      rw [List.getElem?_append_right (by rw [can_len]; omega), can_len, show 14 + j - 14 = j by omega]
      cases j with
      | zero =>
        rw [show (if 14 + 0 = 15 + k then 28 else 14 + 0) = 14 from if_neg (by omega), List.append_assoc, List.getElem?_append_right (by rw [can_len]; omega), can_len]
        refine ⟨_, _, rfl, rfl, rfl, tsP_ok.bnd 28 (cpT s (k + 1)) s fun n hn => bnd_cpT hn (by omega), .inr ?_⟩
        show encV (fun j => if j = k then .ptr (.rw 28) 0 else cpT s k j) s = _
        rw [show tsP.tb (cpT s (k + 1)) s = encV (cpT s (k + 1)) s from rfl, show rens ((List.range 28).map fun i => if i = 15 + k then 28 else i) (encV (cpT s (k + 1)) s) = tsP.tb _ s from tsP_ok.ren _ _ _]
        refine tsP_ok.congr _ _ _ fun n hn => ?_
        by_cases e : n = k
        · subst e
          rw [if_pos rfl]
          unfold cpT
          rw [if_pos (by omega)]
          unfold ptrs ptrO
          rw [hp]
          simp only [ren]
          rw [th _ (by omega), if_pos rfl]
        · rw [if_neg e]
          have : cpT s (k + 1) n = cpT s k n := by
            unfold cpT
            by_cases f : n < k
            · rw [if_pos f, if_pos (by omega)]
            · rw [if_neg f, if_neg (by omega)]
          rw [this]
          unfold cpT
          split
          · unfold ptrs ptrO
            split
            · rfl
            · simp only [ren]
              rw [th _ (by omega), if_neg (by omega)]
          · unfold ptrs ptrO
            split
            · rfl
            · simp only [ren]
              rw [th _ (by omega), if_neg (by omega)]
      | succ n =>
        have hn : n < 13 := by omega
        have hg : (canB tsP (cpT s (k + 1)) s (cutS s (k + 1)))[n + 1]? = some (some ⟨1, blkO encP ((cutS s (k + 1)).sg n)⟩) := canB_get hn
        by_cases e : n = k
        · subst e
          rw [show (if 14 + (n + 1) = 15 + n then 28 else 14 + (n + 1)) = 28 from if_pos (by omega)]
          refine ⟨_, ⟨1, encP p⟩, hg, ?_, rfl, blkO_bnd tsP_ok _ _, .inr ?_⟩
          · rw [List.getElem?_append_right (by rw [List.length_append, can_len, canB_len]; omega), List.length_append, can_len, canB_len]; rfl
          · show encP p = rens _ (blkO encP _)
            rw [cut_succ, if_pos rfl, hp]
            exact (rens_flat' tsP_ok (some p) _).symm
        · rw [show (if 14 + (n + 1) = 15 + k then 28 else 14 + (n + 1)) = 14 + (n + 1) from if_neg (by omega)]
          rw [List.getElem?_append_left (by rw [List.length_append, can_len, canB_len]; omega), List.getElem?_append_right (by rw [can_len]; omega), can_len, show 14 + (n + 1) - 14 = n + 1 by omega]
          refine ⟨_, _, hg, canB_get hn, rfl, blkO_bnd tsP_ok _ _, .inr ?_⟩
          show blkO encP ((cutS s k).sg n) = rens _ (blkO encP _)
          rw [cut_succ, if_neg e]
          exact (rens_flat' tsP_ok _ _).symm
  · have t0 : ((List.range 28).map fun i => if i = 15 + k then 28 else i).getD 0 0 = 0 := by rw [thF_get (by omega), if_neg (by omega)]
    have t14 : ((List.range 28).map fun i => if i = 15 + k then 28 else i).getD 14 0 = 14 := by rw [thF_get (by omega), if_neg (by omega)]
    simp only [rens, ren, t0, t14]
    simp [wk]
theorem cp_loop (G : Nat → List AV) (B : Nat) {s : Ptb} (hw : Wf s) : AWp (⟨Try.prog, G, B⟩ : Ctx) 15 (.loop (loopN Try.f12 0)) (fl 27 [0, 2, 3, 11] [.ptr (.rw 0) 0, .nilp, .ptr (.rw 14) 0, .int .i64 0]) (hpC tsP s 0) (lv 27 [0, 2, 3, 11] fun e vs H => e = .exit 0 ∧ wk [.undef, .undef, .ptr (.rw 14) 0, .undef] vs ∧ H = hpC tsP s 13) := by
  refine scan 13 (fun i => [.ptr (.rw 0) 0, .nilp, .ptr (.rw 14) 0, .int .i64 (i : Int)]) (hpC tsP s) fun k hk => ?_
  rw [← hC G s k]
  refine dloop_ok (C := (⟨Try.prog, G, B⟩ : Ctx)) (K := Df Try.prog [(48, 1, 13)] [36, 37, 55] [(37, fCopyS sideP)] [] 0) (fuel := 300) (n0 := 20) (m := 15) (c := loopN Try.f12 0) (vs := [.ptr (.rw 0) (.lit 0), .nilp, .ptr (.rw 14) (.lit 0), .int .i64 (.ofN (.var 8 k))]) (H := (HCd (.var 1 (encT 1 s)) (.var 2 (setsL encP s)) (.var 21 (encV (cpT s k) s)) (.var 22 (setsL encP (cutS s k))))) (by rw [show loopsOf (loopN Try.f12 0) = [] by kernel_rfl]; exact dgoodf (mix G B) (by kernel_rfl) (.cons (fCopyS_ok (sideP_ok G) (p_copy G B)) .nil) .nil) (by simp [HCd]) ?_
  rw [cp_b]
  have lt : (encV (cpT s k) s).length = 92 := encV_len _ _
  have hps := T_ptr (b := 1) (s := s) (n := k)
  refine ⟨fun h1 => ?_, fun h1 => ?_⟩
  · have hk' : k < 13 := by have := of_decide_eq_true h1; omega
    have hpk := hps hk'
    refine ⟨decide_eq_true (by omega), h1, fun h2 => ⟨decide_eq_true (by omega), h1, leB_iff.2 (by rw [lt]; omega), hk', .inr ?_⟩, fun h2 => ?_⟩
    · have hn : s.sg k = none := by
        rw [ptr_nil hpk] at h2
        cases e : s.sg k with
        | none => rfl
        | some p => rw [e] at h2; cases h2
      rw [i64_in (by omega), cp_tab _ (by intro l h; cases h), cpT_none hn]
      have e2 : vHp G (HCd (.var 1 (encT 1 s)) (.var 2 (setsL encP s)) (.var 21 (encV (cpT s (k + 1)) s)) (.var 22 (setsL encP (cutS s k)))) = hpC tsP s (k + 1) := by
        rw [← hC G s (k + 1), cut_none hn]
      have hv : ∀ H', H' = hpC tsP s (k + 1) → View 15 [.ptr (.rw 0) 0, .nilp, .ptr (.rw 14) 0, .int .i64 ((k + 1 : Nat) : Int)] (hpC tsP s (k + 1)) [.ptr (.rw 0) 0, .nilp, .ptr (.rw 14) 0, .int .i64 ((k + 1 : Nat) : Int)] H' := fun H' e => by
        have hv : View 15 [.ptr (.rw 0) 0, .nilp, .ptr (.rw 14) 0, .int .i64 ((k + 1 : Nat) : Int)] (hpC tsP s (k + 1)) [.ptr (.rw 0) 0, .nilp, .ptr (.rw 14) 0, .int .i64 ((k + 1 : Nat) : Int)] (hpC tsP s (k + 1) ++ []) := by
          refine View.same (by rw [hpC_len]; omega) (by rw [hpC_len]; exact hpC_bnd (by omega)) ?_
          rw [hpC_len]
          exact ⟨⟨rfl, rfl⟩, ⟨rfl, rfl⟩, ⟨rfl, rfl⟩, ⟨rfl, rfl⟩, trivial⟩
        rw [List.append_nil] at hv
        rw [e]; exact hv
      exact hv _ e2
    · cases e : s.sg k with
      | none => rw [ptr_nil hpk, e] at h2; cases h2
      | some p =>
        obtain ⟨f1, f2, f3, f4, f5⟩ := fam_facts hk' e
        rw [f3, f4, f5]
        have es : subL (encP p) 0 19 = encP p := by unfold subL; rw [List.drop_zero, List.take_of_length_le (by rw [encP_length]; omega)]
        rw [es]
        refine ⟨f2, leB_iff.2 (by omega), rowsA_same _ 13, rfl, fun _ => ⟨leB_iff.2 (by omega), rowsA_same _ 13, leB_iff.2 (by rw [encP_length]; omega), encP_cells p, by rw [encP_length]; rfl, decide_eq_true (by omega), h1, leB_iff.2 (by rw [lt]; omega), hk', .inr ?_⟩, fun h => by cases h⟩
        rw [i64_in (by omega), cp_tab _ (by intro l h; cases h)]
        refine cp_view hk' e ?_ _
        unfold canB
        rw [← hp_can (t := tsP) (s := s), setsB_rows]; rfl
  · have hk13 : k = 13 := by have := of_decide_eq_false h1; omega
    subst hk13
    exact ⟨rfl, by simp [wk], hC G s 13⟩
theorem AWp.pads {C : Ctx} {m : Nat} {c : Code} {F : Fr} {Q : Post} : ∀ (k : Nat) {H : Hp}, m ≤ H.length → AWp C m c F (H ++ List.replicate k (some ⟨1, []⟩)) Q → AWp C m c F H Q
  | 0, H, _, h => by rw [List.replicate_zero, List.append_nil] at h; exact h
  | k + 1, H, hm, h => by
    refine AWp.nil 1 hm (nilrs_refl _) (nilH_refl H) (AWp.pads k (by rw [List.length_append]; omega) ?_)
    rw [List.append_assoc, List.singleton_append, ← List.replicate_succ]; exact h
theorem hC0 (G : Nat → List AV) (s : Ptb) : vHp G [some ⟨1, .var 1 (encT 1 s)⟩, some ⟨1, .row (.var 2 (setsL encP s)) (.lit 0)⟩, some ⟨1, .row (.var 2 (setsL encP s)) (.lit 1)⟩, some ⟨1, .row (.var 2 (setsL encP s)) (.lit 2)⟩, some ⟨1, .row (.var 2 (setsL encP s)) (.lit 3)⟩, some ⟨1, .row (.var 2 (setsL encP s)) (.lit 4)⟩, some ⟨1, .row (.var 2 (setsL encP s)) (.lit 5)⟩, some ⟨1, .row (.var 2 (setsL encP s)) (.lit 6)⟩, some ⟨1, .row (.var 2 (setsL encP s)) (.lit 7)⟩, some ⟨1, .row (.var 2 (setsL encP s)) (.lit 8)⟩, some ⟨1, .row (.var 2 (setsL encP s)) (.lit 9)⟩, some ⟨1, .row (.var 2 (setsL encP s)) (.lit 10)⟩, some ⟨1, .row (.var 2 (setsL encP s)) (.lit 11)⟩, some ⟨1, .row (.var 2 (setsL encP s)) (.lit 12)⟩, some ⟨1, .var 1 (encT 1 s)⟩] ++ List.replicate 13 (some ⟨1, []⟩) = hpC tsP s 0 := by
  have e : vHp G [some ⟨1, .var 1 (encT 1 s)⟩, some ⟨1, .row (.var 2 (setsL encP s)) (.lit 0)⟩, some ⟨1, .row (.var 2 (setsL encP s)) (.lit 1)⟩, some ⟨1, .row (.var 2 (setsL encP s)) (.lit 2)⟩, some ⟨1, .row (.var 2 (setsL encP s)) (.lit 3)⟩, some ⟨1, .row (.var 2 (setsL encP s)) (.lit 4)⟩, some ⟨1, .row (.var 2 (setsL encP s)) (.lit 5)⟩, some ⟨1, .row (.var 2 (setsL encP s)) (.lit 6)⟩, some ⟨1, .row (.var 2 (setsL encP s)) (.lit 7)⟩, some ⟨1, .row (.var 2 (setsL encP s)) (.lit 8)⟩, some ⟨1, .row (.var 2 (setsL encP s)) (.lit 9)⟩, some ⟨1, .row (.var 2 (setsL encP s)) (.lit 10)⟩, some ⟨1, .row (.var 2 (setsL encP s)) (.lit 11)⟩, some ⟨1, .row (.var 2 (setsL encP s)) (.lit 12)⟩, some ⟨1, .var 1 (encT 1 s)⟩] = can tsP s ++ [some ⟨1, encT 1 s⟩] := by rw [← hp_can (t := tsP) (s := s)]; rfl
  rw [e, List.append_assoc]
  rfl
theorem cp_loop0 (G : Nat → List AV) (B : Nat) {s : Ptb} (hw : Wf s) : AWp (⟨Try.prog, G, B⟩ : Ctx) 15 (.loop (loopN Try.f12 0)) (fl 27 [0, 2, 3, 11] [.ptr (.rw 0) 0, .nilp, .ptr (.rw 14) 0, .int .i64 0]) (vHp G [some ⟨1, .var 1 (encT 1 s)⟩, some ⟨1, .row (.var 2 (setsL encP s)) (.lit 0)⟩, some ⟨1, .row (.var 2 (setsL encP s)) (.lit 1)⟩, some ⟨1, .row (.var 2 (setsL encP s)) (.lit 2)⟩, some ⟨1, .row (.var 2 (setsL encP s)) (.lit 3)⟩, some ⟨1, .row (.var 2 (setsL encP s)) (.lit 4)⟩, some ⟨1, .row (.var 2 (setsL encP s)) (.lit 5)⟩, some ⟨1, .row (.var 2 (setsL encP s)) (.lit 6)⟩, some ⟨1, .row (.var 2 (setsL encP s)) (.lit 7)⟩, some ⟨1, .row (.var 2 (setsL encP s)) (.lit 8)⟩, some ⟨1, .row (.var 2 (setsL encP s)) (.lit 9)⟩, some ⟨1, .row (.var 2 (setsL encP s)) (.lit 10)⟩, some ⟨1, .row (.var 2 (setsL encP s)) (.lit 11)⟩, some ⟨1, .row (.var 2 (setsL encP s)) (.lit 12)⟩, some ⟨1, .var 1 (encT 1 s)⟩]) (lv 27 [0, 2, 3, 11] (LOut.post G 15 (.one (.exit 0) [.undef, .undef, .ptr (.rw 14) (.lit 0), .undef] (HCd (.var 1 (encT 1 s)) (.var 2 (setsL encP s)) (.var 21 (encV (cpT s 13) s)) (.var 22 (setsL encP (cutS s 13))))))) := by
  refine AWp.pads 13 (by rw [vHp_length]; exact Nat.le_refl 15) ?_
  rw [hC0]
  refine (cp_loop G B hw).lmono ?_
  rintro ex vs H ⟨rfl, h1, rfl⟩
  exact ⟨rfl, .inl ⟨h1, (hC G s 13).symm⟩⟩
theorem cp13 {t : TS} (ht : TSOk t) {s : Ptb} : canB t (cpT s 13) s (cutS s 13) = canB t (ptrs 15 s) s s := by
  unfold canB
  rw [setsB_cut, ht.congr (cpT s 13) (ptrs 15 s) s fun n hn => by unfold cpT; rw [if_pos hn]]
theorem encT_cells (b : Nat) (s : Ptb) : cellsB (encT b s) = true := by
  unfold cellsB encT tabL
  simp only [List.all_cons, Bool.and_eq_true, List.all_eq_true, List.mem_map]
  refine ⟨rfl, ?_⟩
  rintro x ⟨j, _, rfl⟩
  have h : ∀ k, isCell (fcell (s.at_ (j / 7)) (ptrO b (j / 7) (s.sg (j / 7))) k) = true := fun k => by
    match k with
    | 0 | 1 | 2 | 3 | 4 | 5 => rfl
    | k + 6 => show isCell (ptrO b (j / 7) (s.sg (j / 7))) = true; cases s.sg (j / 7) <;> rfl
  exact h _
theorem p_copyM (G : Nat → List AV) (B : Nat) {s : Ptb} (hw : Wf s) : ACalls (⟨Try.prog, G, B⟩ : Ctx) 12 [.ptr (.rw 0) 0] (can tsP s) fun v H' => v = .ptr (.rw 14) 0 ∧ H' = can tsP s ++ canB tsP (ptrs 15 s) s s := by
  have h := dcall_ok (C := (⟨Try.prog, G, B⟩ : Ctx)) (K := Df Try.prog [] [36, 37, 55] [] [DLat 2360 (isSt [.ptr (.rw 0) 0, .nilp, .ptr (.rw 14) 0, .int .i64 0] (vHp G [some ⟨1, .var 1 (encT 1 s)⟩, some ⟨1, .row (.var 2 (setsL encP s)) (.lit 0)⟩, some ⟨1, .row (.var 2 (setsL encP s)) (.lit 1)⟩, some ⟨1, .row (.var 2 (setsL encP s)) (.lit 2)⟩, some ⟨1, .row (.var 2 (setsL encP s)) (.lit 3)⟩, some ⟨1, .row (.var 2 (setsL encP s)) (.lit 4)⟩, some ⟨1, .row (.var 2 (setsL encP s)) (.lit 5)⟩, some ⟨1, .row (.var 2 (setsL encP s)) (.lit 6)⟩, some ⟨1, .row (.var 2 (setsL encP s)) (.lit 7)⟩, some ⟨1, .row (.var 2 (setsL encP s)) (.lit 8)⟩, some ⟨1, .row (.var 2 (setsL encP s)) (.lit 9)⟩, some ⟨1, .row (.var 2 (setsL encP s)) (.lit 10)⟩, some ⟨1, .row (.var 2 (setsL encP s)) (.lit 11)⟩, some ⟨1, .row (.var 2 (setsL encP s)) (.lit 12)⟩, some ⟨1, .var 1 (encT 1 s)⟩])) 0 27 [0, 2, 3, 11] (.one (.exit 0) [.undef, .undef, .ptr (.rw 14) (.lit 0), .undef] (HCd (.var 1 (encT 1 s)) (.var 2 (setsL encP s)) (.var 21 (encV (cpT s 13) s)) (.var 22 (setsL encP (cutS s 13)))))] 15) (fuel := 300) (n0 := 20) (f := 12) (fn := Try.f12) (args := [.ptr (.rw 0) (.lit 0)]) (H := [some ⟨1, .var 1 (encT 1 s)⟩, some ⟨1, .row (.var 2 (setsL encP s)) (.lit 0)⟩, some ⟨1, .row (.var 2 (setsL encP s)) (.lit 1)⟩, some ⟨1, .row (.var 2 (setsL encP s)) (.lit 2)⟩, some ⟨1, .row (.var 2 (setsL encP s)) (.lit 3)⟩, some ⟨1, .row (.var 2 (setsL encP s)) (.lit 4)⟩, some ⟨1, .row (.var 2 (setsL encP s)) (.lit 5)⟩, some ⟨1, .row (.var 2 (setsL encP s)) (.lit 6)⟩, some ⟨1, .row (.var 2 (setsL encP s)) (.lit 7)⟩, some ⟨1, .row (.var 2 (setsL encP s)) (.lit 8)⟩, some ⟨1, .row (.var 2 (setsL encP s)) (.lit 9)⟩, some ⟨1, .row (.var 2 (setsL encP s)) (.lit 10)⟩, some ⟨1, .row (.var 2 (setsL encP s)) (.lit 11)⟩, some ⟨1, .row (.var 2 (setsL encP s)) (.lit 12)⟩]) (keep := 28)
    (R := fun v H => v = .ptr (.rw 14) 0 ∧ H = hpC tsP s 13) (dgoodf (mix G B) (by kernel_rfl) .nil (.cast (.cons (i := 0) (by kernel_rfl) rfl (DLat_okC rfl (cp_loop0 G B hw)) .nil) (by kernel_rfl))) (by kernel_rfl) (by kernel_rfl) (by kernel_rfl) (by
    have := cp_c G (isSt [.ptr (.rw 0) 0, .nilp, .ptr (.rw 14) 0, .int .i64 0] (vHp G [some ⟨1, .var 1 (encT 1 s)⟩, some ⟨1, .row (.var 2 (setsL encP s)) (.lit 0)⟩, some ⟨1, .row (.var 2 (setsL encP s)) (.lit 1)⟩, some ⟨1, .row (.var 2 (setsL encP s)) (.lit 2)⟩, some ⟨1, .row (.var 2 (setsL encP s)) (.lit 3)⟩, some ⟨1, .row (.var 2 (setsL encP s)) (.lit 4)⟩, some ⟨1, .row (.var 2 (setsL encP s)) (.lit 5)⟩, some ⟨1, .row (.var 2 (setsL encP s)) (.lit 6)⟩, some ⟨1, .row (.var 2 (setsL encP s)) (.lit 7)⟩, some ⟨1, .row (.var 2 (setsL encP s)) (.lit 8)⟩, some ⟨1, .row (.var 2 (setsL encP s)) (.lit 9)⟩, some ⟨1, .row (.var 2 (setsL encP s)) (.lit 10)⟩, some ⟨1, .row (.var 2 (setsL encP s)) (.lit 11)⟩, some ⟨1, .row (.var 2 (setsL encP s)) (.lit 12)⟩, some ⟨1, .var 1 (encT 1 s)⟩])) (encT 1 s) (setsL encP s) (encV (cpT s 13) s) (setsL encP (cutS s 13)) (fun _ _ _ => False) (fun v H => v = .ptr (.rw 14) 0 ∧ H = hpC tsP s 13)
    have es : subL (encT 1 s) 0 92 = encT 1 s := by unfold subL; rw [List.drop_zero, List.take_of_length_le (by rw [encT_len]; omega)]
    rw [es] at this
    exact Eq.mpr this ⟨rfl, fun _ => ⟨leB_iff.2 (by rw [encT_len]; omega), encT_cells 1 s, by rw [encT_len]; rfl, isSt_refl, rfl, hC G s 13⟩, fun h => by cases h⟩)
  rw [hT] at h
  have e : hpC tsP s 13 = can tsP s ++ canB tsP (ptrs 15 s) s s := by unfold hpC; rw [cp13 tsP_ok]
  rw [← e]
  refine ACalls.keep (k := 28) h ?_ ?_ rfl (by simp)
  · rw [hpC_len, can_len]; omega
  · rw [hpC_len]; exact hpC_bnd (by omega)
end Go.Am
