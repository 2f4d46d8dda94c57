/-
  Processes: the program's Wait: the call.
-/
import Derived.Test.YtkabjomhnddnoaaPrH
namespace Go.Am
open Go.Proofs Crc
set_option maxRecDepth 100000
theorem encT_C (s : Ptb) : encT 1 s = encV (ptC s 13) s := by
  show tsP.tb (ptrs 1 s) s = tsP.tb (ptC s 13) s
  refine tsP_ok.congr _ _ _ fun n hn => ?_
  unfold ptrs ptrO ptC
  split
  · rename_i e; rw [e]
  · rename_i e; rw [e]; simp only; rw [if_neg (by omega)]
theorem kidNU_T {k : IntKind} {s : Ptb} {n : Int} : kidNU [.agg (encT 1 s), .int k n] = (kidT s n 13).length := by
  unfold kidNU
  rw [encT_V]
  simp only [kidLC_eq]
theorem kidLU_T {k : IntKind} {s : Ptb} {n : Int} : kidLU [.agg (encT 1 s), .int k n] = nl (kidT s n 13) := by
  unfold kidLU
  rw [encT_V]
  simp only [kidLC_eq]
theorem sets_flat {s : Ptb} : ∀ n, n < 13 → bnds 0 (rowA (setsL encP s) n) = true := fun n hn => by
  rw [rowA_sets hn]; exact blkO_flat tsP_ok _ 0
theorem k14_ok {s : Ptb} (hw : Wf s) : okK14 [.agg (encT 1 s), .agg (setsL encP s)] = true := okK14_iff.2 ⟨s, hw, encT_C s, sets_flat⟩
theorem dgW (G : Nat → List AV) (B : Nat) {s : Ptb} (hw : Wf s) (n w : Int) : DGood (⟨Try.prog, G, B⟩ : Ctx) (Dc Try.prog [36, 38, 39, 20] [(31, kidsS)] [DLat 0x910 (isSt [.ptr (.rw 0) 0, .int .i64 w, .int .i64 0, .int .i64 0, .bool false, .int .i64 0, .slice true (.rw 14) 0 (kidT s n 13).length, .int .i64 ((kidT s n 13).length : Int), .int .i64 0] (vHp G [some ⟨1, .var 1 (encT 1 s)⟩, some ⟨1, .row (.var 2 (setsL encP s)) (.lit 0)⟩, some ⟨1, .row (.var 2 (setsL encP s)) (.lit 1)⟩, some ⟨1, .row (.var 2 (setsL encP s)) (.lit 2)⟩, some ⟨1, .row (.var 2 (setsL encP s)) (.lit 3)⟩, some ⟨1, .row (.var 2 (setsL encP s)) (.lit 4)⟩, some ⟨1, .row (.var 2 (setsL encP s)) (.lit 5)⟩, some ⟨1, .row (.var 2 (setsL encP s)) (.lit 6)⟩, some ⟨1, .row (.var 2 (setsL encP s)) (.lit 7)⟩, some ⟨1, .row (.var 2 (setsL encP s)) (.lit 8)⟩, some ⟨1, .row (.var 2 (setsL encP s)) (.lit 9)⟩, some ⟨1, .row (.var 2 (setsL encP s)) (.lit 10)⟩, some ⟨1, .row (.var 2 (setsL encP s)) (.lit 11)⟩, some ⟨1, .row (.var 2 (setsL encP s)) (.lit 12)⟩, some ⟨1, .var 22 (nl (kidT s n 13))⟩])) 0 67 [0, 2, 6, 7, 8, 9, 32, 33, 34] (.tst (.var 9 (((kidT s n 13).find? (wHit s w)).isSome)) (.one .ret [.undef, .undef, .int .i64 (.var 10 ((((kidT s n 13).find? (wHit s w)).getD 0) : Int)), .int .i64 (.var 11 (s.at_ (((kidT s n 13).find? (wHit s w)).getD 0)).st), .bool (.lit false), .int .i64 (.lit 0), .undef, .undef, .undef] [some ⟨1, .var 21 (encT 1 (freeX s (((kidT s n 13).find? (wHit s w)).getD 0)))⟩, some ⟨1, .row (.var 2 (setsL encP s)) (.lit 0)⟩, some ⟨1, .row (.var 2 (setsL encP s)) (.lit 1)⟩, some ⟨1, .row (.var 2 (setsL encP s)) (.lit 2)⟩, some ⟨1, .row (.var 2 (setsL encP s)) (.lit 3)⟩, some ⟨1, .row (.var 2 (setsL encP s)) (.lit 4)⟩, some ⟨1, .row (.var 2 (setsL encP s)) (.lit 5)⟩, some ⟨1, .row (.var 2 (setsL encP s)) (.lit 6)⟩, some ⟨1, .row (.var 2 (setsL encP s)) (.lit 7)⟩, some ⟨1, .row (.var 2 (setsL encP s)) (.lit 8)⟩, some ⟨1, .row (.var 2 (setsL encP s)) (.lit 9)⟩, some ⟨1, .row (.var 2 (setsL encP s)) (.lit 10)⟩, some ⟨1, .row (.var 2 (setsL encP s)) (.lit 11)⟩, some ⟨1, .row (.var 2 (setsL encP s)) (.lit 12)⟩, some ⟨1, .var 22 (nl (kidT s n 13))⟩]) (.one (.exit 0) [.undef, .undef, .int .i64 (.lit 0), .int .i64 (.lit 0), .bool (.var 7 ((kidT s n 13).any (wMat w))), .int .i64 (.lit 0), .undef, .undef, .undef] [some ⟨1, .var 1 (encT 1 s)⟩, some ⟨1, .row (.var 2 (setsL encP s)) (.lit 0)⟩, some ⟨1, .row (.var 2 (setsL encP s)) (.lit 1)⟩, some ⟨1, .row (.var 2 (setsL encP s)) (.lit 2)⟩, some ⟨1, .row (.var 2 (setsL encP s)) (.lit 3)⟩, some ⟨1, .row (.var 2 (setsL encP s)) (.lit 4)⟩, some ⟨1, .row (.var 2 (setsL encP s)) (.lit 5)⟩, some ⟨1, .row (.var 2 (setsL encP s)) (.lit 6)⟩, some ⟨1, .row (.var 2 (setsL encP s)) (.lit 7)⟩, some ⟨1, .row (.var 2 (setsL encP s)) (.lit 8)⟩, some ⟨1, .row (.var 2 (setsL encP s)) (.lit 9)⟩, some ⟨1, .row (.var 2 (setsL encP s)) (.lit 10)⟩, some ⟨1, .row (.var 2 (setsL encP s)) (.lit 11)⟩, some ⟨1, .row (.var 2 (setsL encP s)) (.lit 12)⟩, some ⟨1, .var 22 (nl (kidT s n 13))⟩]))] 14) (loopsOf (bodyOf Try.f13)) :=
  dgood (mix G B) (by kernel_rfl) (.cons (kidsS_ok G B) .nil) (.cast (.cons (i := 0) (by kernel_rfl) rfl (DLat_okC rfl (w_loop G B hw n w)) .nil) (by kernel_rfl))
def waitVv (r : Int × Int × Bool × Int) : AV := .tup [.int .i64 r.1, .int .i64 r.2.1, .bool r.2.2.1, .int .i64 r.2.2.2]
theorem seen_free {s : Ptb} {c : Nat} : Seen tsP (freeX s c) 13 (some ⟨1, encT 1 (freeX s c)⟩ :: (List.range 13).map fun n => some ⟨1, rowA (setsL encP s) n⟩) :=
  seen_rows (t := tsP) rfl tsP_ok (sets_same (t := tsP) (s := s) fun n p h => by
    have h : (if n = c then none else s.sg n) = some p := h
    split at h
    · cases h
    · exact h)
theorem p_wait (G : Nat → List AV) (B : Nat) {s : Ptb} (hw : Wf s) (n w : Int) : ACalls (⟨Try.prog, G, B⟩ : Ctx) 13 [.ptr (.rw 0) 0, .int .i64 n, .int .i64 w] (can tsP s) fun v H' => v = waitVv (waitR s n w).1 ∧ H' = can tsP (waitR s n w).2 := by
  have h := dcall_ok (C := (⟨Try.prog, G, B⟩ : Ctx)) (K := Dc Try.prog [36, 38, 39, 20] [(31, kidsS)] [DLat 0x910 (isSt [.ptr (.rw 0) 0, .int .i64 w, .int .i64 0, .int .i64 0, .bool false, .int .i64 0, .slice true (.rw 14) 0 (kidT s n 13).length, .int .i64 ((kidT s n 13).length : Int), .int .i64 0] (vHp G [some ⟨1, .var 1 (encT 1 s)⟩, some ⟨1, .row (.var 2 (setsL encP s)) (.lit 0)⟩, some ⟨1, .row (.var 2 (setsL encP s)) (.lit 1)⟩, some ⟨1, .row (.var 2 (setsL encP s)) (.lit 2)⟩, some ⟨1, .row (.var 2 (setsL encP s)) (.lit 3)⟩, some ⟨1, .row (.var 2 (setsL encP s)) (.lit 4)⟩, some ⟨1, .row (.var 2 (setsL encP s)) (.lit 5)⟩, some ⟨1, .row (.var 2 (setsL encP s)) (.lit 6)⟩, some ⟨1, .row (.var 2 (setsL encP s)) (.lit 7)⟩, some ⟨1, .row (.var 2 (setsL encP s)) (.lit 8)⟩, some ⟨1, .row (.var 2 (setsL encP s)) (.lit 9)⟩, some ⟨1, .row (.var 2 (setsL encP s)) (.lit 10)⟩, some ⟨1, .row (.var 2 (setsL encP s)) (.lit 11)⟩, some ⟨1, .row (.var 2 (setsL encP s)) (.lit 12)⟩, some ⟨1, .var 22 (nl (kidT s n 13))⟩])) 0 67 [0, 2, 6, 7, 8, 9, 32, 33, 34] (.tst (.var 9 (((kidT s n 13).find? (wHit s w)).isSome)) (.one .ret [.undef, .undef, .int .i64 (.var 10 ((((kidT s n 13).find? (wHit s w)).getD 0) : Int)), .int .i64 (.var 11 (s.at_ (((kidT s n 13).find? (wHit s w)).getD 0)).st), .bool (.lit false), .int .i64 (.lit 0), .undef, .undef, .undef] [some ⟨1, .var 21 (encT 1 (freeX s (((kidT s n 13).find? (wHit s w)).getD 0)))⟩, some ⟨1, .row (.var 2 (setsL encP s)) (.lit 0)⟩, some ⟨1, .row (.var 2 (setsL encP s)) (.lit 1)⟩, some ⟨1, .row (.var 2 (setsL encP s)) (.lit 2)⟩, some ⟨1, .row (.var 2 (setsL encP s)) (.lit 3)⟩, some ⟨1, .row (.var 2 (setsL encP s)) (.lit 4)⟩, some ⟨1, .row (.var 2 (setsL encP s)) (.lit 5)⟩, some ⟨1, .row (.var 2 (setsL encP s)) (.lit 6)⟩, some ⟨1, .row (.var 2 (setsL encP s)) (.lit 7)⟩, some ⟨1, .row (.var 2 (setsL encP s)) (.lit 8)⟩, some ⟨1, .row (.var 2 (setsL encP s)) (.lit 9)⟩, some ⟨1, .row (.var 2 (setsL encP s)) (.lit 10)⟩, some ⟨1, .row (.var 2 (setsL encP s)) (.lit 11)⟩, some ⟨1, .row (.var 2 (setsL encP s)) (.lit 12)⟩, some ⟨1, .var 22 (nl (kidT s n 13))⟩]) (.one (.exit 0) [.undef, .undef, .int .i64 (.lit 0), .int .i64 (.lit 0), .bool (.var 7 ((kidT s n 13).any (wMat w))), .int .i64 (.lit 0), .undef, .undef, .undef] [some ⟨1, .var 1 (encT 1 s)⟩, some ⟨1, .row (.var 2 (setsL encP s)) (.lit 0)⟩, some ⟨1, .row (.var 2 (setsL encP s)) (.lit 1)⟩, some ⟨1, .row (.var 2 (setsL encP s)) (.lit 2)⟩, some ⟨1, .row (.var 2 (setsL encP s)) (.lit 3)⟩, some ⟨1, .row (.var 2 (setsL encP s)) (.lit 4)⟩, some ⟨1, .row (.var 2 (setsL encP s)) (.lit 5)⟩, some ⟨1, .row (.var 2 (setsL encP s)) (.lit 6)⟩, some ⟨1, .row (.var 2 (setsL encP s)) (.lit 7)⟩, some ⟨1, .row (.var 2 (setsL encP s)) (.lit 8)⟩, some ⟨1, .row (.var 2 (setsL encP s)) (.lit 9)⟩, some ⟨1, .row (.var 2 (setsL encP s)) (.lit 10)⟩, some ⟨1, .row (.var 2 (setsL encP s)) (.lit 11)⟩, some ⟨1, .row (.var 2 (setsL encP s)) (.lit 12)⟩, some ⟨1, .var 22 (nl (kidT s n 13))⟩]))] 14) (fuel := 300) (n0 := 40) (f := 13) (fn := Try.f13) (args := [.ptr (.rw 0) (.lit 0), .int .i64 (.var 3 n), .int .i64 (.var 4 w)]) (H := [some ⟨1, .var 1 (encT 1 s)⟩, some ⟨1, .row (.var 2 (setsL encP s)) (.lit 0)⟩, some ⟨1, .row (.var 2 (setsL encP s)) (.lit 1)⟩, some ⟨1, .row (.var 2 (setsL encP s)) (.lit 2)⟩, some ⟨1, .row (.var 2 (setsL encP s)) (.lit 3)⟩, some ⟨1, .row (.var 2 (setsL encP s)) (.lit 4)⟩, some ⟨1, .row (.var 2 (setsL encP s)) (.lit 5)⟩, some ⟨1, .row (.var 2 (setsL encP s)) (.lit 6)⟩, some ⟨1, .row (.var 2 (setsL encP s)) (.lit 7)⟩, some ⟨1, .row (.var 2 (setsL encP s)) (.lit 8)⟩, some ⟨1, .row (.var 2 (setsL encP s)) (.lit 9)⟩, some ⟨1, .row (.var 2 (setsL encP s)) (.lit 10)⟩, some ⟨1, .row (.var 2 (setsL encP s)) (.lit 11)⟩, some ⟨1, .row (.var 2 (setsL encP s)) (.lit 12)⟩]) (keep := 14)
    (R := fun v H => v = waitVv (waitR s n w).1 ∧ Seen tsP (waitR s n w).2 13 H) (dgW G B hw n w) (by kernel_rfl) (by kernel_rfl) (by kernel_rfl) (by
    have := w_c G okK15 okK14 (isSt [.ptr (.rw 0) 0, .int .i64 w, .int .i64 0, .int .i64 0, .bool false, .int .i64 0, .slice true (.rw 14) 0 (kidT s n 13).length, .int .i64 ((kidT s n 13).length : Int), .int .i64 0] (vHp G [some ⟨1, .var 1 (encT 1 s)⟩, some ⟨1, .row (.var 2 (setsL encP s)) (.lit 0)⟩, some ⟨1, .row (.var 2 (setsL encP s)) (.lit 1)⟩, some ⟨1, .row (.var 2 (setsL encP s)) (.lit 2)⟩, some ⟨1, .row (.var 2 (setsL encP s)) (.lit 3)⟩, some ⟨1, .row (.var 2 (setsL encP s)) (.lit 4)⟩, some ⟨1, .row (.var 2 (setsL encP s)) (.lit 5)⟩, some ⟨1, .row (.var 2 (setsL encP s)) (.lit 6)⟩, some ⟨1, .row (.var 2 (setsL encP s)) (.lit 7)⟩, some ⟨1, .row (.var 2 (setsL encP s)) (.lit 8)⟩, some ⟨1, .row (.var 2 (setsL encP s)) (.lit 9)⟩, some ⟨1, .row (.var 2 (setsL encP s)) (.lit 10)⟩, some ⟨1, .row (.var 2 (setsL encP s)) (.lit 11)⟩, some ⟨1, .row (.var 2 (setsL encP s)) (.lit 12)⟩, some ⟨1, .var 22 (nl (kidT s n 13))⟩])) (encT 1 s) (setsL encP s) (nl (kidT s n 13)) (encT 1 (freeX s (((kidT s n 13).find? (wHit s w)).getD 0))) n w ((((kidT s n 13).find? (wHit s w)).getD 0) : Int) (s.at_ (((kidT s n 13).find? (wHit s w)).getD 0)).st (kidT s n 13).length (((kidT s n 13).find? (wHit s w)).isSome) ((kidT s n 13).any (wMat w)) (fun _ _ _ => False) (fun v H => v = waitVv (waitR s n w).1 ∧ Seen tsP (waitR s n w).2 13 H)
    refine Eq.mpr this ?_
    rw [kidNU_T, kidLU_T]
    refine ⟨rfl, fun _ => ⟨rfl, rfl, live_tree 1 (fun hl => ?_) fun hl => ?_⟩, fun h => by cases h⟩
    · have fin : ¬ (w ≠ -1 ∧ (w < 1 ∨ 12 < w)) → ((((kidT s n 13).find? (wHit s w)).isSome) = true → (waitVv (((((kidT s n 13).find? (wHit s w)).getD 0) : Int), (s.at_ (((kidT s n 13).find? (wHit s w)).getD 0)).st, false, 0) = waitVv (waitR s n w).1 ∧ Seen tsP (waitR s n w).2 13 (some ⟨1, encT 1 (freeX s (((kidT s n 13).find? (wHit s w)).getD 0))⟩ :: (List.range 13).map fun n => some ⟨1, rowA (setsL encP s) n⟩))) ∧
          ((((kidT s n 13).find? (wHit s w)).isSome) = false → ((kidT s n 13).any (wMat w) = true → (waitVv (0, 0, true, 0) = waitVv (waitR s n w).1 ∧ Seen tsP (waitR s n w).2 13 (some ⟨1, encT 1 s⟩ :: (List.range 13).map fun n => some ⟨1, rowA (setsL encP s) n⟩))) ∧ ((kidT s n 13).any (wMat w) = false → (waitVv (0, 0, false, 6) = waitVv (waitR s n w).1 ∧ Seen tsP (waitR s n w).2 13 (some ⟨1, encT 1 s⟩ :: (List.range 13).map fun n => some ⟨1, rowA (setsL encP s) n⟩)))) := fun hr => by
        unfold waitR
        rw [if_pos hl, if_neg hr]
        cases hf : (kidT s n 13).find? (wHit s w) with
        | some c => exact ⟨fun _ => ⟨rfl, seen_free⟩, fun h => by cases h⟩
        | none =>
          refine ⟨(fun h => by cases h), fun _ => ⟨fun ha => ?_, fun ha => ?_⟩⟩
          · dsimp only; rw [if_pos ha]; exact ⟨rfl, seen_same⟩
          · dsimp only; rw [if_neg (by rw [ha]; simp)]; exact ⟨rfl, seen_same⟩
      have bad : (w ≠ -1 ∧ (w < 1 ∨ 12 < w)) → (waitVv (0, 0, false, 2) = waitVv (waitR s n w).1 ∧ Seen tsP (waitR s n w).2 13 (some ⟨1, encT 1 s⟩ :: (List.range 13).map fun n => some ⟨1, rowA (setsL encP s) n⟩)) := fun hr => by
        unfold waitR
        rw [if_pos hl, if_pos hr]; exact ⟨rfl, seen_same⟩
      refine ⟨fun h1 => ?_, fun h1 => ⟨fun h2 => ?_, fun h2 => ⟨fun h3 => ?_, fun h3 => ?_⟩⟩⟩
      · have h1 : w = -1 := eq_of_beq h1
        exact ⟨rowsA_same _ 13, k14_ok hw, isSt_refl, (fin (by omega)).1, (fin (by omega)).2⟩
      · have h1 : ¬ w = -1 := fun e => by rw [e] at h1; cases h1
        have h2 := of_decide_eq_true h2
        exact bad (by omega)
      · have h1 : ¬ w = -1 := fun e => by rw [e] at h1; cases h1
        have h3 := of_decide_eq_true h3
        exact bad (by omega)
      · have h2 := of_decide_eq_false h2
        have h3 := of_decide_eq_false h3
        exact ⟨rowsA_same _ 13, k14_ok hw, isSt_refl, (fin (by omega)).1, (fin (by omega)).2⟩
    · unfold waitR
      rw [hl]; exact ⟨rfl, seen_same⟩)
  rw [hT] at h
  exact pm_stay tsP_ok h rfl
end Go.Am
