/-
  Processes: the program's Fork: the call.
-/
import Derived.Test.YtkabjomhnddnoaaPrJ
namespace Go.Am
open Go.Proofs Crc
set_option maxRecDepth 100000
theorem dgF (G : Nat → List AV) (B : Nat) {s : Ptb} (n : Int) : DGood (⟨Try.prog, G, B⟩ : Ctx) (Df Try.prog [(48, 1, 13)] [36, 38, 39, 20] [(58, fChildS sideP)] [DLat 0x91A (isSt [.ptr (.rw 0) 0, .int .i64 n, .int .i64 0, .int .i64 0, .int .i64 1] (vHp G [some ⟨1, .var 1 (encT 1 s)⟩, some ⟨1, .row (.var 2 (setsL encP s)) (.lit 0)⟩, some ⟨1, .row (.var 2 (setsL encP s)) (.lit 1)⟩, some ⟨1, .row (.var 2 (setsL encP s)) (.lit 2)⟩, some ⟨1, .row (.var 2 (setsL encP s)) (.lit 3)⟩, some ⟨1, .row (.var 2 (setsL encP s)) (.lit 4)⟩, some ⟨1, .row (.var 2 (setsL encP s)) (.lit 5)⟩, some ⟨1, .row (.var 2 (setsL encP s)) (.lit 6)⟩, some ⟨1, .row (.var 2 (setsL encP s)) (.lit 7)⟩, some ⟨1, .row (.var 2 (setsL encP s)) (.lit 8)⟩, some ⟨1, .row (.var 2 (setsL encP s)) (.lit 9)⟩, some ⟨1, .row (.var 2 (setsL encP s)) (.lit 10)⟩, some ⟨1, .row (.var 2 (setsL encP s)) (.lit 11)⟩, some ⟨1, .row (.var 2 (setsL encP s)) (.lit 12)⟩])) 0 50 [0, 1, 4, 5, 7] (.one (.exit 0) [.ptr (.rw 0) (.lit 0), .int .i64 (.var 3 n), .int .i64 (.lit 0), .int .i64 (.lit 0), .int .i64 (.ofN (.var 6 (lowF s)))] [some ⟨1, .var 1 (encT 1 s)⟩, some ⟨1, .row (.var 2 (setsL encP s)) (.lit 0)⟩, some ⟨1, .row (.var 2 (setsL encP s)) (.lit 1)⟩, some ⟨1, .row (.var 2 (setsL encP s)) (.lit 2)⟩, some ⟨1, .row (.var 2 (setsL encP s)) (.lit 3)⟩, some ⟨1, .row (.var 2 (setsL encP s)) (.lit 4)⟩, some ⟨1, .row (.var 2 (setsL encP s)) (.lit 5)⟩, some ⟨1, .row (.var 2 (setsL encP s)) (.lit 6)⟩, some ⟨1, .row (.var 2 (setsL encP s)) (.lit 7)⟩, some ⟨1, .row (.var 2 (setsL encP s)) (.lit 8)⟩, some ⟨1, .row (.var 2 (setsL encP s)) (.lit 9)⟩, some ⟨1, .row (.var 2 (setsL encP s)) (.lit 10)⟩, some ⟨1, .row (.var 2 (setsL encP s)) (.lit 11)⟩, some ⟨1, .row (.var 2 (setsL encP s)) (.lit 12)⟩])] 14) (loopsOf (bodyOf Try.f26)) :=
  dgoodf (mix G B) (by kernel_rfl) (.cons (fChildS_ok (sideP_ok G) (p_child G B)) .nil) (.cast (.cons (i := 0) (by kernel_rfl) rfl (DLat_okC rfl (f_loop G B n)) .nil) (by kernel_rfl))
theorem seen_lay {s : Ptb} {c q : Nat} {x : Pc} {p : Sg} {s' : Ptb} {E : Hp} (hq : 14 ≤ q) (hc : c < 13) (h1 : ∀ j, s'.at_ j = if j = c then x else s.at_ j) (h2 : ∀ j, s'.sg j = if j = c then some p else s.sg j) (hE : E[q - 14]? = some (some ⟨1, encP p⟩)) :
    SeenQ tsP s' c q (some ⟨1, setPart (encT 1 s) (c * 7 + 1) (.agg (rowT x (.ptr (.rw q) 0)))⟩ :: ((List.range 13).map (fun n => some ⟨1, rowA (setsL encP s) n⟩) ++ E)) := by
  refine ⟨by simp, ?_, fun n hn => ?_⟩
  · rw [List.getElem?_cons_zero, encT_V, V_row hc]
    congr 3
    show encV _ _ = encV _ _
    unfold encV
    congr 1
    refine tabL_congr fun a j _ _ => ?_
    show fcell (if a = c then x else s.at_ a) (if a = c then .ptr (.rw q) 0 else ptrO 1 a (s.sg a)) j = fcell (s'.at_ a) (match s'.sg a with | none => .nilp | some _ => .ptr (.rw (if a = c then q else 1 + a)) 0) j
    rw [h1 a, h2 a]
    by_cases e : a = c
    · simp only [if_pos e]
    · simp only [if_neg e]
      cases s.sg a <;> rfl
  · by_cases e : n = c
    · rw [if_pos e]
      refine ⟨encP p, ?_, fun p' hp' => ?_⟩
      · rw [show q = (q - 1) + 1 by omega, List.getElem?_cons_succ, List.getElem?_append_right (by simp; omega), List.length_map, List.length_range, show q - 1 - 13 = q - 14 by omega]
        exact hE
      · rw [h2 n, if_pos e] at hp'
        simp only [Option.some.injEq] at hp'
        rw [hp']; rfl
    · rw [if_neg e]
      refine ⟨rowA (setsL encP s) n, ?_, fun p' hp' => ?_⟩
      · rw [Nat.add_comm 1 n, List.getElem?_cons_succ, List.getElem?_append_left (by simpa using hn), List.getElem?_map, List.getElem?_range hn]; rfl
      · rw [h2 n, if_neg e] at hp'
        rw [rowA_sets hn, hp']; rfl
theorem row_facts {s : Ptb} {n : Nat} {p : Sg} (hn : n < 13) (hp : s.sg n = some p) : isNilA (rowT (s.at_ n) (ptrO 1 n (s.sg n))) 6 = false ∧ isPA 1 13 (rowT (s.at_ n) (ptrO 1 n (s.sg n))) 6 = true ∧ fkA 1 (rowT (s.at_ n) (ptrO 1 n (s.sg n))) 6 = n ∧ foA (rowT (s.at_ n) (ptrO 1 n (s.sg n))) 6 = 0 := by
  have h : (rowT (s.at_ n) (ptrO 1 n (s.sg n)))[6]? = some (ptrO 1 n (s.sg n)) := rfl
  have e := ptr_fam hn h (by rw [hp]; rfl)
  exact ⟨by rw [ptr_nil h, hp]; rfl, e.1, e.2.1, e.2.2⟩
def pairV (r : Int × Int) : AV := .tup [.int .i64 r.1, .int .i64 r.2]
theorem p_fork (G : Nat → List AV) (B : Nat) {s : Ptb} (hw : Wf s) (n : Int) : ACalls (⟨Try.prog, G, B⟩ : Ctx) 26 [.ptr (.rw 0) 0, .int .i64 n] (can tsP s) fun v H' => v = pairV (forkR s n).1 ∧ H' = mov tsP (forkR s n).2 := by
  have h := dcall_ok (C := (⟨Try.prog, G, B⟩ : Ctx)) (K := Df Try.prog [(48, 1, 13)] [36, 38, 39, 20] [(58, fChildS sideP)] [DLat 0x91A (isSt [.ptr (.rw 0) 0, .int .i64 n, .int .i64 0, .int .i64 0, .int .i64 1] (vHp G [some ⟨1, .var 1 (encT 1 s)⟩, some ⟨1, .row (.var 2 (setsL encP s)) (.lit 0)⟩, some ⟨1, .row (.var 2 (setsL encP s)) (.lit 1)⟩, some ⟨1, .row (.var 2 (setsL encP s)) (.lit 2)⟩, some ⟨1, .row (.var 2 (setsL encP s)) (.lit 3)⟩, some ⟨1, .row (.var 2 (setsL encP s)) (.lit 4)⟩, some ⟨1, .row (.var 2 (setsL encP s)) (.lit 5)⟩, some ⟨1, .row (.var 2 (setsL encP s)) (.lit 6)⟩, some ⟨1, .row (.var 2 (setsL encP s)) (.lit 7)⟩, some ⟨1, .row (.var 2 (setsL encP s)) (.lit 8)⟩, some ⟨1, .row (.var 2 (setsL encP s)) (.lit 9)⟩, some ⟨1, .row (.var 2 (setsL encP s)) (.lit 10)⟩, some ⟨1, .row (.var 2 (setsL encP s)) (.lit 11)⟩, some ⟨1, .row (.var 2 (setsL encP s)) (.lit 12)⟩])) 0 50 [0, 1, 4, 5, 7] (.one (.exit 0) [.ptr (.rw 0) (.lit 0), .int .i64 (.var 3 n), .int .i64 (.lit 0), .int .i64 (.lit 0), .int .i64 (.ofN (.var 6 (lowF s)))] [some ⟨1, .var 1 (encT 1 s)⟩, some ⟨1, .row (.var 2 (setsL encP s)) (.lit 0)⟩, some ⟨1, .row (.var 2 (setsL encP s)) (.lit 1)⟩, some ⟨1, .row (.var 2 (setsL encP s)) (.lit 2)⟩, some ⟨1, .row (.var 2 (setsL encP s)) (.lit 3)⟩, some ⟨1, .row (.var 2 (setsL encP s)) (.lit 4)⟩, some ⟨1, .row (.var 2 (setsL encP s)) (.lit 5)⟩, some ⟨1, .row (.var 2 (setsL encP s)) (.lit 6)⟩, some ⟨1, .row (.var 2 (setsL encP s)) (.lit 7)⟩, some ⟨1, .row (.var 2 (setsL encP s)) (.lit 8)⟩, some ⟨1, .row (.var 2 (setsL encP s)) (.lit 9)⟩, some ⟨1, .row (.var 2 (setsL encP s)) (.lit 10)⟩, some ⟨1, .row (.var 2 (setsL encP s)) (.lit 11)⟩, some ⟨1, .row (.var 2 (setsL encP s)) (.lit 12)⟩])] 14) (fuel := 300) (n0 := 40) (f := 26) (fn := Try.f26) (args := [.ptr (.rw 0) (.lit 0), .int .i64 (.var 3 n)]) (H := [some ⟨1, .var 1 (encT 1 s)⟩, some ⟨1, .row (.var 2 (setsL encP s)) (.lit 0)⟩, some ⟨1, .row (.var 2 (setsL encP s)) (.lit 1)⟩, some ⟨1, .row (.var 2 (setsL encP s)) (.lit 2)⟩, some ⟨1, .row (.var 2 (setsL encP s)) (.lit 3)⟩, some ⟨1, .row (.var 2 (setsL encP s)) (.lit 4)⟩, some ⟨1, .row (.var 2 (setsL encP s)) (.lit 5)⟩, some ⟨1, .row (.var 2 (setsL encP s)) (.lit 6)⟩, some ⟨1, .row (.var 2 (setsL encP s)) (.lit 7)⟩, some ⟨1, .row (.var 2 (setsL encP s)) (.lit 8)⟩, some ⟨1, .row (.var 2 (setsL encP s)) (.lit 9)⟩, some ⟨1, .row (.var 2 (setsL encP s)) (.lit 10)⟩, some ⟨1, .row (.var 2 (setsL encP s)) (.lit 11)⟩, some ⟨1, .row (.var 2 (setsL encP s)) (.lit 12)⟩]) (keep := 16)
    (R := fun v H => v = pairV (forkR s n).1 ∧ (Seen tsP (forkR s n).2 13 H ∨ ∃ c, SeenQ tsP (forkR s n).2 c 15 H ∧ 15 < H.length)) (dgF G B n) (by kernel_rfl) (by kernel_rfl) (by kernel_rfl) (by
    have := f_c G (isSt [.ptr (.rw 0) 0, .int .i64 n, .int .i64 0, .int .i64 0, .int .i64 1] (vHp G [some ⟨1, .var 1 (encT 1 s)⟩, some ⟨1, .row (.var 2 (setsL encP s)) (.lit 0)⟩, some ⟨1, .row (.var 2 (setsL encP s)) (.lit 1)⟩, some ⟨1, .row (.var 2 (setsL encP s)) (.lit 2)⟩, some ⟨1, .row (.var 2 (setsL encP s)) (.lit 3)⟩, some ⟨1, .row (.var 2 (setsL encP s)) (.lit 4)⟩, some ⟨1, .row (.var 2 (setsL encP s)) (.lit 5)⟩, some ⟨1, .row (.var 2 (setsL encP s)) (.lit 6)⟩, some ⟨1, .row (.var 2 (setsL encP s)) (.lit 7)⟩, some ⟨1, .row (.var 2 (setsL encP s)) (.lit 8)⟩, some ⟨1, .row (.var 2 (setsL encP s)) (.lit 9)⟩, some ⟨1, .row (.var 2 (setsL encP s)) (.lit 10)⟩, some ⟨1, .row (.var 2 (setsL encP s)) (.lit 11)⟩, some ⟨1, .row (.var 2 (setsL encP s)) (.lit 12)⟩])) (encT 1 s) (setsL encP s) n (lowF s) (fun _ _ _ => False) (fun v H => v = pairV (forkR s n).1 ∧ (Seen tsP (forkR s n).2 13 H ∨ ∃ c, SeenQ tsP (forkR s n).2 c 15 H ∧ 15 < H.length))
    refine Eq.mpr this ?_
    refine ⟨rfl, fun _ => ⟨rfl, rfl, live_tree 1 (fun hl => ⟨isSt_refl, fun h1 => ?_, fun h1 => ?_⟩) fun hl => ?_⟩, fun h => by cases h⟩
    · have h1 := of_decide_eq_true h1
      unfold forkR
      rw [if_pos hl, if_pos (by omega)]; exact ⟨rfl, .inl seen_same⟩
    · have h1 := of_decide_eq_false h1
      have h := live_iff.1 hl
      have hi : isP s n = true := isP_iff.2 ⟨h.1, h.2.1, h.2.2.1⟩
      obtain ⟨p, hp⟩ := hw.live_sg hi
      obtain ⟨_, a2⟩ := lowF_spec hw
      obtain ⟨b1, b2, _⟩ := a2 (by omega)
      have er := T_row (b := 1) (s := s) (n := n.toNat) (by omega)
      rw [er]
      obtain ⟨e1, e2, e3, e4⟩ := row_facts (n := n.toNat) (by omega) hp
      have e5 : rowA (setsL encP s) n.toNat = encP p := by rw [rowA_sets (by omega), hp]; rfl
      have ed : sgD s n.toNat = p := by unfold sgD; rw [hp]; rfl
      unfold rowT at e1 e2 e3 e4
      rw [e3, e4, e5, childU_enc]
      refine ⟨decide_eq_true (by omega), decide_eq_true (by omega), leB_iff.2 (by rw [encT_len]; omega), ?_, rfl, rfl, rfl, (fun h => by rw [e1] at h; cases h), fun _ => ⟨e2, rfl, leB_iff.2 (by omega), rowsA_same _ 13, leB_iff.2 (by rw [setsL_len]; omega), okU_enc p, decide_eq_true (by omega), decide_eq_true (by omega), leB_iff.2 (by rw [encT_len]; omega), ?_⟩⟩
      · cases s.sg n.toNat <;> rfl
      · unfold forkR
        rw [if_pos hl, if_neg (by omega)]
        refine ⟨rfl, .inr ⟨(lowF s), ?_, by simp⟩⟩
        exact seen_lay (s := s) (c := (lowF s)) (q := 15) (x := forkP s n (lowF s)) (p := childOf p) (s' := forkX s n (lowF s)) (E := [some ⟨1, _⟩, some ⟨1, encP (childOf p)⟩]) (by omega) (by omega) (fun j => rfl) (fun j => by show (if j = (lowF s) then some (childOf (sgD s n.toNat)) else s.sg j) = _; rw [ed]) rfl
    · unfold forkR
      rw [hl]; exact ⟨rfl, .inl seen_same⟩)
  rw [hT] at h
  exact pm_move tsP_ok (q := 15) (by omega) h rfl
end Go.Am
