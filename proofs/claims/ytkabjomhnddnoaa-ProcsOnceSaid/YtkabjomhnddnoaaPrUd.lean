/-
  Processes: the program's Kill: the call.
-/
import Derived.Test.YtkabjomhnddnoaaPrUc
namespace Go.Am
open Go.Proofs Crc
set_option maxRecDepth 100000
theorem hN13 (G : Nat → List AV) (B : Nat) {s : Ptb} (hw : Wf s) (to sg me : Int) : vHp G (HMd (.var 1 (encT 1 s)) (.var 31 (setsL encP (kR s to sg me 13).1)) (.var 3 to) (.var 4 sg) (.var 5 me) (.var 32 (kR s to sg me 13).2.1) (.var 33 (kR s to sg me 13).2.2) (.var 24 (rcM 0))) = hpN s to sg me 13 := hN G B hw to sg me 13
theorem hN0 (G : Nat → List AV) (B : Nat) (s : Ptb) (to sg me : Int) : vHp G (HMd (.var 1 (encT 1 s)) (.var 2 (setsL encP s)) (.var 3 to) (.var 4 sg) (.var 5 me) (.var 6 false) (.var 7 false) (.var 24 (rcM 0))) = hpN s to sg me 0 := by unfold hpN; rw [hM]; rfl
theorem m_loop0 (G : Nat → List AV) (B : Nat) {s : Ptb} (hw : Wf s) (to sg me : Int) : AWp (⟨Try.prog, G, B⟩ : Ctx) 23 (.loop (loopN Try.f76 0)) (fl 27 [0, 11, 12] [.yld 22, .agg (arT s 13), .int .i64 0]) (vHp G (HMd (.var 1 (encT 1 s)) (.var 2 (setsL encP s)) (.var 3 to) (.var 4 sg) (.var 5 me) (.var 6 false) (.var 7 false) (.var 24 (rcM 0)))) (lv 27 [0, 11, 12] (LOut.post G 23 (.one (.exit 0) [.undef, .undef, .undef] (HMd (.var 1 (encT 1 s)) (.var 31 (setsL encP (kR s to sg me 13).1)) (.var 3 to) (.var 4 sg) (.var 5 me) (.var 32 (kR s to sg me 13).2.1) (.var 33 (kR s to sg me 13).2.2) (.var 24 (rcM 0)))))) := by
  rw [hN0 G B]
  refine (m_loop G B hw to sg me).lmono ?_
  rintro ex vs H ⟨rfl, h1, rfl⟩
  exact ⟨rfl, .inl ⟨h1, (hN13 G B hw to sg me).symm⟩⟩
theorem m76_call (G : Nat → List AV) (B : Nat) {s : Ptb} (hw : Wf s) (to sg me : Int) : ACalls (⟨Try.prog, G, B⟩ : Ctx) 76 [.yld 22, .ptr (.rw 21) 0] (vHp G (HMd (.var 1 (encT 1 s)) (.var 2 (setsL encP s)) (.var 3 to) (.var 4 sg) (.var 5 me) (.var 6 false) (.var 7 false) (.var 24 (rcM 0)))) fun v H => v = .tup [] ∧ H = hpN s to sg me 13 := by
  have h := dcall_ok (C := (⟨Try.prog, G, B⟩ : Ctx)) (K := Dr Try.prog [36] [] [DLat 2351 (isSt [.yld 22, .agg (arT s 13), .int .i64 0] (vHp G (HMd (.var 1 (encT 1 s)) (.var 2 (setsL encP s)) (.var 3 to) (.var 4 sg) (.var 5 me) (.var 6 false) (.var 7 false) (.var 24 (rcM 0))))) 0 27 [0, 11, 12] (.one (.exit 0) [.undef, .undef, .undef] (HMd (.var 1 (encT 1 s)) (.var 31 (setsL encP (kR s to sg me 13).1)) (.var 3 to) (.var 4 sg) (.var 5 me) (.var 32 (kR s to sg me 13).2.1) (.var 33 (kR s to sg me 13).2.2) (.var 24 (rcM 0))))] [] noY 23) (fuel := 300) (n0 := 60) (f := 76) (fn := Try.f76) (args := [.yld 22, .ptr (.rw 21) (.lit 0)]) (H := (HMd (.var 1 (encT 1 s)) (.var 2 (setsL encP s)) (.var 3 to) (.var 4 sg) (.var 5 me) (.var 6 false) (.var 7 false) (.var 24 (rcM 0)))) (keep := 23)
    (R := fun v H => v = .tup [] ∧ H = hpN s to sg me 13) (dgoodr (mix G B) (by kernel_rfl) .nil (.cast (.cons (i := 0) (by kernel_rfl) rfl (DLat_okC rfl (m_loop0 G B hw to sg me)) .nil) (by kernel_rfl)) .none noY_ok) (by kernel_rfl) (by kernel_rfl) (by kernel_rfl) (by
    have := m76 G (isSt [.yld 22, .agg (arT s 13), .int .i64 0] (vHp G (HMd (.var 1 (encT 1 s)) (.var 2 (setsL encP s)) (.var 3 to) (.var 4 sg) (.var 5 me) (.var 6 false) (.var 7 false) (.var 24 (rcM 0))))) (encT 1 s) (setsL encP s) (rcM 0) (setsL encP (kR s to sg me 13).1) to sg me false false (kR s to sg me 13).2.1 (kR s to sg me 13).2.2 (fun _ _ _ => False) (fun v H => v = .tup [] ∧ H = hpN s to sg me 13)
    refine Eq.mpr this ⟨rfl, fun _ => ⟨leB_iff.2 (by rw [encT_len]; omega), ?_, rfl, ?_⟩, fun h => by cases h⟩
    · rw [encT_C]; exact isSt_refl
    · exact hN13 G B hw to sg me)
  refine ACalls.keep (k := 23) h ?_ ?_ rfl (by simp)
  · rw [hpN_len, vHp_length]; exact Nat.le_refl 23
  · rw [hpN_len]; exact hpM_b (by omega)
def ex0 (to sg me : Int) (st sm : Bool) : Hp := [some ⟨1, [.ptr (.rw 0) 0]⟩, some ⟨1, [.int .i64 to]⟩, some ⟨1, [.int .i64 sg]⟩, some ⟨1, [.int .i64 me]⟩, some ⟨1, [.bool st]⟩, some ⟨1, [.func 53 [.ptr (.rw 17) 0, .ptr (.rw 14) 0, .ptr (.rw 18) 0, .ptr (.rw 16) 0]]⟩, some ⟨1, [.bool sm]⟩, some ⟨1, [.ptr (.rw 0) 0]⟩]
def killU (s : Ptb) (n to sg : Int) : Ptb × Bool × Bool := kR s to sg (s.at_ n.toNat).usr 13
def killG (to sg : Int) : Bool := decide (sg < 0) || (decide (sg > 15) || to == 0)
def killE (s : Ptb) (n to sg : Int) : Int := if live s n = true then (if killG to sg = true then 2 else (if (killU s n to sg).2.2 = true then (if (killU s n to sg).2.1 = true then 0 else 8) else 6)) else 6
def killX (s : Ptb) (n to sg : Int) : Ptb := if live s n = true then (if killG to sg = true then s else (killU s n to sg).1) else s
theorem Wf.killX {s : Ptb} (h : Wf s) (n to sg : Int) : Wf (killX s n to sg) := by
  unfold Go.Am.killX
  split
  · split
    · exact h
    · exact (kR_inv h to sg _ 13).wf
  · exact h
theorem m_rng (G : Nat → List AV) (B : Nat) {s : Ptb} (hw : Wf s) (to sg me : Int) : AWp (⟨Try.prog, G, B⟩ : Ctx) 22 (loopN Try.f21 0) F0m (vHp G (HMe (.var 1 (encT 1 s)) (.var 2 (setsL encP s)) (.var 3 to) (.var 4 sg) (.var 5 me) (.var 6 false) (.var 7 false))) (lv 71 [6, 8, 11, 12, 13, 43] (LOut.post G 22 (.one .normal [.ptr (.rw 15) (.lit 0), .int .i64 (.lit 0), .ptr (.rw 18) (.lit 0), .ptr (.rw 19) (.lit 0), .ptr (.rw 20) (.lit 0), .func 76 [.ptr (.rw 21) (.lit 0)]] (HMe (.var 1 (encT 1 s)) (.var 31 (setsL encP (kR s to sg me 13).1)) (.var 3 to) (.var 4 sg) (.var 5 me) (.var 32 (kR s to sg me 13).2.1) (.var 33 (kR s to sg me 13).2.2))))) := by
  rw [N21_eq]
  refine AWp.rng (f := 76) (cap := [.ptr (.rw 21) 0]) (by rw [vHp_length]; exact Nat.le_refl 22) (by kernel_rfl) ?_
  refine (m76_call G B hw to sg me).monoK ?_
  rintro v H ⟨rfl, rfl⟩
  refine ⟨rfl, .inr ?_⟩
  have e1 : vHp G (HMe (.var 1 (encT 1 s)) (.var 31 (setsL encP (kR s to sg me 13).1)) (.var 3 to) (.var 4 sg) (.var 5 me) (.var 32 (kR s to sg me 13).2.1) (.var 33 (kR s to sg me 13).2.2)) = can tsP (kR s to sg me 13).1 ++ ex0 to sg me (kR s to sg me 13).2.1 (kR s to sg me 13).2.2 := by
    rw [← hp_can (t := tsP) (s := (kR s to sg me 13).1), show tsP.tb (ptrs 1 (kR s to sg me 13).1) (kR s to sg me 13).1 = encT 1 s from (kR_inv hw to sg me 13).tab]; rfl
  have e2 : hpN s to sg me 13 = vHp G (HMe (.var 1 (encT 1 s)) (.var 31 (setsL encP (kR s to sg me 13).1)) (.var 3 to) (.var 4 sg) (.var 5 me) (.var 32 (kR s to sg me 13).2.1) (.var 33 (kR s to sg me 13).2.2)) ++ [some (⟨4294967291, rcM 0⟩ : Blk)] := by
    rw [e1]; unfold hpN hpM exM ex0; rw [List.append_assoc]; rfl
  rw [e2]
  refine View.same (by rw [vHp_length]; exact Nat.le_refl 22) ?_ ⟨⟨rfl, rfl⟩, ⟨rfl, rfl⟩, ⟨rfl, rfl⟩, ⟨rfl, rfl⟩, ⟨rfl, rfl⟩, ⟨rfl, rfl⟩, trivial⟩
  rw [vHp_length, e1]
  exact hpB_app (can_b2 _ (by show 14 ≤ 22; decide)) rfl
theorem dg21 (G : Nat → List AV) (B : Nat) {s : Ptb} (hw : Wf s) (n to sg : Int) : DGood (⟨Try.prog, G, B⟩ : Ctx) (Dr Try.prog [36, 38, 39, 20, 54] [] [] [DLat 2352 (isSt [.ptr (.rw 15) 0, .int .i64 0, .ptr (.rw 18) 0, .ptr (.rw 19) 0, .ptr (.rw 20) 0, .func 76 [.ptr (.rw 21) 0]] (vHp G (HMe (.var 1 (encT 1 s)) (.var 2 (setsL encP s)) (.var 3 to) (.var 4 sg) (.var 5 (s.at_ n.toNat).usr) (.var 6 false) (.var 7 false)))) 44 71 [6, 8, 11, 12, 13, 43] (.one .normal [.ptr (.rw 15) (.lit 0), .int .i64 (.lit 0), .ptr (.rw 18) (.lit 0), .ptr (.rw 19) (.lit 0), .ptr (.rw 20) (.lit 0), .func 76 [.ptr (.rw 21) (.lit 0)]] (HMe (.var 1 (encT 1 s)) (.var 31 (setsL encP (kR s to sg (s.at_ n.toNat).usr 13).1)) (.var 3 to) (.var 4 sg) (.var 5 (s.at_ n.toNat).usr) (.var 32 (kR s to sg (s.at_ n.toNat).usr 13).2.1) (.var 33 (kR s to sg (s.at_ n.toNat).usr 13).2.2)))] noY 22) (loopsOf (bodyOf Try.f21)) := by
  rw [show loopsOf (bodyOf Try.f21) = [loopN Try.f21 0] by kernel_rfl]
  exact dgoodr (mix G B) (by kernel_rfl) .nil (.skip (by kernel_rfl) .nil) (.cons (i := 44) (by kernel_rfl) rfl (DCode_okC rfl (m_rng G B hw to sg (s.at_ n.toNat).usr)) .nil) noY_ok
theorem seen_KI {s s' : Ptb} (h : KI s s') : Seen tsP s' 13 (some ⟨1, encT 1 s⟩ :: (List.range 13).map fun n => some ⟨1, rowA (setsL encP s') n⟩) := seen_rows (t := tsP) h.tab.symm tsP_ok (sets_same (t := tsP) (s := s') fun _ _ h => h)
theorem p_kill (G : Nat → List AV) (B : Nat) {s : Ptb} (hw : Wf s) (n to sg : Int) : ACalls (⟨Try.prog, G, B⟩ : Ctx) 21 [.ptr (.rw 0) 0, .int .i64 n, .int .i64 to, .int .i64 sg] (can tsP s) fun v' H' => v' = .int .i64 (killE s n to sg) ∧ H' = can tsP (killX s n to sg) := by
  have h := dcall_ok (C := (⟨Try.prog, G, B⟩ : Ctx)) (K := Dr Try.prog [36, 38, 39, 20, 54] [] [] [DLat 2352 (isSt [.ptr (.rw 15) 0, .int .i64 0, .ptr (.rw 18) 0, .ptr (.rw 19) 0, .ptr (.rw 20) 0, .func 76 [.ptr (.rw 21) 0]] (vHp G (HMe (.var 1 (encT 1 s)) (.var 2 (setsL encP s)) (.var 3 to) (.var 4 sg) (.var 5 (s.at_ n.toNat).usr) (.var 6 false) (.var 7 false)))) 44 71 [6, 8, 11, 12, 13, 43] (.one .normal [.ptr (.rw 15) (.lit 0), .int .i64 (.lit 0), .ptr (.rw 18) (.lit 0), .ptr (.rw 19) (.lit 0), .ptr (.rw 20) (.lit 0), .func 76 [.ptr (.rw 21) (.lit 0)]] (HMe (.var 1 (encT 1 s)) (.var 31 (setsL encP (kR s to sg (s.at_ n.toNat).usr 13).1)) (.var 3 to) (.var 4 sg) (.var 5 (s.at_ n.toNat).usr) (.var 32 (kR s to sg (s.at_ n.toNat).usr 13).2.1) (.var 33 (kR s to sg (s.at_ n.toNat).usr 13).2.2)))] noY 22) (fuel := 300) (n0 := 60) (f := 21) (fn := Try.f21) (args := [.ptr (.rw 0) (.lit 0), .int .i64 (.var 34 n), .int .i64 (.var 3 to), .int .i64 (.var 4 sg)]) (H := [some ⟨1, .var 1 (encT 1 s)⟩, some ⟨1, .row (.var 2 (setsL encP s)) (.lit 0)⟩, some ⟨1, .row (.var 2 (setsL encP s)) (.lit 1)⟩, some ⟨1, .row (.var 2 (setsL encP s)) (.lit 2)⟩, some ⟨1, .row (.var 2 (setsL encP s)) (.lit 3)⟩, some ⟨1, .row (.var 2 (setsL encP s)) (.lit 4)⟩, some ⟨1, .row (.var 2 (setsL encP s)) (.lit 5)⟩, some ⟨1, .row (.var 2 (setsL encP s)) (.lit 6)⟩, some ⟨1, .row (.var 2 (setsL encP s)) (.lit 7)⟩, some ⟨1, .row (.var 2 (setsL encP s)) (.lit 8)⟩, some ⟨1, .row (.var 2 (setsL encP s)) (.lit 9)⟩, some ⟨1, .row (.var 2 (setsL encP s)) (.lit 10)⟩, some ⟨1, .row (.var 2 (setsL encP s)) (.lit 11)⟩, some ⟨1, .row (.var 2 (setsL encP s)) (.lit 12)⟩]) (keep := 14)
    (R := fun v' H' => v' = .int .i64 (killE s n to sg) ∧ Seen tsP (killX s n to sg) 13 H') (dg21 G B hw n to sg) (by kernel_rfl) (by kernel_rfl) (by kernel_rfl) (by
    have := m21 G (isSt [.ptr (.rw 15) 0, .int .i64 0, .ptr (.rw 18) 0, .ptr (.rw 19) 0, .ptr (.rw 20) 0, .func 76 [.ptr (.rw 21) 0]] (vHp G (HMe (.var 1 (encT 1 s)) (.var 2 (setsL encP s)) (.var 3 to) (.var 4 sg) (.var 5 (s.at_ n.toNat).usr) (.var 6 false) (.var 7 false)))) (encT 1 s) (setsL encP s) (setsL encP (kR s to sg (s.at_ n.toNat).usr 13).1) n to sg (s.at_ n.toNat).usr (kR s to sg (s.at_ n.toNat).usr 13).2.1 (kR s to sg (s.at_ n.toNat).usr 13).2.2 (fun _ _ _ => False) (fun v' H' => v' = .int .i64 (killE s n to sg) ∧ Seen tsP (killX s n to sg) 13 H')
    refine Eq.mpr this ⟨rfl, fun _ => ⟨rfl, rfl, live_tree 1 (fun hl => ?_) fun hl => ?_⟩, fun h => by cases h⟩
    · have h := live_iff.1 hl
      have tu := T_usr (b := 1) (s := s) (n := n.toNat) (by omega)
      refine ⟨fun h1 => ?_, fun h1 => ⟨fun h2 => ?_, fun h2 => ⟨fun h3 => ?_, fun h3 => ?_⟩⟩⟩
      · have hg : killG to sg = true := by unfold killG; rw [h1]; rfl
        unfold killE killX
        rw [if_pos hl, if_pos hl, if_pos hg, if_pos hg]; exact ⟨rfl, seen_same⟩
      · have hg : killG to sg = true := by unfold killG; rw [h2]; simp
        unfold killE killX
        rw [if_pos hl, if_pos hl, if_pos hg, if_pos hg]; exact ⟨rfl, seen_same⟩
      · have hg : killG to sg = true := by unfold killG; rw [h3]; simp
        unfold killE killX
        rw [if_pos hl, if_pos hl, if_pos hg, if_pos hg]; exact ⟨rfl, seen_same⟩
      · have hg : ¬ killG to sg = true := by unfold killG; rw [h1, h2, h3]; simp
        have hx : killX s n to sg = (kR s to sg (s.at_ n.toNat).usr 13).1 := by unfold killX; rw [if_pos hl, if_neg hg]; rfl
        have hs := seen_KI (kR_inv hw to sg (s.at_ n.toNat).usr 13)
        rw [tu.2, hx]
        refine ⟨decide_eq_true (by omega), decide_eq_true (by omega), tu.1, isSt_refl, fun h4 => ⟨fun h5 => ⟨?_, hs⟩, fun h5 => ⟨?_, hs⟩⟩, fun h4 => ⟨?_, hs⟩⟩
        · unfold killE killU; rw [if_pos hl, if_neg hg, if_pos h4, if_pos h5]
        · unfold killE killU; rw [if_pos hl, if_neg hg, if_pos h4, if_neg (by rw [h5]; simp)]
        · unfold killE killU; rw [if_pos hl, if_neg hg, if_neg (by rw [h4]; simp)]
    · unfold killE killX
      rw [hl]; exact ⟨rfl, seen_same⟩)
  rw [hT] at h
  exact pm_stay tsP_ok h rfl
end Go.Am
