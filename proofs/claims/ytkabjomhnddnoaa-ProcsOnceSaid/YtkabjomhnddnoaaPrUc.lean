/-
  Processes: the program's Kill: the iterator's loop.
-/
import Derived.Test.YtkabjomhnddnoaaPrUb
namespace Go.Am
open Go.Proofs Crc
set_option maxRecDepth 100000
def kR (s : Ptb) (to sg me : Int) : Nat → Ptb × Bool × Bool
  | 0 => (s, false, false)
  | i + 1 => if 0 < (s.at_ i).num then (kNx (kR s to sg me i).1 i to sg me, (kR s to sg me i).2.1 || (kMt (s.at_ i) to && kMy (s.at_ i) me), (kR s to sg me i).2.2 || kMt (s.at_ i) to) else kR s to sg me i
structure KI (s s' : Ptb) : Prop where
  wf : Wf s'
  at_ : s'.at_ = s.at_
  pt : ptrs 1 s' = ptrs 1 s
theorem KI.tab {s s' : Ptb} (h : KI s s') : encT 1 s' = encT 1 s := by
  show encV (ptrs 1 s') s' = encV (ptrs 1 s) s
  rw [h.pt]
  unfold encV
  rw [h.at_]
theorem kNx_keep {s s' : Ptb} (h : KI s s') {i : Nat} (hi : (s.at_ i).num ≠ 0) (to sg me : Int) : KI s (kNx s' i to sg me) := by
  unfold kNx
  split
  · have hi' : (s'.at_ i).num ≠ 0 := by rw [h.at_]; exact hi
    obtain ⟨_, _, _, p, hp⟩ := h.wf.there hi'
    exact ⟨h.wf.updS hi', h.at_, by rw [ptrs_updS hp]; exact h.pt⟩
  · exact h
theorem kR_inv {s : Ptb} (hw : Wf s) (to sg me : Int) : ∀ i, KI s (kR s to sg me i).1
  | 0 => ⟨hw, rfl, rfl⟩
  | i + 1 => by
    unfold kR
    split
    · exact kNx_keep (kR_inv hw to sg me i) (by omega) to sg me
    · exact kR_inv hw to sg me i
noncomputable def hpN (s : Ptb) (to sg me : Int) (i : Nat) : Hp := hpM (kR s to sg me i).1 to sg me (kR s to sg me i).2.1 (kR s to sg me i).2.2 (rcM 0)
theorem row14 {s : Ptb} {i : Nat} (hi : i < 13) : bnds 14 (rowT (s.at_ i) (ptC s 13 i)) = true := by
  have h : bnd 14 (ptC s 13 i) = true := by
    unfold ptC
    split
    · rfl
    · have : (if i = 13 then 14 else 1 + i) < 14 := by split <;> omega
      simpa [bnd] using this
  simp only [rowT, bnds, bnd, h, Bool.and_self]
theorem mO_ok (G : Nat → List AV) (B : Nat) {s : Ptb} (hw : Wf s) (to sg me : Int) {i : Nat} (hi : i < 13) (hp : 0 < (s.at_ i).num) : DYsumOk (⟨Try.prog, G, B⟩ : Ctx) (yAt 2350 22 (isSt [.agg (subL (subL (arT s 13) (i * 7) 7) 0 6)] (vHp G ((HMd (.var 1 (encT 1 (kR s to sg me i).1)) (.var 2 (setsL encP (kR s to sg me i).1)) (.var 3 to) (.var 4 sg) (.var 5 me) (.var 6 (kR s to sg me i).2.1) (.var 7 (kR s to sg me i).2.2) (.var 24 (rcM 0))) ++ ([some ⟨1, .sub (.var 25 (arT s 13)) (.mul (.var 35 i) 7) (.lit 7)⟩] : DHp)))) (.one (.bool (.lit true)) [.set 1 ⟨1, .row (.var 31 (setsL encP (kR s to sg me (i + 1)).1)) (.lit 0)⟩, .set 2 ⟨1, .row (.var 31 (setsL encP (kR s to sg me (i + 1)).1)) (.lit 1)⟩, .set 3 ⟨1, .row (.var 31 (setsL encP (kR s to sg me (i + 1)).1)) (.lit 2)⟩, .set 4 ⟨1, .row (.var 31 (setsL encP (kR s to sg me (i + 1)).1)) (.lit 3)⟩, .set 5 ⟨1, .row (.var 31 (setsL encP (kR s to sg me (i + 1)).1)) (.lit 4)⟩, .set 6 ⟨1, .row (.var 31 (setsL encP (kR s to sg me (i + 1)).1)) (.lit 5)⟩, .set 7 ⟨1, .row (.var 31 (setsL encP (kR s to sg me (i + 1)).1)) (.lit 6)⟩, .set 8 ⟨1, .row (.var 31 (setsL encP (kR s to sg me (i + 1)).1)) (.lit 7)⟩, .set 9 ⟨1, .row (.var 31 (setsL encP (kR s to sg me (i + 1)).1)) (.lit 8)⟩, .set 10 ⟨1, .row (.var 31 (setsL encP (kR s to sg me (i + 1)).1)) (.lit 9)⟩, .set 11 ⟨1, .row (.var 31 (setsL encP (kR s to sg me (i + 1)).1)) (.lit 10)⟩, .set 12 ⟨1, .row (.var 31 (setsL encP (kR s to sg me (i + 1)).1)) (.lit 11)⟩, .set 13 ⟨1, .row (.var 31 (setsL encP (kR s to sg me (i + 1)).1)) (.lit 12)⟩, .set 18 ⟨1, .of [.bool (.var 32 (kR s to sg me (i + 1)).2.1)]⟩, .set 20 ⟨1, .of [.bool (.var 33 (kR s to sg me (i + 1)).2.2)]⟩])) := by
  refine yAt_ok rfl ?_
  have ki := kR_inv hw to sg me i
  have ea : (kR s to sg me i).1.at_ i = ⟨(s.at_ i).num, (s.at_ i).par, (s.at_ i).grp, (s.at_ i).usr, (s.at_ i).en, (s.at_ i).st⟩ := by rw [ki.at_]
  have hn := hw.there (n := i) (by omega)
  have key := y_m G B ki.wf (rowT (s.at_ i) (ptC s 13 i)) (row14 hi) to sg me (kR s to sg me i).2.1 (kR s to sg me i).2.2 i (s.at_ i).num (s.at_ i).par (s.at_ i).grp (s.at_ i).usr (s.at_ i).en (s.at_ i).st ea hn.1 hn.2.1 hn.2.2.1
  have e1 : subL (subL (arT s 13) (i * 7) 7) 0 6 = rowU (s.at_ i) := by rw [arT_row hi]; rfl
  have e2 : (vHp G ((HMd (.var 1 (encT 1 (kR s to sg me i).1)) (.var 2 (setsL encP (kR s to sg me i).1)) (.var 3 to) (.var 4 sg) (.var 5 me) (.var 6 (kR s to sg me i).2.1) (.var 7 (kR s to sg me i).2.2) (.var 24 (rcM 0))) ++ ([some ⟨1, .sub (.var 25 (arT s 13)) (.mul (.var 35 i) 7) (.lit 7)⟩] : DHp))) = hpM (kR s to sg me i).1 to sg me (kR s to sg me i).2.1 (kR s to sg me i).2.2 (rcM 0) ++ [some (⟨1, rowT (s.at_ i) (ptC s 13 i)⟩ : Blk)] := by
    rw [vHp_app, hM, ← arT_row hi]; rfl
  rw [e1, e2]
  refine key.mono ?_
  rintro v H' ⟨rfl, rfl⟩
  have e3 : (kR s to sg me (i + 1)) = (kNx (kR s to sg me i).1 i to sg me, (kR s to sg me i).2.1 || (kMt (s.at_ i) to && kMy (s.at_ i) me), (kR s to sg me i).2.2 || kMt (s.at_ i) to) := by
    show (if 0 < (s.at_ i).num then _ else _) = _
    rw [if_pos hp]
  have t3 : encT 1 (kNx (kR s to sg me i).1 i to sg me) = encT 1 (kR s to sg me i).1 := by rw [(kNx_keep ki (by omega) to sg me).tab, ki.tab]
  rw [e3]
  refine ⟨rfl, ?_⟩
  rw [← hM G, ← hM G, t3]
  rfl
theorem hpN_len {s : Ptb} {to sg me : Int} {i : Nat} : (hpN s to sg me i).length = 23 := hpM_len
theorem ar_b14 (s : Ptb) {m : Nat} (h : 15 ≤ m) : bnds m (arT s 13) = true := by
  have h2 : bnds m (encV (ptC s 13) s) = true := tb15 s 13 h
  rw [bnds_eq, List.all_eq_true] at h2 ⊢
  intro v hv
  refine h2 v ?_
  unfold arT subL at hv
  exact List.mem_of_mem_drop (List.mem_of_mem_take hv)
theorem m_next {s : Ptb} {to sg me : Int} {i : Nat} {H' E : Hp} (h : H' = hpN s to sg me (i + 1) ++ E) : View 23 [.yld 22, .agg (arT s 13), .int .i64 ((i + 1 : Nat) : Int)] (hpN s to sg me (i + 1)) [.yld 22, .agg (arT s 13), .int .i64 ((i + 1 : Nat) : Int)] H' := by
  subst h
  refine View.same (by rw [hpN_len]; omega) ?_ ?_
  · rw [hpN_len]; exact hpM_b (by omega)
  · rw [hpN_len]
    refine ⟨⟨rfl, rfl⟩, ⟨?_, rfl⟩, ⟨rfl, rfl⟩, trivial⟩
    have := ar_b14 s (m := 23) (by omega)
    simpa [bnd] using this
theorem hN (G : Nat → List AV) (B : Nat) {s : Ptb} (hw : Wf s) (to sg me : Int) (i : Nat) : vHp G (HMd (.var 1 (encT 1 s)) (.var 2 (setsL encP (kR s to sg me i).1)) (.var 3 to) (.var 4 sg) (.var 5 me) (.var 6 (kR s to sg me i).2.1) (.var 7 (kR s to sg me i).2.2) (.var 24 (rcM 0))) = hpN s to sg me i := by
  rw [← (kR_inv hw to sg me i).tab, hM]; rfl
theorem no_y {C : Ctx} {j i0 : Nat} {o' : Outs} : DYsumOk C (yAt j i0 (fun _ => false) o') := by
  intro i args H o ho
  unfold yAt at ho
  split at ho
  · simp only [Option.some.injEq] at ho; subst ho
    intro h; exact absurd h (by simp [vB])
  · simp at ho
theorem m_loop (G : Nat → List AV) (B : Nat) {s : Ptb} (hw : Wf s) (to sg me : Int) :
    AWp (⟨Try.prog, G, B⟩ : Ctx) 23 (.loop (loopN Try.f76 0)) (fl 27 [0, 11, 12] [.yld 22, .agg (arT s 13), .int .i64 0]) (hpN s to sg me 0) (lv 27 [0, 11, 12] fun e vs H => e = .exit 0 ∧ wk [.undef, .undef, .undef] vs ∧ H = hpN s to sg me 13) := by
  refine scan 13 (fun i => [.yld 22, .agg (arT s 13), .int .i64 (i : Int)]) (hpN s to sg me) fun i hi => ?_
  have eH : hpN s to sg me i = vHp G (HMd (.var 1 (encT 1 (kR s to sg me i).1)) (.var 2 (setsL encP (kR s to sg me i).1)) (.var 3 to) (.var 4 sg) (.var 5 me) (.var 6 (kR s to sg me i).2.1) (.var 7 (kR s to sg me i).2.2) (.var 24 (rcM 0))) := by unfold hpN; rw [hM]
  rw [eH]
  have al := arT_len s 13
  by_cases him : i < 13
  · have er := arT_row (s := s) (cc := 13) him
    have ki := kR_inv hw to sg me i
    by_cases hpos : 0 < (s.at_ i).num
    · refine dloop_ok (C := (⟨Try.prog, G, B⟩ : Ctx)) (K := Dr Try.prog [] [] [] [] (yAt 2350 22 (isSt [.agg (subL (subL (arT s 13) (i * 7) 7) 0 6)] (vHp G ((HMd (.var 1 (encT 1 (kR s to sg me i).1)) (.var 2 (setsL encP (kR s to sg me i).1)) (.var 3 to) (.var 4 sg) (.var 5 me) (.var 6 (kR s to sg me i).2.1) (.var 7 (kR s to sg me i).2.2) (.var 24 (rcM 0))) ++ ([some ⟨1, .sub (.var 25 (arT s 13)) (.mul (.var 35 i) 7) (.lit 7)⟩] : DHp)))) (.one (.bool (.lit true)) [.set 1 ⟨1, .row (.var 31 (setsL encP (kR s to sg me (i + 1)).1)) (.lit 0)⟩, .set 2 ⟨1, .row (.var 31 (setsL encP (kR s to sg me (i + 1)).1)) (.lit 1)⟩, .set 3 ⟨1, .row (.var 31 (setsL encP (kR s to sg me (i + 1)).1)) (.lit 2)⟩, .set 4 ⟨1, .row (.var 31 (setsL encP (kR s to sg me (i + 1)).1)) (.lit 3)⟩, .set 5 ⟨1, .row (.var 31 (setsL encP (kR s to sg me (i + 1)).1)) (.lit 4)⟩, .set 6 ⟨1, .row (.var 31 (setsL encP (kR s to sg me (i + 1)).1)) (.lit 5)⟩, .set 7 ⟨1, .row (.var 31 (setsL encP (kR s to sg me (i + 1)).1)) (.lit 6)⟩, .set 8 ⟨1, .row (.var 31 (setsL encP (kR s to sg me (i + 1)).1)) (.lit 7)⟩, .set 9 ⟨1, .row (.var 31 (setsL encP (kR s to sg me (i + 1)).1)) (.lit 8)⟩, .set 10 ⟨1, .row (.var 31 (setsL encP (kR s to sg me (i + 1)).1)) (.lit 9)⟩, .set 11 ⟨1, .row (.var 31 (setsL encP (kR s to sg me (i + 1)).1)) (.lit 10)⟩, .set 12 ⟨1, .row (.var 31 (setsL encP (kR s to sg me (i + 1)).1)) (.lit 11)⟩, .set 13 ⟨1, .row (.var 31 (setsL encP (kR s to sg me (i + 1)).1)) (.lit 12)⟩, .set 18 ⟨1, .of [.bool (.var 32 (kR s to sg me (i + 1)).2.1)]⟩, .set 20 ⟨1, .of [.bool (.var 33 (kR s to sg me (i + 1)).2.2)]⟩])) 23) (dgoodr (mix G B) (by kernel_rfl) .nil .nil .none (mO_ok G B hw to sg me him hpos)) (fuel := 300) (n0 := 60) (m := 23) (c := loopN Try.f76 0)
        (vs := [.yld 22, .agg (.var 25 (arT s 13)), .int .i64 (.ofN (.var 35 i))]) (H := (HMd (.var 1 (encT 1 (kR s to sg me i).1)) (.var 2 (setsL encP (kR s to sg me i).1)) (.var 3 to) (.var 4 sg) (.var 5 me) (.var 6 (kR s to sg me i).2.1) (.var 7 (kR s to sg me i).2.2) (.var 24 (rcM 0)))) (by simp [HMd]) ?_
      rw [m_it]
      refine ⟨fun h => ⟨decide_eq_true (by omega), h, leB_iff.2 (by rw [al]; omega), ?_, ?_, ?_, fun hp => ⟨?_, isSt_refl, ?_⟩, fun hp => ?_⟩, fun h => ?_⟩
      · rw [er]
        unfold ptC; cases s.sg i <;> rfl
      · rw [er]; rfl
      · rw [er]; rfl
      · rw [er]; rfl
      · refine ⟨him, .inr ?_⟩
        rw [i64_in (by omega)]
        refine m_next (E := [some (⟨1, subL (arT s 13) (i * 7) 7⟩ : Blk)]) ?_
        rw [← hN G B hw to sg me (i + 1), ki.tab]; rfl
      · rw [er] at hp
        exact absurd hpos (by have h := of_decide_eq_false hp; exact h)
      · exact absurd (of_decide_eq_false h) (by omega)
    · refine dloop_ok (C := (⟨Try.prog, G, B⟩ : Ctx)) (K := Dr Try.prog [] [] [] [] (yAt 2350 22 (fun _ => false) (.one (.bool (.lit true)) [.set 1 ⟨1, .row (.var 31 (setsL encP (kR s to sg me (i + 1)).1)) (.lit 0)⟩, .set 2 ⟨1, .row (.var 31 (setsL encP (kR s to sg me (i + 1)).1)) (.lit 1)⟩, .set 3 ⟨1, .row (.var 31 (setsL encP (kR s to sg me (i + 1)).1)) (.lit 2)⟩, .set 4 ⟨1, .row (.var 31 (setsL encP (kR s to sg me (i + 1)).1)) (.lit 3)⟩, .set 5 ⟨1, .row (.var 31 (setsL encP (kR s to sg me (i + 1)).1)) (.lit 4)⟩, .set 6 ⟨1, .row (.var 31 (setsL encP (kR s to sg me (i + 1)).1)) (.lit 5)⟩, .set 7 ⟨1, .row (.var 31 (setsL encP (kR s to sg me (i + 1)).1)) (.lit 6)⟩, .set 8 ⟨1, .row (.var 31 (setsL encP (kR s to sg me (i + 1)).1)) (.lit 7)⟩, .set 9 ⟨1, .row (.var 31 (setsL encP (kR s to sg me (i + 1)).1)) (.lit 8)⟩, .set 10 ⟨1, .row (.var 31 (setsL encP (kR s to sg me (i + 1)).1)) (.lit 9)⟩, .set 11 ⟨1, .row (.var 31 (setsL encP (kR s to sg me (i + 1)).1)) (.lit 10)⟩, .set 12 ⟨1, .row (.var 31 (setsL encP (kR s to sg me (i + 1)).1)) (.lit 11)⟩, .set 13 ⟨1, .row (.var 31 (setsL encP (kR s to sg me (i + 1)).1)) (.lit 12)⟩, .set 18 ⟨1, .of [.bool (.var 32 (kR s to sg me (i + 1)).2.1)]⟩, .set 20 ⟨1, .of [.bool (.var 33 (kR s to sg me (i + 1)).2.2)]⟩])) 23) (dgoodr (mix G B) (by kernel_rfl) .nil .nil .none no_y) (fuel := 300) (n0 := 60) (m := 23) (c := loopN Try.f76 0)
        (vs := [.yld 22, .agg (.var 25 (arT s 13)), .int .i64 (.ofN (.var 35 i))]) (H := (HMd (.var 1 (encT 1 (kR s to sg me i).1)) (.var 2 (setsL encP (kR s to sg me i).1)) (.var 3 to) (.var 4 sg) (.var 5 me) (.var 6 (kR s to sg me i).2.1) (.var 7 (kR s to sg me i).2.2) (.var 24 (rcM 0)))) (by simp [HMd]) ?_
      rw [m_it]
      refine ⟨fun h => ⟨decide_eq_true (by omega), h, leB_iff.2 (by rw [al]; omega), ?_, ?_, ?_, fun hp => ?_, fun hp => ?_⟩, fun h => ?_⟩
      · rw [er]
        unfold ptC; cases s.sg i <;> rfl
      · rw [er]; rfl
      · rw [er]; rfl
      · rw [er] at hp
        exact absurd (show 0 < (s.at_ i).num from of_decide_eq_true hp) hpos
      · refine ⟨him, .inr ?_⟩
        rw [i64_in (by omega)]
        refine m_next (E := [some (⟨1, subL (arT s 13) (i * 7) 7⟩ : Blk)]) ?_
        have e3 : (kR s to sg me (i + 1)) = (kR s to sg me i) := by
          show (if 0 < (s.at_ i).num then _ else _) = _
          rw [if_neg hpos]
        unfold hpN
        rw [e3]
        show _ = hpN s to sg me i ++ _
        rw [eH]; rfl
      · exact absurd (of_decide_eq_false h) (by omega)
  · have : i = 13 := by omega
    subst this
    refine dloop_ok (C := (⟨Try.prog, G, B⟩ : Ctx)) (K := Dr Try.prog [] [] [] [] (yAt 2350 22 (fun _ => false) (.one (.bool (.lit true)) [.set 1 ⟨1, .row (.var 31 []) (.lit 0)⟩, .set 2 ⟨1, .row (.var 31 []) (.lit 1)⟩, .set 3 ⟨1, .row (.var 31 []) (.lit 2)⟩, .set 4 ⟨1, .row (.var 31 []) (.lit 3)⟩, .set 5 ⟨1, .row (.var 31 []) (.lit 4)⟩, .set 6 ⟨1, .row (.var 31 []) (.lit 5)⟩, .set 7 ⟨1, .row (.var 31 []) (.lit 6)⟩, .set 8 ⟨1, .row (.var 31 []) (.lit 7)⟩, .set 9 ⟨1, .row (.var 31 []) (.lit 8)⟩, .set 10 ⟨1, .row (.var 31 []) (.lit 9)⟩, .set 11 ⟨1, .row (.var 31 []) (.lit 10)⟩, .set 12 ⟨1, .row (.var 31 []) (.lit 11)⟩, .set 13 ⟨1, .row (.var 31 []) (.lit 12)⟩, .set 18 ⟨1, .of [.bool (.var 32 true)]⟩, .set 20 ⟨1, .of [.bool (.var 33 true)]⟩])) 23) (dgoodr (mix G B) (by kernel_rfl) .nil .nil .none no_y) (fuel := 300) (n0 := 60) (m := 23) (c := loopN Try.f76 0)
      (vs := [.yld 22, .agg (.var 25 (arT s 13)), .int .i64 (.ofN (.var 35 13))]) (H := (HMd (.var 1 (encT 1 (kR s to sg me 13).1)) (.var 2 (setsL encP (kR s to sg me 13).1)) (.var 3 to) (.var 4 sg) (.var 5 me) (.var 6 (kR s to sg me 13).2.1) (.var 7 (kR s to sg me 13).2.2) (.var 24 (rcM 0)))) (by simp [HMd]) ?_
    rw [m_it]
    refine ⟨fun h => absurd (of_decide_eq_true h) (by omega), fun h => ⟨rfl, by simp [wk], ?_⟩⟩
    rw [eH]; rfl
end Go.Am
