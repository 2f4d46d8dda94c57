/-
  Processes: the program's Kill: its yield.
-/
import Derived.Test.YtkabjomhnddnoaaPrU
namespace Go.Am
open Go.Proofs Crc
set_option maxRecDepth 100000
set_option maxHeartbeats 1000000
def F0m : Fr := fl 71 [6, 8, 11, 12, 13, 43] [.ptr (.rw 15) 0, .int .i64 0, .ptr (.rw 18) 0, .ptr (.rw 19) 0, .ptr (.rw 20) 0, .func 76 [.ptr (.rw 21) 0]]
noncomputable def rcM (p : Nat) : List AV := rcA (loopN Try.f21 0) p F0m
theorem N21_eq : loopN Try.f21 0 = .rangeFunc (rgG (loopN Try.f21 0)) (rgP (loopN Try.f21 0)) (rgA (loopN Try.f21 0)) (rgB (loopN Try.f21 0)) := by kernel_rfl
theorem rcM_b (q : Nat) : bnds 22 (rcM q) = true := by kernel_rfl
theorem rc_mM {m q : Nat} (h : 22 ≤ m) : bnds m (rcM q) = true := bnds_mono h _ (rcM_b q)
def exM (to sg me : Int) (st sm : Bool) (rc : List AV) : Hp := [some ⟨1, [.ptr (.rw 0) 0]⟩, some ⟨1, [.int .i64 to]⟩, some ⟨1, [.int .i64 sg]⟩, some ⟨1, [.int .i64 me]⟩, some ⟨1, [.bool st]⟩, some ⟨1, [.func 53 [.ptr (.rw 17) 0, .ptr (.rw 14) 0, .ptr (.rw 18) 0, .ptr (.rw 16) 0]]⟩, some ⟨1, [.bool sm]⟩, some ⟨1, [.ptr (.rw 0) 0]⟩, some ⟨4294967291, rc⟩]
def hpM (s : Ptb) (to sg me : Int) (st sm : Bool) (rc : List AV) : Hp := can tsP s ++ exM to sg me st sm rc
theorem hpM_len {s : Ptb} {to sg me : Int} {st sm : Bool} {rc : List AV} : (hpM s to sg me st sm rc).length = 23 := by simp [hpM, exM, can_len]
theorem hM (G : Nat → List AV) (s : Ptb) (to sg me : Int) (st sm : Bool) (rc : List AV) : vHp G (HMd (.var 1 (encT 1 s)) (.var 2 (setsL encP s)) (.var 3 to) (.var 4 sg) (.var 5 me) (.var 6 st) (.var 7 sm) (.var 24 rc)) = hpM s to sg me st sm rc := by
  unfold hpM
  rw [← hp_can (t := tsP) (s := s)]; rfl
theorem can_b2 (s : Ptb) {m : Nat} (hm : 14 ≤ m) : hpB m (can tsP s) = true := w_loop.can_b s hm
theorem hpM_b {s : Ptb} {to sg me : Int} {st sm : Bool} {q m : Nat} (h : 22 ≤ m) : hpB m (hpM s to sg me st sm (rcM q)) = true := by
  unfold hpM exM
  refine hpB_app (can_b2 s (by omega)) ?_
  have e : ∀ i, i < 22 → Nat.blt i m = true := fun i hi => Nat.ble_eq_true_of_le (by omega)
  have f : ∀ i, i < 22 → decide (i < m) = true := fun i hi => decide_eq_true (by omega)
  simp only [hpB, rc_mM h, bnds, bnd, Bool.and_self, Bool.and_true, f 0 (by omega), f 17 (by omega), f 14 (by omega), f 18 (by omega), f 16 (by omega)]
def kMt (x : Pc) (to : Int) : Bool := to == x.num || (-x.grp == to && !x.en)
def kMy (x : Pc) (me : Int) : Bool := me == 0 || me == x.usr
def kNx (s : Ptb) (c : Nat) (to sg me : Int) : Ptb := if (kMt (s.at_ c) to && (kMy (s.at_ c) me && !(s.at_ c).en)) = true then updS s c (some (sendX (sgD s c) sg)) else s
theorem dgB (G : Nat → List AV) (B : Nat) : DGood (⟨Try.prog, G, B⟩ : Ctx) (Df Try.prog [(48, 1, 13)] [53, 20, 39, 36] [(23, fSendS sideP)] [] 0) (loopsOf (rgB (loopN Try.f21 0))) := by
  rw [show loopsOf (rgB (loopN Try.f21 0)) = [] by kernel_rfl]
  exact dgoodf (mix G B) (by kernel_rfl) (.cons (fSendS_ok (sideP_ok G) (p_send G B)) .nil) .nil
theorem sendXU_enc (p : Sg) (n : Int) : sendXU [.agg (encP p), .int .i64 n] = encP (sendX p n) := by simp only [sendXU, onPI, decP_enc]
theorem y_m (G : Nat → List AV) (B : Nat) {s : Ptb} (hw : Wf s) (xr : List AV) (hx : bnds 14 xr = true) (to sg me : Int) (st sm : Bool) (i : Nat) (x0 x1 x2 x3 : Int) (xb : Bool) (x5 : Int) (he : s.at_ i = (⟨x0, x1, x2, x3, xb, x5⟩ : Pc)) (hi : x0 = (i : Int)) (h1 : 1 ≤ i) (h2 : i ≤ 12) :
    AYld (⟨Try.prog, G, B⟩ : Ctx) 22 [.agg (rowU (⟨x0, x1, x2, x3, xb, x5⟩ : Pc))] (hpM s to sg me st sm (rcM 0) ++ [some ⟨1, xr⟩]) fun v H' => v = .bool true ∧ H' = hpM (kNx s i to sg me) to sg me (st || (kMt (⟨x0, x1, x2, x3, xb, x5⟩ : Pc) to && kMy (⟨x0, x1, x2, x3, xb, x5⟩ : Pc) me)) (sm || kMt (⟨x0, x1, x2, x3, xb, x5⟩ : Pc) to) (rcM 0) ++ [some ⟨1, xr⟩] := by
  have eH : vHp G ((HMd (.var 1 (encT 1 s)) (.var 2 (setsL encP s)) (.var 3 to) (.var 4 sg) (.var 5 me) (.var 6 st) (.var 7 sm) (.var 24 (rcM 0))) ++ ([some ⟨1, .var 23 xr⟩] : DHp)) = hpM s to sg me st sm (rcM 0) ++ [some ⟨1, xr⟩] := by rw [vHp_app, hM]; rfl
  rw [← eH]
  refine AYld.dx (C := (⟨Try.prog, G, B⟩ : Ctx)) (K := (Df Try.prog [(48, 1, 13)] [53, 20, 39, 36] [(23, fSendS sideP)] [] 0)) (f1 := 200) (f2 := 300) (n1 := 60) (n2 := 60) (N := 71) (live := [6, 8, 11, 12, 13, 43, 44, 14]) (i := 22) (e := 4294967291) (ps := rgP (loopN Try.f21 0)) (ac := rgA (loopN Try.f21 0)) (bd := rgB (loopN Try.f21 0)) (F0 := F0m) (args := [.agg (rowU (⟨x0, x1, x2, x3, xb, x5⟩ : Pc))])
    (vs := [.ptr (.rw 15) (.lit 0), .int .i64 (.lit 0), .ptr (.rw 18) (.lit 0), .ptr (.rw 19) (.lit 0), .ptr (.rw 20) (.lit 0), .func 76 [.ptr (.rw 21) (.lit 0)], .agg (.of [.int .i64 (.var 11 x0), .int .i64 (.var 12 x1), .int .i64 (.var 13 x2), .int .i64 (.var 14 x3), .bool (.var 15 xb), .int .i64 (.var 16 x5)]), .undef]) (vs1 := [.ptr (.rw 15) (.lit 0), .int .i64 (.lit 0), .ptr (.rw 18) (.lit 0), .ptr (.rw 19) (.lit 0), .ptr (.rw 20) (.lit 0), .func 76 [.ptr (.rw 21) (.lit 0)], .agg (.of [.int .i64 (.var 11 x0), .int .i64 (.var 12 x1), .int .i64 (.var 13 x2), .int .i64 (.var 14 x3), .bool (.var 15 xb), .int .i64 (.var 16 x5)]), .ptr (.rw 24) (.lit 0)])
    (H := (HMd (.var 1 (encT 1 s)) (.var 2 (setsL encP s)) (.var 3 to) (.var 4 sg) (.var 5 me) (.var 6 st) (.var 7 sm) (.var 24 (rcM 0))) ++ ([some ⟨1, .var 23 xr⟩] : DHp)) (H1 := (HMd (.var 1 (encT 1 s)) (.var 2 (setsL encP s)) (.var 3 to) (.var 4 sg) (.var 5 me) (.var 6 st) (.var 7 sm) (.var 24 (rcM 0))) ++ ([some ⟨1, .var 23 xr⟩] : DHp) ++ ([some ⟨1, (.of [.int .i64 (.var 11 x0), .int .i64 (.var 12 x1), .int .i64 (.var 13 x2), .int .i64 (.var 14 x3), .bool (.var 15 xb), .int .i64 (.var 16 x5)])⟩] : DHp)) (H2 := (HMd (.var 1 (encT 1 s)) (.var 2 (setsL encP s)) (.var 3 to) (.var 4 sg) (.var 5 me) (.var 6 st) (.var 7 sm) (.var 24 (rcM 1))) ++ ([some ⟨1, .var 23 xr⟩] : DHp) ++ ([some ⟨1, (.of [.int .i64 (.var 11 x0), .int .i64 (.var 12 x1), .int .i64 (.var 13 x2), .int .i64 (.var 14 x3), .bool (.var 15 xb), .int .i64 (.var 16 x5)])⟩] : DHp))
    (by rw [show loopsOf (rgA (loopN Try.f21 0)) = [] by kernel_rfl]; exact dgoodf (mix G B) (by kernel_rfl) (.cons (fSendS_ok (sideP_ok G) (p_send G B)) .nil) .nil) (dgB G B) rfl rfl rfl (by kernel_rfl) (by kernel_rfl) rfl ?_ rfl (by simp [HMd]) rfl ?_
  · have := m_as' G (encT 1 s) (setsL encP s) (rcM 0) xr to sg me st sm x0 x1 x2 x3 xb x5 (fun ex ws H' => ex = .normal ∧ ws = vVs G [.ptr (.rw 15) (.lit 0), .int .i64 (.lit 0), .ptr (.rw 18) (.lit 0), .ptr (.rw 19) (.lit 0), .ptr (.rw 20) (.lit 0), .func 76 [.ptr (.rw 21) (.lit 0)], .agg (.of [.int .i64 (.var 11 x0), .int .i64 (.var 12 x1), .int .i64 (.var 13 x2), .int .i64 (.var 14 x3), .bool (.var 15 xb), .int .i64 (.var 16 x5)]), .ptr (.rw 24) (.lit 0)] ∧ H' = vHp G ((HMd (.var 1 (encT 1 s)) (.var 2 (setsL encP s)) (.var 3 to) (.var 4 sg) (.var 5 me) (.var 6 st) (.var 7 sm) (.var 24 (rcM 0))) ++ ([some ⟨1, .var 23 xr⟩] : DHp) ++ ([some ⟨1, (.of [.int .i64 (.var 11 x0), .int .i64 (.var 12 x1), .int .i64 (.var 13 x2), .int .i64 (.var 14 x3), .bool (.var 15 xb), .int .i64 (.var 16 x5)])⟩] : DHp))) (fun _ _ => False)
    exact Eq.mpr this ⟨rfl, rfl, rfl⟩
  · have := m_bd G (encT 1 s) (setsL encP s) (rcM 1) xr to sg me st sm x0 x1 x2 x3 xb x5 (fun ex _ H' => H'[22]? = some (some ⟨4294967291, .rcd 1 (rgP (loopN Try.f21 0)) (rgA (loopN Try.f21 0)) (rgB (loopN Try.f21 0)) :: F0m⟩) ∧ ∃ H'' Gx, H'.set 22 (some ⟨4294967291, .rcd (stEx ex) (rgP (loopN Try.f21 0)) (rgA (loopN Try.f21 0)) (rgB (loopN Try.f21 0)) :: F0m⟩) = H'' ++ Gx ∧ ((HMd (.var 1 (encT 1 s)) (.var 2 (setsL encP s)) (.var 3 to) (.var 4 sg) (.var 5 me) (.var 6 st) (.var 7 sm) (.var 24 (rcM 0))) ++ ([some ⟨1, .var 23 xr⟩] : DHp)).length ≤ H''.length ∧ hpB H''.length H'' = true ∧
      (AV.bool (isNormal ex) = .bool true ∧ H'' = hpM (kNx s i to sg me) to sg me (st || (kMt (⟨x0, x1, x2, x3, xb, x5⟩ : Pc) to && kMy (⟨x0, x1, x2, x3, xb, x5⟩ : Pc) me)) (sm || kMt (⟨x0, x1, x2, x3, xb, x5⟩ : Pc) to) (rcM 0) ++ [some ⟨1, xr⟩])) (fun _ _ => False)
    have fin : ∀ (s' : Ptb) (st' sm' : Bool) (l sl : List AV), l = encT 1 s' → sl = setsL encP s' → kNx s i to sg me = s' → (st || (kMt (⟨x0, x1, x2, x3, xb, x5⟩ : Pc) to && kMy (⟨x0, x1, x2, x3, xb, x5⟩ : Pc) me)) = st' → (sm || kMt (⟨x0, x1, x2, x3, xb, x5⟩ : Pc) to) = sm' →
        ((some (⟨1, l⟩ : Blk) :: ((List.range 13).map (fun n => some ⟨1, rowA sl n⟩) ++ (exM to sg me st' sm' (rcM 1) ++ [some ⟨1, xr⟩, some ⟨1, rowU (⟨x0, x1, x2, x3, xb, x5⟩ : Pc)⟩])))[22]? = some (some ⟨4294967291, .rcd 1 (rgP (loopN Try.f21 0)) (rgA (loopN Try.f21 0)) (rgB (loopN Try.f21 0)) :: F0m⟩) ∧ ∃ H'' Gx, (some (⟨1, l⟩ : Blk) :: ((List.range 13).map (fun n => some ⟨1, rowA sl n⟩) ++ (exM to sg me st' sm' (rcM 1) ++ [some ⟨1, xr⟩, some ⟨1, rowU (⟨x0, x1, x2, x3, xb, x5⟩ : Pc)⟩]))).set 22 (some ⟨4294967291, .rcd (stEx .normal) (rgP (loopN Try.f21 0)) (rgA (loopN Try.f21 0)) (rgB (loopN Try.f21 0)) :: F0m⟩) = H'' ++ Gx ∧ ((HMd (.var 1 (encT 1 s)) (.var 2 (setsL encP s)) (.var 3 to) (.var 4 sg) (.var 5 me) (.var 6 st) (.var 7 sm) (.var 24 (rcM 0))) ++ ([some ⟨1, .var 23 xr⟩] : DHp)).length ≤ H''.length ∧ hpB H''.length H'' = true ∧
          (AV.bool (isNormal .normal) = .bool true ∧ H'' = hpM (kNx s i to sg me) to sg me (st || (kMt (⟨x0, x1, x2, x3, xb, x5⟩ : Pc) to && kMy (⟨x0, x1, x2, x3, xb, x5⟩ : Pc) me)) (sm || kMt (⟨x0, x1, x2, x3, xb, x5⟩ : Pc) to) (rcM 0) ++ [some ⟨1, xr⟩])) := fun s' st' sm' l sl e1 e2 e3 e4 e5 => by
      rw [e3, e4, e5]
      subst e1 e2
      refine ⟨rfl, hpM s' to sg me st' sm' (rcM 0) ++ [some ⟨1, xr⟩], [some ⟨1, rowU (⟨x0, x1, x2, x3, xb, x5⟩ : Pc)⟩], ?_, by simp [HMd, hpM_len], ?_, rfl, rfl⟩
      · unfold hpM
        rw [← hp_can (t := tsP) (s := s')]; rfl
      · have hl : (hpM s' to sg me st' sm' (rcM 0) ++ [some (⟨1, xr⟩ : Blk)]).length = 24 := by simp [hpM_len]
        rw [hl]
        exact hpB_app (hpM_b (by omega)) (by simp only [hpB, bnds_mono (show 14 ≤ 24 by omega) _ hx, Bool.and_self])
    have hn : x0.toNat = i := by omega
    have hat : s.at_ x0.toNat = (⟨x0, x1, x2, x3, xb, x5⟩ : Pc) := by rw [hn]; exact he
    have hi13 : x0.toNat < 13 := by omega
    have hgp := hw.grp (n := i) (by rw [he]; show x0 ≠ 0; omega)
    rw [he] at hgp
    have hgp : 1 ≤ x2 ∧ x2 ≤ 12 := hgp
    have ewr : IntKind.wrap .i64 (0 - x2) = -x2 := by rw [i64_in (by omega)]; omega
    have hisP : isP s x0 = true := isP_iff.2 ⟨by omega, by omega, by rw [hat]⟩
    have tu := T_usr (b := 1) (s := s) (n := x0.toNat) hi13
    rw [hat] at tu
    have tu2 : getI (encT 1 s) (x0.toNat * 7 + 4) = x3 := tu.2
    rw [ewr, tu2] at this
    have nx1 : kMt (⟨x0, x1, x2, x3, xb, x5⟩ : Pc) to = true → kMy (⟨x0, x1, x2, x3, xb, x5⟩ : Pc) me = true → xb = false → kNx s i to sg me = updS s i (some (sendX (sgD s i) sg)) := fun h1 h2 h3 => by
      unfold kNx; rw [he, h1, h2]; exact if_pos (by rw [h3]; rfl)
    have nx2 : (kMt (⟨x0, x1, x2, x3, xb, x5⟩ : Pc) to = false ∨ kMy (⟨x0, x1, x2, x3, xb, x5⟩ : Pc) me = false ∨ xb = true) → kNx s i to sg me = s := fun h => by
      unfold kNx; rw [he]
      refine if_neg fun h' => ?_
      simp only [Bool.and_eq_true, Bool.not_eq_true'] at h'
      rcases h with h | h | h
      · rw [h] at h'; exact absurd h'.1 (by simp)
      · rw [h] at h'; exact absurd h'.2.1 (by simp)
      · rw [h] at h'; exact absurd h'.2.2 (by simp)
    have hxb : live s x0 = !xb := by unfold live; rw [hisP, hat]; rfl
    refine Eq.mpr this ?_
    refine ⟨fun h1 => (by
      have mt : kMt (⟨x0, x1, x2, x3, xb, x5⟩ : Pc) to = true := by unfold kMt; rw [show (to == x0) = true from h1]; rfl
      exact ⟨fun h2 => (by
        have my : kMy (⟨x0, x1, x2, x3, xb, x5⟩ : Pc) me = true := by unfold kMy; rw [h2]; rfl
        exact ⟨rfl, fun _ => live_tree 1 (fun hl => (by
        rw [hxb] at hl
        have hb : xb = false := by simpa using hl
        obtain ⟨p, hp⟩ := hw.live_sg hisP
        obtain ⟨f1, f2, f3, f4, f5⟩ := fam_facts hi13 hp
        have ed : sgD s x0.toNat = p := by unfold sgD; rw [hp]; rfl
        refine ⟨decide_eq_true (by omega), decide_eq_true (by omega), (fun h => by rw [f1] at h; cases h), fun _ => ?_⟩
        rw [f3, f4, f5]
        refine ⟨f2, rfl, leB_iff.2 (by omega), rowsA_same _ 13, leB_iff.2 (by rw [setsL_len]; omega), okU_enc p, ?_⟩
        refine fin (updS s x0.toNat (some (sendX (sgD s x0.toNat) sg))) true true (encT 1 s) (putA (setsL encP s) x0.toNat (sendXU [.agg (encP p), .int .i64 sg])) ?_ ?_ (by rw [hn]; exact nx1 mt my hb) (by rw [mt, my]; simp) (by rw [mt]; simp)
        · show encV (ptrs 1 s) s = encV (ptrs 1 (updS s x0.toNat (some (sendX (sgD s x0.toNat) sg)))) s
          rw [ptrs_updS hp]
        · rw [sendXU_enc, ed]; exact setsL_put (t := tsP) hi13)) (fun hl => (by
        rw [hxb] at hl
        have hb : xb = true := by simpa using hl
        exact fin s true true (encT 1 s) (setsL encP s) rfl rfl (nx2 (.inr (.inr hb))) (by rw [mt, my]; simp) (by rw [mt]; simp))), fun h => by cases h⟩), fun h2 => ⟨decide_eq_true (by omega), decide_eq_true (by omega), tu.1, fun h3 => (by
        have my : kMy (⟨x0, x1, x2, x3, xb, x5⟩ : Pc) me = true := by unfold kMy; rw [show (me == x3) = true from h3, Bool.or_true]
        exact ⟨rfl, fun _ => live_tree 1 (fun hl => (by
        rw [hxb] at hl
        have hb : xb = false := by simpa using hl
        obtain ⟨p, hp⟩ := hw.live_sg hisP
        obtain ⟨f1, f2, f3, f4, f5⟩ := fam_facts hi13 hp
        have ed : sgD s x0.toNat = p := by unfold sgD; rw [hp]; rfl
        refine ⟨decide_eq_true (by omega), decide_eq_true (by omega), (fun h => by rw [f1] at h; cases h), fun _ => ?_⟩
        rw [f3, f4, f5]
        refine ⟨f2, rfl, leB_iff.2 (by omega), rowsA_same _ 13, leB_iff.2 (by rw [setsL_len]; omega), okU_enc p, ?_⟩
        refine fin (updS s x0.toNat (some (sendX (sgD s x0.toNat) sg))) true true (encT 1 s) (putA (setsL encP s) x0.toNat (sendXU [.agg (encP p), .int .i64 sg])) ?_ ?_ (by rw [hn]; exact nx1 mt my hb) (by rw [mt, my]; simp) (by rw [mt]; simp)
        · show encV (ptrs 1 s) s = encV (ptrs 1 (updS s x0.toNat (some (sendX (sgD s x0.toNat) sg)))) s
          rw [ptrs_updS hp]
        · rw [sendXU_enc, ed]; exact setsL_put (t := tsP) hi13)) (fun hl => (by
        rw [hxb] at hl
        have hb : xb = true := by simpa using hl
        exact fin s true true (encT 1 s) (setsL encP s) rfl rfl (nx2 (.inr (.inr hb))) (by rw [mt, my]; simp) (by rw [mt]; simp))), fun h => by cases h⟩), fun h3 => (by
        have my : kMy (⟨x0, x1, x2, x3, xb, x5⟩ : Pc) me = false := by unfold kMy; rw [h2, show (me == x3) = false from h3]; rfl
        exact fin s st true (encT 1 s) (setsL encP s) rfl rfl (nx2 (.inr (.inl my))) (by rw [my]; simp) (by rw [mt]; simp))⟩⟩), fun h1 => ⟨fun h2 => ⟨fun h3 => (by
        have mt : kMt (⟨x0, x1, x2, x3, xb, x5⟩ : Pc) to = false := by unfold kMt; rw [show (to == x0) = false from h1, h3]; simp
        exact fin s st sm (encT 1 s) (setsL encP s) rfl rfl (nx2 (.inl mt)) (by rw [mt]; simp) (by rw [mt]; simp)), fun h3 => (by
        have mt : kMt (⟨x0, x1, x2, x3, xb, x5⟩ : Pc) to = true := by unfold kMt; rw [show (-x2 == to) = true from h2, h3]; simp
        exact ⟨fun h2 => (by
        have my : kMy (⟨x0, x1, x2, x3, xb, x5⟩ : Pc) me = true := by unfold kMy; rw [h2]; rfl
        exact ⟨rfl, fun _ => live_tree 1 (fun hl => (by
        rw [hxb] at hl
        have hb : xb = false := by simpa using hl
        obtain ⟨p, hp⟩ := hw.live_sg hisP
        obtain ⟨f1, f2, f3, f4, f5⟩ := fam_facts hi13 hp
        have ed : sgD s x0.toNat = p := by unfold sgD; rw [hp]; rfl
        refine ⟨decide_eq_true (by omega), decide_eq_true (by omega), (fun h => by rw [f1] at h; cases h), fun _ => ?_⟩
        rw [f3, f4, f5]
        refine ⟨f2, rfl, leB_iff.2 (by omega), rowsA_same _ 13, leB_iff.2 (by rw [setsL_len]; omega), okU_enc p, ?_⟩
        refine fin (updS s x0.toNat (some (sendX (sgD s x0.toNat) sg))) true true (encT 1 s) (putA (setsL encP s) x0.toNat (sendXU [.agg (encP p), .int .i64 sg])) ?_ ?_ (by rw [hn]; exact nx1 mt my hb) (by rw [mt, my]; simp) (by rw [mt]; simp)
        · show encV (ptrs 1 s) s = encV (ptrs 1 (updS s x0.toNat (some (sendX (sgD s x0.toNat) sg)))) s
          rw [ptrs_updS hp]
        · rw [sendXU_enc, ed]; exact setsL_put (t := tsP) hi13)) (fun hl => (by
        rw [hxb] at hl
        have hb : xb = true := by simpa using hl
        exact fin s true true (encT 1 s) (setsL encP s) rfl rfl (nx2 (.inr (.inr hb))) (by rw [mt, my]; simp) (by rw [mt]; simp))), fun h => by cases h⟩), fun h2 => ⟨decide_eq_true (by omega), decide_eq_true (by omega), tu.1, fun h3 => (by
        have my : kMy (⟨x0, x1, x2, x3, xb, x5⟩ : Pc) me = true := by unfold kMy; rw [show (me == x3) = true from h3, Bool.or_true]
        exact ⟨rfl, fun _ => live_tree 1 (fun hl => (by
        rw [hxb] at hl
        have hb : xb = false := by simpa using hl
        obtain ⟨p, hp⟩ := hw.live_sg hisP
        obtain ⟨f1, f2, f3, f4, f5⟩ := fam_facts hi13 hp
        have ed : sgD s x0.toNat = p := by unfold sgD; rw [hp]; rfl
        refine ⟨decide_eq_true (by omega), decide_eq_true (by omega), (fun h => by rw [f1] at h; cases h), fun _ => ?_⟩
        rw [f3, f4, f5]
        refine ⟨f2, rfl, leB_iff.2 (by omega), rowsA_same _ 13, leB_iff.2 (by rw [setsL_len]; omega), okU_enc p, ?_⟩
        refine fin (updS s x0.toNat (some (sendX (sgD s x0.toNat) sg))) true true (encT 1 s) (putA (setsL encP s) x0.toNat (sendXU [.agg (encP p), .int .i64 sg])) ?_ ?_ (by rw [hn]; exact nx1 mt my hb) (by rw [mt, my]; simp) (by rw [mt]; simp)
        · show encV (ptrs 1 s) s = encV (ptrs 1 (updS s x0.toNat (some (sendX (sgD s x0.toNat) sg)))) s
          rw [ptrs_updS hp]
        · rw [sendXU_enc, ed]; exact setsL_put (t := tsP) hi13)) (fun hl => (by
        rw [hxb] at hl
        have hb : xb = true := by simpa using hl
        exact fin s true true (encT 1 s) (setsL encP s) rfl rfl (nx2 (.inr (.inr hb))) (by rw [mt, my]; simp) (by rw [mt]; simp))), fun h => by cases h⟩), fun h3 => (by
        have my : kMy (⟨x0, x1, x2, x3, xb, x5⟩ : Pc) me = false := by unfold kMy; rw [h2, show (me == x3) = false from h3]; rfl
        exact fin s st true (encT 1 s) (setsL encP s) rfl rfl (nx2 (.inr (.inl my))) (by rw [my]; simp) (by rw [mt]; simp))⟩⟩)⟩, fun h2 => (by
        have mt : kMt (⟨x0, x1, x2, x3, xb, x5⟩ : Pc) to = false := by unfold kMt; rw [show (to == x0) = false from h1, show (-x2 == to) = false from h2]; rfl
        exact fin s st sm (encT 1 s) (setsL encP s) rfl rfl (nx2 (.inl mt)) (by rw [mt]; simp) (by rw [mt]; simp))⟩⟩
end Go.Am
