/-
  ProcsOnce: the loops, the run.
-/
import Derived.Test.YtkabjomhnddnoaaPrOb
import Derived.Test.YtkabjomhnddnoaaPrOd
namespace Go.Am
open Go.Proofs Crc
set_option maxRecDepth 100000
set_option maxHeartbeats 1000000
theorem onceQ_ok (G : Nat → List AV) (B : Nat) : DSumsOk (⟨Try.prog, G, B⟩ : Ctx) (onceQ (okObj tsP)) :=
  .cons (objS_ok tsP_ok (forkK_ok (fun s hw n => p_fork G B hw n) (by simp))) <| .cons (objS_ok tsP_ok (endK_ok (fun s hw n a => p_end G B hw n a) (by simp))) <|
  .cons (objS_ok tsP_ok (groupK_ok (fun s hw n a => p_group G B n a) (by simp))) <| .cons (objS_ok tsP_ok (userK_ok (fun s hw n a => p_user G B n a) (by simp))) <|
  .cons (objS_ok tsP_ok (killK_ok (fun s hw n a b => p_kill G B hw n a b) (by simp))) <| .cons (objS_ok tsP_ok (takeK_ok (fun s hw n => p_takeM G B hw n) (by simp))) <|
  .cons (objS_ok tsP_ok (waitK_ok (fun s hw n a => p_wait G B hw n a) (by simp))) <| .cons (objS_ok tsP_ok (tellK_ok (fun s hw n => p_tell G B n))) <|
  .cons (copyQ_ok tsP_ok (fun s hw => p_copyM G B hw)) <| .cons (sameQ_ok tsP_ok (fun s s' => p_sameM G B s s')) .nil
theorem knownS_ok (G : Nat → List AV) (B : Nat) : DSumOk (⟨Try.prog, G, B⟩ : Ctx) 9 knownS := by
  intro args H o ho
  unfold knownS at ho
  split at ho
  · simp only [Option.some.injEq] at ho
    subst ho
    show DOut (⟨Try.prog, G, B⟩ : Ctx) 9 [] H (.bool (.lit true)) []
    refine DOut.rdN (C := (⟨Try.prog, G, B⟩ : Ctx)) (σ := fun _ => (.ro 0, 0)) (G' := fun _ => []) (args0 := []) (fun k => .inl rfl) rfl (fun ρ vs h => h) (fun B' => Go.Proofs.Ytkabjomhnddnoaa.known_call _ B') ⟨rfl, rfl⟩
  · simp at ho
theorem objL_enc {s : Ptb} (hs : thin s) (b : Nat) : objL b (encX s) = canB tsP (ptrs b s) s s := by
  unfold objL setL canB setsB
  simp only [tabF, setF, decX_enc hs, Int.toNat_natCast]
theorem okO {s : Ptb} (hw : Wf s) (b : Nat) : okObj tsP [.int .i64 (b : Int), .agg (encX s), .tup (.agg (tabF tsP [.int .i64 (b : Int), .agg (encX s)]) :: (List.range 13).map fun n => .agg (setF tsP n [.agg (encX s)]))] = true := by
  refine okObj_iff.2 ⟨s, hw, rfl, ?_⟩
  simp only [tabF, setF, decX_enc hw.thin]
theorem stayV {s : Ptb} (hs : thin s) {x : List AV} (hx : x = encX s) (E : Hp) (k n : Nat) (m : Int) : View 0 [.slice true (.ro k) 0 n, .bool false, .ptr (.rw 0) 0, .int .i64 m] (can tsP s) [.slice true (.ro k) 0 n, .bool false, .ptr (.rw 0) 0, .int .i64 m] (objL 1 x ++ E) := by
  rw [hx, show objL 1 (encX s) = can tsP s from objL_enc hs 1]
  refine View.same (Nat.zero_le _) (by rw [can_len]; exact can_hpB tsP_ok s) ?_
  rw [can_len]
  exact ⟨⟨rfl, rfl⟩, ⟨rfl, rfl⟩, ⟨rfl, rfl⟩, ⟨rfl, rfl⟩, trivial⟩
theorem moveV {s : Ptb} (hs : thin s) {x : List AV} (hx : x = encX s) (b1 b2 : Option Blk) (k n : Nat) (m : Int) : View 0 [.slice true (.ro k) 0 n, .bool false, .ptr (.rw 0) 0, .int .i64 m] (can tsP s) [.slice true (.ro k) 0 n, .bool false, .ptr (.rw 0) 0, .int .i64 m] (some ⟨1, tabF tsP [.int .i64 16, .agg x]⟩ :: (List.replicate 13 none ++ (b1 :: b2 :: (List.range 13).map fun n => some ⟨1, setF tsP n [.agg x]⟩))) := by
  subst hx
  have e0 : tabF tsP [.int .i64 16, .agg (encX s)] = tsP.tb (ptrs 16 s) s := by simp only [tabF, decX_enc hs]; rfl
  have e1 : ((List.range 13).map fun n => some (⟨1, setF tsP n [.agg (encX s)]⟩ : Blk)) = setsB tsP s := by unfold setsB; simp only [setF, decX_enc hs]
  rw [e0, e1]
  refine View.fn (N := 14) (fun i => if i = 0 then 0 else 15 + i) can_len (Nat.zero_le _) (fun i hi => by omega) (fun i j hi hj h => ?_) (fun i hi => ?_) rfl ?_
  · by_cases a : i = 0
    · by_cases b : j = 0
      · omega
      · rw [if_pos a, if_neg b] at h; omega
    · by_cases b : j = 0
      · rw [if_neg a, if_pos b] at h; omega
      · rw [if_neg a, if_neg b] at h; omega
  · cases i with
    | zero =>
      rw [if_pos rfl]
      refine ⟨_, _, rfl, rfl, rfl, tsP_ok.bnd 14 (ptrs 1 s) s fun n hn => bnd_ptrs (by omega) n hn, .inr ?_⟩
      exact (ren_tab tsP_ok (b := 1) (b' := 16) fun n hn => by rw [thF_get (by omega), if_neg (by omega)]; omega).symm
    | succ j =>
      rw [if_neg (by omega), show 15 + (j + 1) = (13 + (j + 1 + 1)) + 1 by omega]
      refine ⟨_, ⟨1, blkO tsP.enc (s.sg j)⟩, canB_get (p := ptrs 1 s) (by omega), ?_, rfl, blkO_bnd tsP_ok _ _, .inr (rens_flat' tsP_ok _ _).symm⟩
      rw [List.getElem?_cons_succ, List.getElem?_append_right (by simp), List.length_replicate, Nat.add_sub_cancel_left, List.getElem?_cons_succ, List.getElem?_cons_succ, setsB_get (by omega)]
  · simp only [rens, ren]
    rw [show ((List.range 14).map fun i => if i = 0 then 0 else 15 + i).getD 0 0 = 0 from rfl]
    simp [wk]
theorem lo_inner (G : Nat → List AV) (B : Nat) {s : Ptb} (hw : Wf s) {s2 : Ptb} (h2 : thin s2) {x y l1 l2 : List AV} (hl1 : bnds 0 l1 = true) (hl2 : bnds 0 l2 = true) (hx : x = encX s) (hy : y = encX s2) (k n i : Nat) (a0 a1 a2 a3 wc : Int) (h1 : 1 ≤ wc ∧ wc ≤ 12) (hf : ∀ j : Nat, (j : Int) < wc → isP s j = true → tellEn s j = true → tellPar s j = a1 → a2 ≠ -1) :
    AWp (⟨Try.prog, G, B⟩ : Ctx) 0 (.loop (loopN Try.f3 1)) (fl 146 [0, 2, 3, 4, 5, 6, 7, 15] [.slice true (.ro k) 0 n, .bool false, .ptr (.rw 0) 0, .int .i64 (i : Int), .ptr (.rw 14) 0, .ptr (.rw 15) 0, .int .i64 wc, .int .i64 1]) (vHp G ((objD 1 (.var 5 y) ++ ([some ⟨1, .of [.int .i64 (.var 10 a0), .int .i64 (.var 11 a1), .int .i64 (.var 12 a2), .int .i64 (.var 13 a3)]⟩] : DHp) ++ objD 16 (.var 1 x)) ++ ([some ⟨1, .var 40 l1⟩, some ⟨1, .var 41 l2⟩] : DHp))) (lv 146 [0, 2, 3, 4, 5, 6, 7, 15] (LOut.post G 0 (.one (.exit 2) [.slice true (.ro (.var 2 k)) (.lit 0) (.var 3 n), .bool (.lit false), .ptr (.rw 0) (.lit 0), .int .i64 (.ofN (.var 4 i)), .undef, .undef, .undef, .undef] (objD 1 (.var 5 y) ++ ([some ⟨1, .of [.int .i64 (.var 10 a0), .int .i64 (.var 11 a1), .int .i64 (.var 12 a2), .int .i64 (.var 13 a3)]⟩] : DHp) ++ objD 16 (.var 1 x))))) := by
  subst hx
  obtain ⟨c, rfl⟩ := Int.eq_ofNat_of_zero_le (show 0 ≤ wc by omega)
  refine scan (c - 1) (fun r => [.slice true (.ro k) 0 n, .bool false, .ptr (.rw 0) 0, .int .i64 (i : Int), .ptr (.rw 14) 0, .ptr (.rw 15) 0, .int .i64 (c : Int), .int .i64 ((1 + r : Nat) : Int)]) (fun _ => vHp G (objD 1 (.var 5 y) ++ ([some ⟨1, .of [.int .i64 (.var 10 a0), .int .i64 (.var 11 a1), .int .i64 (.var 12 a2), .int .i64 (.var 13 a3)]⟩] : DHp) ++ objD 16 (.var 1 (encX s)) ++ ([some ⟨1, .var 40 l1⟩, some ⟨1, .var 41 l2⟩] : DHp))) fun r hr => ?_
  refine dloop_ok (C := (⟨Try.prog, G, B⟩ : Ctx)) (K := Dc Try.prog [] (onceQ (okObj tsP)) [] 0) (by rw [show loopsOf (loopN Try.f3 1) = [] by kernel_rfl]; exact dgood (mix G B) (by kernel_rfl) (onceQ_ok G B) .nil) (fuel := 600) (n0 := 20) (m := 0) (c := loopN Try.f3 1)
    (vs := [.slice true (.ro (.var 2 k)) (.lit 0) (.var 3 n), .bool (.lit false), .ptr (.rw 0) (.lit 0), .int .i64 (.ofN (.var 4 i)), .ptr (.rw 14) (.lit 0), .ptr (.rw 15) (.lit 0), .int .i64 (.var 14 (c : Int)), .int .i64 (.ofN (.var 15 (1 + r)))]) (H := objD 1 (.var 5 y) ++ ([some ⟨1, .of [.int .i64 (.var 10 a0), .int .i64 (.var 11 a1), .int .i64 (.var 12 a2), .int .i64 (.var 13 a3)]⟩] : DHp) ++ objD 16 (.var 1 (encX s)) ++ ([some ⟨1, .var 40 l1⟩, some ⟨1, .var 41 l2⟩] : DHp)) (Nat.zero_le _) ?_
  rw [lo_i]
  have e1 := xB1_enc (k := .i64) hw.thin ((1 + r : Nat) : Int) isP
  have e2 := xB1_enc (k := .i64) hw.thin ((1 + r : Nat) : Int) tellEn
  have e3 := xI1_enc (k := .i64) hw.thin ((1 + r : Nat) : Int) tellPar
  rw [e1, e2, e3]
  have hH : vHp G (objD 1 (.var 5 y) ++ ([some ⟨1, .of [.int .i64 (.var 10 a0), .int .i64 (.var 11 a1), .int .i64 (.var 12 a2), .int .i64 (.var 13 a3)]⟩] : DHp) ++ objD 16 (.var 1 (encX s)) ++ ([some ⟨1, .var 40 l1⟩, some ⟨1, .var 41 l2⟩] : DHp)) = canB tsP (ptrs 1 s2) s2 s2 ++ [some ⟨1, [.int .i64 a0, .int .i64 a1, .int .i64 a2, .int .i64 a3]⟩] ++ canB tsP (ptrs 16 s) s s ++ [some ⟨1, l1⟩, some ⟨1, l2⟩] := by
    rw [← objL_enc h2 1, ← objL_enc hw.thin 16, ← hy]; rfl
  have hv : ∀ (H' E : Hp) (v : Int), 1 + r < c → v = IntKind.wrap .i64 (((1 + r : Nat) : Int) + 1) → H' = vHp G (objD 1 (.var 5 y) ++ ([some ⟨1, .of [.int .i64 (.var 10 a0), .int .i64 (.var 11 a1), .int .i64 (.var 12 a2), .int .i64 (.var 13 a3)]⟩] : DHp) ++ objD 16 (.var 1 (encX s)) ++ ([some ⟨1, .var 40 l1⟩, some ⟨1, .var 41 l2⟩] : DHp)) ++ E → View 0 [.slice true (.ro k) 0 n, .bool false, .ptr (.rw 0) 0, .int .i64 (i : Int), .ptr (.rw 14) 0, .ptr (.rw 15) 0, .int .i64 (c : Int), .int .i64 ((1 + (r + 1) : Nat) : Int)] (vHp G (objD 1 (.var 5 y) ++ ([some ⟨1, .of [.int .i64 (.var 10 a0), .int .i64 (.var 11 a1), .int .i64 (.var 12 a2), .int .i64 (.var 13 a3)]⟩] : DHp) ++ objD 16 (.var 1 (encX s)) ++ ([some ⟨1, .var 40 l1⟩, some ⟨1, .var 41 l2⟩] : DHp))) [.slice true (.ro k) 0 n, .bool false, .ptr (.rw 0) 0, .int .i64 (i : Int), .ptr (.rw 14) 0, .ptr (.rw 15) 0, .int .i64 (c : Int), .int .i64 v] H' := fun H' E v hlt e1 e2 => by
    rw [e2, show v = ((1 + (r + 1) : Nat) : Int) by rw [e1, i64_in (by omega)]; omega]
    have hl : (vHp G (objD 1 (.var 5 y) ++ ([some ⟨1, .of [.int .i64 (.var 10 a0), .int .i64 (.var 11 a1), .int .i64 (.var 12 a2), .int .i64 (.var 13 a3)]⟩] : DHp) ++ objD 16 (.var 1 (encX s)) ++ ([some ⟨1, .var 40 l1⟩, some ⟨1, .var 41 l2⟩] : DHp))).length = 31 := by rw [vHp_length]; rfl
    refine View.same (Nat.zero_le _) ?_ ?_
    · rw [hl, hH]
      exact hpB_app (hpB_app (hpB_app (canB_hpB tsP_ok (by omega)) rfl) (canB_hpB tsP_ok (by omega))) (by simp only [hpB, bm hl1, bm hl2, Bool.and_self])
    · rw [hl]
      exact ⟨⟨rfl, rfl⟩, ⟨rfl, rfl⟩, ⟨rfl, rfl⟩, ⟨rfl, rfl⟩, ⟨rfl, rfl⟩, ⟨rfl, rfl⟩, ⟨rfl, rfl⟩, ⟨rfl, rfl⟩, trivial⟩
  refine ⟨fun h => ?_, fun h => ?_⟩
  · have hlt : 1 + r < c := by have := of_decide_eq_true h; omega
    have go : r < c - 1 := by omega
    refine ⟨okO hw 16, fun q1 => ⟨fun q2 => ⟨fun q3 => ⟨fun q4 => ?_, fun q4 => ⟨go, .inr (hv _ [some ⟨1, [.int .i64 (xI1 tellNum [.agg (encX s), .int .i64 ((1 + r : Nat) : Int)]), .int .i64 (tellPar s ((1 + r : Nat) : Int)), .int .i64 (xI1 tellGrp [.agg (encX s), .int .i64 ((1 + r : Nat) : Int)]), .int .i64 (xI1 tellUsr [.agg (encX s), .int .i64 ((1 + r : Nat) : Int)]), .bool (tellEn s ((1 + r : Nat) : Int)), .int .i64 (xI1 tellSt [.agg (encX s), .int .i64 ((1 + r : Nat) : Int)])]⟩] _ hlt rfl rfl)⟩⟩, fun q3 => ⟨go, .inr (hv _ [some ⟨1, [.int .i64 (xI1 tellNum [.agg (encX s), .int .i64 ((1 + r : Nat) : Int)]), .int .i64 (tellPar s ((1 + r : Nat) : Int)), .int .i64 (xI1 tellGrp [.agg (encX s), .int .i64 ((1 + r : Nat) : Int)]), .int .i64 (xI1 tellUsr [.agg (encX s), .int .i64 ((1 + r : Nat) : Int)]), .bool (tellEn s ((1 + r : Nat) : Int)), .int .i64 (xI1 tellSt [.agg (encX s), .int .i64 ((1 + r : Nat) : Int)])]⟩] _ hlt rfl rfl)⟩⟩, fun q2 => ⟨go, .inr (hv _ [some ⟨1, [.int .i64 (xI1 tellNum [.agg (encX s), .int .i64 ((1 + r : Nat) : Int)]), .int .i64 (tellPar s ((1 + r : Nat) : Int)), .int .i64 (xI1 tellGrp [.agg (encX s), .int .i64 ((1 + r : Nat) : Int)]), .int .i64 (xI1 tellUsr [.agg (encX s), .int .i64 ((1 + r : Nat) : Int)]), .bool (tellEn s ((1 + r : Nat) : Int)), .int .i64 (xI1 tellSt [.agg (encX s), .int .i64 ((1 + r : Nat) : Int)])]⟩] _ hlt rfl rfl)⟩⟩, fun q1 => ⟨go, .inr (hv _ [some ⟨1, [.int .i64 (xI1 tellNum [.agg (encX s), .int .i64 ((1 + r : Nat) : Int)]), .int .i64 (tellPar s ((1 + r : Nat) : Int)), .int .i64 (xI1 tellGrp [.agg (encX s), .int .i64 ((1 + r : Nat) : Int)]), .int .i64 (xI1 tellUsr [.agg (encX s), .int .i64 ((1 + r : Nat) : Int)]), .bool (tellEn s ((1 + r : Nat) : Int)), .int .i64 (xI1 tellSt [.agg (encX s), .int .i64 ((1 + r : Nat) : Int)])]⟩] _ hlt rfl rfl)⟩⟩
    exact absurd (eq_of_beq q4) (hf (1 + r) (by omega) q1 q2 (eq_of_beq q3))
  · refine ⟨rfl, .inr ?_⟩
    have hH0 : vHp G (objD 1 (.var 5 y) ++ ([some ⟨1, .of [.int .i64 (.var 10 a0), .int .i64 (.var 11 a1), .int .i64 (.var 12 a2), .int .i64 (.var 13 a3)]⟩] : DHp) ++ objD 16 (.var 1 (encX s))) = canB tsP (ptrs 1 s2) s2 s2 ++ [some ⟨1, [.int .i64 a0, .int .i64 a1, .int .i64 a2, .int .i64 a3]⟩] ++ canB tsP (ptrs 16 s) s s := by
      rw [← objL_enc h2 1, ← objL_enc hw.thin 16, ← hy]; rfl
    have hl : (vHp G (objD 1 (.var 5 y) ++ ([some ⟨1, .of [.int .i64 (.var 10 a0), .int .i64 (.var 11 a1), .int .i64 (.var 12 a2), .int .i64 (.var 13 a3)]⟩] : DHp) ++ objD 16 (.var 1 (encX s)))).length = 29 := by rw [vHp_length]; rfl
    refine View.same (H := vHp G (objD 1 (.var 5 y) ++ ([some ⟨1, .of [.int .i64 (.var 10 a0), .int .i64 (.var 11 a1), .int .i64 (.var 12 a2), .int .i64 (.var 13 a3)]⟩] : DHp) ++ objD 16 (.var 1 (encX s)))) (G := [some ⟨1, l1⟩, some ⟨1, l2⟩]) (Nat.zero_le _) ?_ ?_
    · rw [hl, hH0]
      exact hpB_app (hpB_app (canB_hpB tsP_ok (by omega)) rfl) (canB_hpB tsP_ok (by omega))
    · exact ⟨⟨rfl, rfl⟩, ⟨rfl, rfl⟩, ⟨rfl, rfl⟩, ⟨rfl, rfl⟩, trivial⟩
theorem leafs4 {i : Nat} {n : Nat} {cs : List AV} (hk : okI .i64 cs 0 (n * 4) = true) (h : i < n) : leafsOk cs (i * 4) [.int .i64, .int .i64, .int .i64, .int .i64] = true := by
  have h0 := okI_get hk (j := i * 4) (by omega)
  have h1 := okI_get hk (j := i * 4 + 1) (by omega)
  have h2 := okI_get hk (j := i * 4 + 2) (by omega)
  have h3 := okI_get hk (j := i * 4 + 3) (by omega)
  rw [Nat.zero_add] at h0 h1 h2 h3
  simp [leafsOk, leafOk, h0, h1, h2, h3]
def LoQ (k n i : Nat) : Ex → List AV → Hp → Prop := fun e vs H => match e with
  | .normal => (i < n ∧ i < 200) ∧ ∃ s', Wf s' ∧ View 0 [.slice true (.ro k) 0 n, .bool false, .ptr (.rw 0) 0, .int .i64 ((i + 1 : Nat) : Int)] (can tsP s') vs H
  | .exit 0 => wk [.undef, .bool false, .undef, .undef] vs
  | _ => False
theorem lo_rd (G : Nat → List AV) (B : Nat) {s : Ptb} (hw : Wf s) (k n i : Nat) (hk : okI .i64 (G k) 0 (n * 4) = true) (hi : i ≤ n ∧ i ≤ 200) (rl : List AV → Bool) (hrl : DLoopOk (⟨Try.prog, G, B⟩ : Ctx) 0 (loopN Try.f3 1) (DLat 0x99D rl 2 146 [0, 2, 3, 4, 5, 6, 7, 15] (.one (.exit 2) [.slice true (.ro (.var 2 k)) (.lit 0) (.var 3 n), .bool (.lit false), .ptr (.rw 0) (.lit 0), .int .i64 (.ofN (.var 4 i)), .undef, .undef, .undef, .undef] (objD 1 (.var 5 (encX (waitX s (getI (G k) (i * 4 + 1)) (getI (G k) (i * 4 + 2))))) ++ ([some ⟨1, .of [.int .i64 (.var 10 (getI (G k) (i * 4))), .int .i64 (.var 11 (getI (G k) (i * 4 + 1))), .int .i64 (.var 12 (getI (G k) (i * 4 + 2))), .int .i64 (.var 13 (getI (G k) (i * 4 + 3)))]⟩] : DHp) ++ objD 16 (.var 1 (encX s))))))
    (hst : waitE s (getI (G k) (i * 4 + 1)) (getI (G k) (i * 4 + 2)) = 0 → waitW s (getI (G k) (i * 4 + 1)) (getI (G k) (i * 4 + 2)) = false → ∀ l1 l2, bnds 0 l1 = true → bnds 0 l2 = true → rl [.agg [.slice true (.ro k) 0 n, .bool false, .ptr (.rw 0) 0, .int .i64 (i : Int), .ptr (.rw 14) 0, .ptr (.rw 15) 0, .int .i64 (waitC s (getI (G k) (i * 4 + 1)) (getI (G k) (i * 4 + 2))), .int .i64 1], .agg (encHB (vHp G (objD 1 (.var 5 (encX (waitX s (getI (G k) (i * 4 + 1)) (getI (G k) (i * 4 + 2))))) ++ ([some ⟨1, .of [.int .i64 (.var 10 (getI (G k) (i * 4))), .int .i64 (.var 11 (getI (G k) (i * 4 + 1))), .int .i64 (.var 12 (getI (G k) (i * 4 + 2))), .int .i64 (.var 13 (getI (G k) (i * 4 + 3)))]⟩] : DHp) ++ objD 16 (.var 1 (encX s))) ++ [some ⟨1, l1⟩, some ⟨1, l2⟩]))] = true) :
    AWp (⟨Try.prog, G, B⟩ : Ctx) 0 (loopN Try.f3 0) (fl 146 [0, 2, 3, 4] [.slice true (.ro k) 0 n, .bool false, .ptr (.rw 0) 0, .int .i64 (i : Int)]) (can tsP s) (lv 146 [0, 2, 3, 4] (LoQ k n i)) := by
  have eH : can tsP s = vHp G (objD 1 (.var 1 (encX s))) := by rw [show can tsP s = objL 1 (encX s) from (objL_enc hw.thin 1).symm]; rfl
  rw [eH]
  refine dloop_ok (C := (⟨Try.prog, G, B⟩ : Ctx)) (K := Dc Try.prog [11, 14] (onceQ (okObj tsP)) [DLat 0x99D rl 2 146 [0, 2, 3, 4, 5, 6, 7, 15] (.one (.exit 2) [.slice true (.ro (.var 2 k)) (.lit 0) (.var 3 n), .bool (.lit false), .ptr (.rw 0) (.lit 0), .int .i64 (.ofN (.var 4 i)), .undef, .undef, .undef, .undef] (objD 1 (.var 5 (encX (waitX s (getI (G k) (i * 4 + 1)) (getI (G k) (i * 4 + 2))))) ++ ([some ⟨1, .of [.int .i64 (.var 10 (getI (G k) (i * 4))), .int .i64 (.var 11 (getI (G k) (i * 4 + 1))), .int .i64 (.var 12 (getI (G k) (i * 4 + 2))), .int .i64 (.var 13 (getI (G k) (i * 4 + 3)))]⟩] : DHp) ++ objD 16 (.var 1 (encX s))))] 0) (by rw [show loopsOf (loopN Try.f3 0) = [loopN Try.f3 1] by kernel_rfl]; exact dgood (mix G B) (by kernel_rfl) (onceQ_ok G B) (.cons (i := 2) (by kernel_rfl) rfl hrl .nil)) (fuel := 900) (n0 := 20) (m := 0) (c := loopN Try.f3 0)
    (vs := [.slice true (.ro (.var 2 k)) (.lit 0) (.var 3 n), .bool (.lit false), .ptr (.rw 0) (.lit 0), .int .i64 (.ofN (.var 4 i))]) (H := objD 1 (.var 1 (encX s))) (Nat.zero_le _) ?_
  rw [lo_b]
  have hw2 : Wf (waitX s (getI (G k) (i * 4 + 1)) (getI (G k) (i * 4 + 2))) := hw.waitX _ _
  rw [xI2_enc (k := .i64) (k' := .i64) hw.thin (getI (G k) (i * 4 + 1)) (getI (G k) (i * 4 + 2)) waitE, xB2_enc (k := .i64) (k' := .i64) hw.thin (getI (G k) (i * 4 + 1)) (getI (G k) (i * 4 + 2)) waitW, xI2_enc (k := .i64) (k' := .i64) hw.thin (getI (G k) (i * 4 + 1)) (getI (G k) (i * 4 + 2)) waitC, xI2_enc (k := .i64) (k' := .i64) hw.thin (getI (G k) (i * 4 + 1)) (getI (G k) (i * 4 + 2)) waitS, xX2_enc (k := .i64) (k' := .i64) hw.thin (getI (G k) (i * 4 + 1)) (getI (G k) (i * 4 + 2)) waitX]
  rw [xB1_enc (k := .i64) hw.thin (waitC s (getI (G k) (i * 4 + 1)) (getI (G k) (i * 4 + 2))) isP, xB1_enc (k := .i64) hw2.thin (waitC s (getI (G k) (i * 4 + 1)) (getI (G k) (i * 4 + 2))) isP, xB1_enc (k := .i64) hw.thin (waitC s (getI (G k) (i * 4 + 1)) (getI (G k) (i * 4 + 2))) tellEn, xI1_enc (k := .i64) hw.thin (waitC s (getI (G k) (i * 4 + 1)) (getI (G k) (i * 4 + 2))) tellSt, xI1_enc (k := .i64) hw.thin (waitC s (getI (G k) (i * 4 + 1)) (getI (G k) (i * 4 + 2))) tellPar]
  have eS : sameXU [.agg (encX s), .agg (encX (waitX s (getI (G k) (i * 4 + 1)) (getI (G k) (i * 4 + 2))))] = sameT s (waitX s (getI (G k) (i * 4 + 1)) (getI (G k) (i * 4 + 2))) := by simp only [sameXU, decX_enc hw.thin, decX_enc hw2.thin]
  rw [eS]
  have no : (waitE s (getI (G k) (i * 4 + 1)) (getI (G k) (i * 4 + 2)) ≠ 0 ∨ waitW s (getI (G k) (i * 4 + 1)) (getI (G k) (i * 4 + 2)) = true) → sameT s (waitX s (getI (G k) (i * 4 + 1)) (getI (G k) (i * 4 + 2))) = true ∧ waitC s (getI (G k) (i * 4 + 1)) (getI (G k) (i * 4 + 2)) = 0 ∧ waitS s (getI (G k) (i * 4 + 1)) (getI (G k) (i * 4 + 2)) = 0 := fun h => by
    obtain ⟨q1, q2, q3⟩ := wait_no h
    exact ⟨by rw [q3]; exact sameT_refl s, q1, q2⟩
  have yes := fun (h1 : waitE s (getI (G k) (i * 4 + 1)) (getI (G k) (i * 4 + 2)) = 0) (h2 : waitW s (getI (G k) (i * 4 + 1)) (getI (G k) (i * 4 + 2)) = false) => wait_ok hw h1 h2
  have ew : i < n → i < 200 → IntKind.wrap .i64 ((i : Int) + 1) = ((i + 1 : Nat) : Int) := fun _ _ => by rw [i64_in (by omega)]; rfl
  have hn200 : decide ((i : Int) < (n : Int)) = true → i < n := fun h => by have := of_decide_eq_true h; omega
  have h200 : decide ((i : Int) < 200) = true → i < 200 := fun h => by have := of_decide_eq_true h; omega
  have st : ∀ (a : i < n) (b : i < 200) (s' : Ptb) (hs : Wf s') (x : List AV) (hx : x = encX s') (E : Hp), LoQ k n i .normal [.slice true (.ro k) 0 n, .bool false, .ptr (.rw 0) 0, .int .i64 (IntKind.wrap .i64 ((i : Int) + 1))] (objL 1 x ++ E) := fun a b s' hs x hx E => by
    rw [ew a b]; exact ⟨⟨a, b⟩, s', hs, stayV hs.thin hx E k n _⟩
  have mv : ∀ (a : i < n) (b : i < 200) (s' : Ptb) (hs : Wf s') (x : List AV) (hx : x = encX s') (b1 b2 : Option Blk), LoQ k n i .normal [.slice true (.ro k) 0 n, .bool false, .ptr (.rw 0) 0, .int .i64 (IntKind.wrap .i64 ((i : Int) + 1))] (some ⟨1, tabF tsP [.int .i64 16, .agg x]⟩ :: (List.replicate 13 none ++ (b1 :: b2 :: (List.range 13).map fun n => some ⟨1, setF tsP n [.agg x]⟩))) := fun a b s' hs x hx b1 b2 => by
    rw [ew a b]; exact ⟨⟨a, b⟩, s', hs, moveV hs.thin hx b1 b2 k n _⟩
  have eq0 : ∀ {a b : Int}, a = b → (a == b) = false → False := fun h h' => by rw [h, beq_self_eq_true] at h'; cases h'
  have ff : ∀ {a : Bool}, a = true → a = false → False := fun h h' => by rw [h] at h'; cases h'
  refine ⟨fun h1 => ⟨fun h2 => ⟨decide_eq_true (by omega), h1, leafs4 hk (hn200 h1), fun h3 => ?_, fun h3 => ?_⟩, fun h2 => by simp [LoQ, wk]⟩, fun h1 => by simp [LoQ, wk]⟩
  · have a := hn200 h1
    have b := h200 h2
    refine ⟨okO hw 1, okO hw 1, fun e0 => ⟨fun w1 => ?_, fun w0 => ?_⟩, fun e0 => ?_⟩
    · obtain ⟨q1, q2, q3⟩ := no (.inr w1)
      refine ⟨fun _ => ⟨fun _ => ⟨okO hw 16, okO hw2 1, fun _ => ?_, fun h => ?_⟩, fun h => ?_⟩, fun h => ?_⟩
      · exact st a b _ hw2 _ rfl _
      · exact (ff q1 h).elim
      · exact (eq0 q3 h).elim
      · exact (eq0 q2 h).elim
    · have y := yes (eq_of_beq e0) w0
      have hr := fun l1 l2 h1 h2 => hst (eq_of_beq e0) w0 l1 l2 h1 h2
      refine ⟨okO hw 16, okO hw2 1, fun _ => ⟨fun h => (by exact (ff h y.gone).elim), fun _ => ⟨fun _ => ⟨fun _ => ⟨fun _ => ⟨fun _ => ⟨hr _ _ rfl rfl, st a b _ hw2 _ rfl _⟩, fun am => ⟨fun _ => ⟨hr _ _ rfl rfl, st a b _ hw2 _ rfl _⟩, fun ac => ?_⟩⟩, fun h => (by exact (eq0 y.par h).elim)⟩, fun h => (by exact (eq0 y.st h).elim)⟩, fun h => (by exact (ff y.en h).elim)⟩⟩, fun h => (by exact (ff y.is h).elim)⟩
      rcases y.which with h | h
      · exact (eq0 h am).elim
      · exact (eq0 h ac).elim
    · obtain ⟨q1, q2, q3⟩ := no (.inl fun h => eq0 h e0)
      refine ⟨fun _ => ⟨fun _ => ⟨okO hw 16, okO hw2 1, fun _ => ?_, fun h => ?_⟩, fun h => ?_⟩, fun h => ?_⟩
      · exact st a b _ hw2 _ rfl _
      · exact (ff q1 h).elim
      · exact (eq0 q3 h).elim
      · exact (eq0 q2 h).elim
  · have a := hn200 h1
    have b := h200 h2
    exact ⟨fun _ => ⟨okO hw 1, mv a b _ (hw.forkR (getI (G k) (i * 4 + 1))) _ (xX1_enc hw.thin (getI (G k) (i * 4 + 1)) forkY) _ _⟩, fun _ => ⟨fun _ => ⟨okO hw 1, mv a b _ (hw.endR (getI (G k) (i * 4 + 1)) (getI (G k) (i * 4 + 2))) _ (xX2_enc hw.thin (getI (G k) (i * 4 + 1)) (getI (G k) (i * 4 + 2)) endX) _ _⟩, fun _ => ⟨fun _ => ⟨okO hw 1, st a b _ (hw.groupX (getI (G k) (i * 4 + 1)) (getI (G k) (i * 4 + 2))) _ (xX2_enc hw.thin (getI (G k) (i * 4 + 1)) (getI (G k) (i * 4 + 2)) groupX) _⟩, fun _ => ⟨fun _ => ⟨okO hw 1, st a b _ (hw.userX (getI (G k) (i * 4 + 1)) (getI (G k) (i * 4 + 2))) _ (xX2_enc hw.thin (getI (G k) (i * 4 + 1)) (getI (G k) (i * 4 + 2)) userX) _⟩, fun _ => ⟨fun _ => ⟨okO hw 1, st a b _ (hw.killX (getI (G k) (i * 4 + 1)) (getI (G k) (i * 4 + 2)) (getI (G k) (i * 4 + 3))) _ (xX3_enc hw.thin (getI (G k) (i * 4 + 1)) (getI (G k) (i * 4 + 2)) (getI (G k) (i * 4 + 3)) killX) _⟩, fun _ => ⟨fun _ => ⟨okO hw 1, mv a b _ (hw.takeX (getI (G k) (i * 4 + 1))) _ (xX1_enc hw.thin (getI (G k) (i * 4 + 1)) takeX) _ _⟩, fun _ => st a b _ hw _ rfl _⟩⟩⟩⟩⟩⟩
end Go.Am
