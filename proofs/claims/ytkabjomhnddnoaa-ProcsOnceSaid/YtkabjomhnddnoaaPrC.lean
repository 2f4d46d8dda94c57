/-
  Processes: the program's Children: its yield, the iterator's loop.
-/
import Derived.Test.YtkabjomhnddnoaaPrB
import Derived.Test.YtkabjomhnddnoaaBase6
namespace Go.Am
open Go.Proofs Crc
set_option maxRecDepth 100000
theorem dgK (G : Nat → List AV) (B : Nat) {c : Code} (hc : loopsOf c = []) : DGood (⟨Try.prog, G, B⟩ : Ctx) (Dc Try.prog [] [] [] 0) (loopsOf c) := by rw [hc]; exact dgood (mix G B) (by kernel_rfl) .nil .nil
theorem vHp_app {G : Nat → List AV} {H K : DHp} : vHp G (H ++ K) = vHp G H ++ vHp G K := by simp [vHp]
noncomputable def hpKn (s : Ptb) (cc : Nat) (sl z : List AV) (n : Int) (c : Nat) (ys xr : List AV) : Hp := B15 s cc sl z ++ [some ⟨1, [.int .i64 n]⟩, some ⟨1, [.slice true (.rw 21) 0 (c + 1)]⟩, some ⟨1, [.ptr (.rw 0) 0]⟩, some ⟨4294967291, rcK 0⟩, none, some ⟨1, xr⟩, some ⟨1, ys⟩]
noncomputable def hpK0 (s : Ptb) (cc : Nat) (sl z : List AV) (n : Int) (c : Nat) (ys : List AV) : Hp := hpK s cc sl z n c (rcK 0) ys
def kidC (n x : Int) : Bool := decide (n ≥ 1) && x == n
theorem bm {n : Nat} {l : List AV} (h : bnds 0 l = true) : bnds n l = true := bnds_mono (Nat.zero_le _) _ h
theorem hpB_app {m : Nat} : ∀ {H K : Hp}, hpB m H = true → hpB m K = true → hpB m (H ++ K) = true
  | [], K, _, h => h
  | none :: H, K, h1, h2 => by simp only [List.cons_append, hpB] at h1 ⊢; exact hpB_app h1 h2
  | some b :: H, K, h1, h2 => by
    simp only [List.cons_append, hpB, Bool.and_eq_true] at h1 ⊢
    exact ⟨h1.1, hpB_app h1.2 h2⟩
theorem rc_mK {m q : Nat} (h : 18 ≤ m) : bnds m (rcK q) = true := bnds_mono h _ (rcK_b q)
theorem fixK {θ : List Nat} : ∀ i, i < 15 → ([0, 1, 2, 3, 4, 5, 6, 7, 8, 9, 10, 11, 12, 13, 14] ++ θ).getD i 0 = i := fun i hi => by
  match i, hi with
  | 0, _ | 1, _ | 2, _ | 3, _ | 4, _ | 5, _ | 6, _ | 7, _ | 8, _ | 9, _ | 10, _ | 11, _ | 12, _ | 13, _ | 14, _ => rfl
theorem rcK_r1 : rens ([0, 1, 2, 3, 4, 5, 6, 7, 8, 9, 10, 11, 12, 13, 14] ++ [15, 16, 17, 18, 19, 20, 23]) (rcK 0) = rcK 0 := by kernel_rfl
theorem rcK_r2 : rens ([0, 1, 2, 3, 4, 5, 6, 7, 8, 9, 10, 11, 12, 13, 14] ++ [15, 16, 17, 18, 21]) (rcK 0) = rcK 0 := by kernel_rfl
theorem y_k (G : Nat → List AV) (B : Nat) {s : Ptb} {cc : Nat} {sl z : List AV} (hfl : Flt sl z) (n : Int) (c : Nat) (ys xr : List AV) (hc : c = ys.length) (hc' : c ≤ 100) (hy : bnds 0 ys = true) (hx : bnds 15 xr = true) (x0 x1 x2 x3 : Int) (xb : Bool) (x5 : Int) :
    AYld (⟨Try.prog, G, B⟩ : Ctx) 18 [.agg (rowU (⟨x0, x1, x2, x3, xb, x5⟩ : Pc))] (hpK0 s cc sl z n c ys ++ [some ⟨1, xr⟩]) fun v H' => v = .bool true ∧ (kidC n x1 = true → H' = hpKn s cc sl z n c (ys ++ [.int .i64 x0]) xr) ∧ (kidC n x1 = false → H' = hpK0 s cc sl z n c ys ++ [some ⟨1, xr⟩]) := by
  unfold hpK0
  rw [← hKx G]
  refine AYld.dxv (C := (⟨Try.prog, G, B⟩ : Ctx)) (K := (Dc Try.prog [] [] [] 0)) (f1 := 200) (f2 := 300) (n1 := 60) (n2 := 60) (N := 24) (live := [3, 5, 8, 9, 6]) (i := 18) (e := 4294967291) (ps := rgP (loopN Try.f31 0)) (ac := rgA (loopN Try.f31 0)) (bd := rgB (loopN Try.f31 0)) (F0 := F0k) (args := [.agg (rowU (⟨x0, x1, x2, x3, xb, x5⟩ : Pc))])
    (vs := [.ptr (.rw 15) (.lit 0), .ptr (.rw 16) (.lit 0), .func 76 [.ptr (.rw 17) (.lit 0)], .agg (.of [.int .i64 (.var 11 x0), .int .i64 (.var 12 x1), .int .i64 (.var 13 x2), .int .i64 (.var 14 x3), .bool (.var 15 xb), .int .i64 (.var 16 x5)]), .undef]) (vs1 := [.ptr (.rw 15) (.lit 0), .ptr (.rw 16) (.lit 0), .func 76 [.ptr (.rw 17) (.lit 0)], .agg (.of [.int .i64 (.var 11 x0), .int .i64 (.var 12 x1), .int .i64 (.var 13 x2), .int .i64 (.var 14 x3), .bool (.var 15 xb), .int .i64 (.var 16 x5)]), .ptr (.rw 21) (.lit 0)])
    (H := (HKd (.var 1 (encV (ptC s cc) s)) (.var 2 sl) (.var 5 z) (.var 3 n) (.var 4 c) (.var 24 (rcK 0)) (.var 22 ys)) ++ ([some ⟨1, .var 23 xr⟩] : DHp)) (H1 := (HKd (.var 1 (encV (ptC s cc) s)) (.var 2 sl) (.var 5 z) (.var 3 n) (.var 4 c) (.var 24 (rcK 0)) (.var 22 ys)) ++ ([some ⟨1, .var 23 xr⟩] : DHp) ++ ([some ⟨1, (.of [.int .i64 (.var 11 x0), .int .i64 (.var 12 x1), .int .i64 (.var 13 x2), .int .i64 (.var 14 x3), .bool (.var 15 xb), .int .i64 (.var 16 x5)])⟩] : DHp)) (H2 := (HKd (.var 1 (encV (ptC s cc) s)) (.var 2 sl) (.var 5 z) (.var 3 n) (.var 4 c) (.var 24 (rcK 1)) (.var 22 ys)) ++ ([some ⟨1, .var 23 xr⟩] : DHp) ++ ([some ⟨1, (.of [.int .i64 (.var 11 x0), .int .i64 (.var 12 x1), .int .i64 (.var 13 x2), .int .i64 (.var 14 x3), .bool (.var 15 xb), .int .i64 (.var 16 x5)])⟩] : DHp))
    (dgK G B (by kernel_rfl)) (dgK G B (by kernel_rfl)) rfl rfl rfl (by kernel_rfl) (by kernel_rfl) rfl ?_ rfl (by simp [HKd]) rfl ?_
  · have := k_as G (encV (ptC s cc) s) sl z (rcK 0) ys xr n c x0 x1 x2 x3 xb x5 (fun ex ws H' => ex = .normal ∧ ws = vVs G [.ptr (.rw 15) (.lit 0), .ptr (.rw 16) (.lit 0), .func 76 [.ptr (.rw 17) (.lit 0)], .agg (.of [.int .i64 (.var 11 x0), .int .i64 (.var 12 x1), .int .i64 (.var 13 x2), .int .i64 (.var 14 x3), .bool (.var 15 xb), .int .i64 (.var 16 x5)]), .ptr (.rw 21) (.lit 0)] ∧ H' = vHp G ((HKd (.var 1 (encV (ptC s cc) s)) (.var 2 sl) (.var 5 z) (.var 3 n) (.var 4 c) (.var 24 (rcK 0)) (.var 22 ys)) ++ ([some ⟨1, .var 23 xr⟩] : DHp) ++ ([some ⟨1, (.of [.int .i64 (.var 11 x0), .int .i64 (.var 12 x1), .int .i64 (.var 13 x2), .int .i64 (.var 14 x3), .bool (.var 15 xb), .int .i64 (.var 16 x5)])⟩] : DHp))) (fun _ _ => False)
    exact Eq.mpr this ⟨rfl, rfl, rfl⟩
  · have := k_bd G (encV (ptC s cc) s) sl z (rcK 1) ys xr n c x0 x1 x2 x3 xb x5 (fun ex _ H' => H'[18]? = some (some ⟨4294967291, .rcd 1 (rgP (loopN Try.f31 0)) (rgA (loopN Try.f31 0)) (rgB (loopN Try.f31 0)) :: F0k⟩) ∧ ∃ H'', View ((HKd (.var 1 (encV (ptC s cc) s)) (.var 2 sl) (.var 5 z) (.var 3 n) (.var 4 c) (.var 24 (rcK 0)) (.var 22 ys)) ++ ([some ⟨1, .var 23 xr⟩] : DHp)).length [.bool (isNormal ex)] H'' [.bool (isNormal ex)] (H'.set 18 (some ⟨4294967291, .rcd (stEx ex) (rgP (loopN Try.f31 0)) (rgA (loopN Try.f31 0)) (rgB (loopN Try.f31 0)) :: F0k⟩)) ∧ (AV.bool (isNormal ex) = .bool true ∧ (kidC n x1 = true → H'' = hpKn s cc sl z n c (ys ++ [.int .i64 x0]) xr) ∧ (kidC n x1 = false → H'' = vHp G ((HKd (.var 1 (encV (ptC s cc) s)) (.var 2 sl) (.var 5 z) (.var 3 n) (.var 4 c) (.var 24 (rcK 0)) (.var 22 ys)) ++ ([some ⟨1, .var 23 xr⟩] : DHp))))) (fun _ _ => False)
    have no : ∀ (K : Hp), kidC n x1 = false → (vHp G ((HKd (.var 1 (encV (ptC s cc) s)) (.var 2 sl) (.var 5 z) (.var 3 n) (.var 4 c) (.var 24 (rcK 1)) (.var 22 ys)) ++ ([some ⟨1, .var 23 xr⟩] : DHp) ++ ([some ⟨1, (.of [.int .i64 (.var 11 x0), .int .i64 (.var 12 x1), .int .i64 (.var 13 x2), .int .i64 (.var 14 x3), .bool (.var 15 xb), .int .i64 (.var 16 x5)])⟩] : DHp))).set 18 (some (⟨4294967291, rcK 0⟩ : Blk)) = hpK s cc sl z n c (rcK 0) ys ++ [some (⟨1, xr⟩ : Blk)] ++ [some (⟨1, rowU (⟨x0, x1, x2, x3, xb, x5⟩ : Pc)⟩ : Blk)] → ∃ H'', View ((HKd (.var 1 (encV (ptC s cc) s)) (.var 2 sl) (.var 5 z) (.var 3 n) (.var 4 c) (.var 24 (rcK 0)) (.var 22 ys)) ++ ([some ⟨1, .var 23 xr⟩] : DHp)).length [.bool true] H'' [.bool true] ((vHp G ((HKd (.var 1 (encV (ptC s cc) s)) (.var 2 sl) (.var 5 z) (.var 3 n) (.var 4 c) (.var 24 (rcK 1)) (.var 22 ys)) ++ ([some ⟨1, .var 23 xr⟩] : DHp) ++ ([some ⟨1, (.of [.int .i64 (.var 11 x0), .int .i64 (.var 12 x1), .int .i64 (.var 13 x2), .int .i64 (.var 14 x3), .bool (.var 15 xb), .int .i64 (.var 16 x5)])⟩] : DHp))).set 18 (some (⟨4294967291, rcK 0⟩ : Blk))) ∧ (AV.bool true = .bool true ∧ (kidC n x1 = true → H'' = hpKn s cc sl z n c (ys ++ [.int .i64 x0]) xr) ∧ (kidC n x1 = false → H'' = vHp G ((HKd (.var 1 (encV (ptC s cc) s)) (.var 2 sl) (.var 5 z) (.var 3 n) (.var 4 c) (.var 24 (rcK 0)) (.var 22 ys)) ++ ([some ⟨1, .var 23 xr⟩] : DHp)))) := fun _ hk e => by
      refine ⟨hpK s cc sl z n c (rcK 0) ys ++ [some (⟨1, xr⟩ : Blk)], ?_, rfl, fun h => (by rw [hk] at h; cases h), fun _ => by rw [hKx G]⟩
      rw [e]
      refine View.same (G := [some (⟨1, rowU (⟨x0, x1, x2, x3, xb, x5⟩ : Pc)⟩ : Blk)]) (by simp [HKd, hpK, B15_len]) ?_ ⟨⟨rfl, rfl⟩, trivial⟩
      have hl : (hpK s cc sl z n c (rcK 0) ys ++ [some (⟨1, xr⟩ : Blk)]).length = 21 := by simp [hpK, B15_len]
      rw [hl]
      unfold hpK
      refine hpB_app (hpB_app (B15_bnd hfl (by omega)) ?_) ?_
      · simp only [hpB, bm hy, rc_mK (show 18 ≤ 21 by omega), bnds, bnd, Bool.and_self, Bool.and_true]; rfl
      · simp only [hpB, bnds_mono (show 15 ≤ 21 by omega) _ hx, Bool.and_self]
    have e1 : (vHp G ((HKd (.var 1 (encV (ptC s cc) s)) (.var 2 sl) (.var 5 z) (.var 3 n) (.var 4 c) (.var 24 (rcK 1)) (.var 22 ys)) ++ ([some ⟨1, .var 23 xr⟩] : DHp) ++ ([some ⟨1, (.of [.int .i64 (.var 11 x0), .int .i64 (.var 12 x1), .int .i64 (.var 13 x2), .int .i64 (.var 14 x3), .bool (.var 15 xb), .int .i64 (.var 16 x5)])⟩] : DHp))).set 18 (some (⟨4294967291, rcK 0⟩ : Blk)) = hpK s cc sl z n c (rcK 0) ys ++ [some (⟨1, xr⟩ : Blk)] ++ [some (⟨1, rowU (⟨x0, x1, x2, x3, xb, x5⟩ : Pc)⟩ : Blk)] := by
      rw [← hKx G, ← show vHp G [some (⟨1, (.of [.int .i64 (.var 11 x0), .int .i64 (.var 12 x1), .int .i64 (.var 13 x2), .int .i64 (.var 14 x3), .bool (.var 15 xb), .int .i64 (.var 16 x5)])⟩ : DBlk)] = [some (⟨1, rowU (⟨x0, x1, x2, x3, xb, x5⟩ : Pc)⟩ : Blk)] from rfl, ← vHp_app]
      rfl
    refine Eq.mpr this ⟨fun h1 => ⟨fun h2 => ⟨leB_iff.2 (by omega), by rw [hc]; exact Nat.beq_refl _, rfl, hpKn s cc sl z n c (ys ++ [.int .i64 x0]) xr, ?_, rfl, fun _ => rfl, fun q => ?_⟩, fun h2 => ⟨rfl, no [] ?_ e1⟩⟩, fun h1 => ⟨rfl, no [] ?_ e1⟩⟩
    · have f2 : bnds 0 (ys ++ [.int .i64 x0]) = true := by rw [bnds_eq] at hy ⊢; simp [hy, bnd]
      have hl : (hpKn s cc sl z n c (ys ++ [.int .i64 x0]) xr).length = 22 := by simp [hpKn, B15_len]
      refine View.renM (θ := [0, 1, 2, 3, 4, 5, 6, 7, 8, 9, 10, 11, 12, 13, 14] ++ [15, 16, 17, 18, 19, 20, 23]) (by rw [hl]; simp [HKd]) (fun i hi => ?_) (by decide) ?_ rfl (by simp [rens, ren, wk])
      · have hi : i < 21 := by simpa [HKd] using hi
        exact (by decide : ∀ i, i < 21 → ([0, 1, 2, 3, 4, 5, 6, 7, 8, 9, 10, 11, 12, 13, 14] ++ [15, 16, 17, 18, 19, 20, 23] : List Nat).getD i 0 = i) i hi
      · rw [hl]
        refine blks_b15 hfl (by omega) fixK rfl ?_
        refine ⟨⟨rfl, rfl⟩, ⟨rfl, rfl⟩, ⟨rfl, rfl⟩, ⟨rc_mK (by omega), by rw [rcK_r1]; rfl⟩, by simp [HKd], ⟨bnds_mono (by omega) _ hx, by rw [rens_fix fixK _ hx]; rfl⟩, ⟨bm f2, by rw [rens_flat _ _ f2]; rfl⟩, trivial⟩
    · unfold kidC at q
      rw [show decide (n ≥ 1) = true from h1, show (x1 == n) = true from h2] at q; cases q
    · unfold kidC; rw [show (x1 == n) = false from h2, Bool.and_false]
    · unfold kidC; rw [show decide (n ≥ 1) = false from h1, Bool.false_and]
end Go.Am
