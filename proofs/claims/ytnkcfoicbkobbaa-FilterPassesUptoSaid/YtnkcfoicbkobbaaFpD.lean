/-
  Filters: FilterPasses: the law's loop over what passes: its yield.
-/
import Derived.Test.YtnkcfoicbkobbaaFpC
namespace Go.Am
open Go.Proofs
set_option maxRecDepth 100000
theorem dgFill (G : Nat → List AV) (B : Nat) : DGood (⟨Try.prog, G, B⟩ : Ctx) (Dc Try.prog [] [] [fillL] 13) (loopsOf (rgB (loopN Try.f7 2))) :=
  dgood (mixF G B) (by kernel_rfl) .nil (.cast (.cons (i := 6) (by kernel_rfl) rfl (fillL_ok G B) .nil) (by kernel_rfl))
theorem HQ_b (G : Nat → List AV) (k2 m gw wn k n g : Nat) (lw tu : Int) (c : EI) (q : Nat) (rd : List AV) (l : EL) (hd : bnds 13 rd = true) (hl : bnds 13 (vL G l) = true) : hpB 13 (vHp G (HYd (.var 3 k2) (.var 4 m) (.var 10 gw) (.var 12 wn) (.var 1 k) (.var 2 n) (.var 9 g) (.var 11 lw) (.var 13 tu) c (.var 24 (rcY q)) (.var 25 rd) l)) = true := by
  simp only [HYd, vHp, List.map_cons, List.map_nil, Option.map_some, vBlk, vL, vVs, vV, vR, vN, vI, vB, hpB, rcY_ok, hd, hl, bnds, bnd, Bool.and_self, Bool.and_true]
  rfl
theorem rep_b (n : Nat) (x : Nat) : bnds x (repL n [.int .u8 99]) = true := by
  rw [bnds_eq, List.all_eq_true]
  intro v hv
  obtain ⟨l, h1, h2⟩ := List.mem_flatten.1 hv
  have := (List.mem_replicate.1 h1).2
  subst this
  simp at h2; subst h2; rfl
theorem y_law (G : Nat → List AV) (B : Nat) (k2 m gw wn k n g i c pn : Nat) (lw tu : Int) (rd l : List AV) (hd : bnds 13 rd = true) (hc : c < wn) (hw : wn ≤ 40) (h1 : isI .i64 (G gw) c = true) (h2 : getI (G gw) c = (i : Int)) (hi : i < m) (hp : pksB G (G k2) m = true) (hpn : pn = roN (G k2) i) (hl : l = subL (G (roK (G k2) i)) 0 pn) :
    AYld (⟨Try.prog, G, B⟩ : Ctx) 8 [.int .i64 (i : Int), .slice true (.rw 12) 0 pn] (vHp G (HYd (.var 3 k2) (.var 4 m) (.var 10 gw) (.var 12 wn) (.var 1 k) (.var 2 n) (.var 9 g) (.var 11 lw) (.var 13 tu) (.var 14 (c : Int)) (.var 24 (rcY 0)) (.var 25 rd) (.var 8 l))) fun v H' =>
      v = .bool (!brkB tu lw c) ∧ H' = vHp G (HYd (.var 3 k2) (.var 4 m) (.var 10 gw) (.var 12 wn) (.var 1 k) (.var 2 n) (.var 9 g) (.var 11 lw) (.var 13 tu) (.var 14 ((c : Int) + 1)) (.var 24 (rcY (if brkB tu lw c then 7 else 0))) (.var 25 rd) (.rep (.var 16 pn) (.of [.int .u8 (.lit 99)]))) := by
  subst hpn
  obtain ⟨q1, q2, q3, q4, q5⟩ := pksB_at hp hi
  have hlen : l.length = roN (G k2) i := by
    rw [hl]
    rcases clC_iff.1 q4 with e | ⟨e, _⟩
    · rw [e]; simp [subL]
    · rw [Nat.mul_one] at e; rw [← e, subL_whole rfl]
  have hl8 : u8s (subL l 0 (roN (G k2) i)) = true := by rw [hl, subL_sub]; exact okI_u8s q5
  have hro : roO (G k2) i = 0 := Nat.eq_of_beq_eq_true q2
  have hge : roN (G k2) i ≤ (G (roK (G k2) i)).length := by
    rcases clC_iff.1 q4 with e | ⟨e, _⟩
    · omega
    · omega
  refine AYld.dx (C := (⟨Try.prog, G, B⟩ : Ctx)) (K := Dc Try.prog [] [] [fillL] 13) (f1 := 300) (f2 := 400) (n1 := 20) (n2 := 20) (N := 115) (live := [4, 5, 6, 7, 9, 10, 11, 57, 58, 59, 12, 13]) (i := 8) (e := 4294967291) (ps := rgP (loopN Try.f7 2)) (ac := rgA (loopN Try.f7 2)) (bd := rgB (loopN Try.f7 2)) (F0 := F0y)
    (vs := [.ptr (.rw 0) (.lit 0), .ptr (.rw 1) (.lit 0), .ptr (.rw 2) (.lit 0), .ptr (.rw 3) (.lit 0), .func 37 [.ptr (.rw 5) (.lit 0), .ptr (.rw 4) (.lit 0)], .ptr (.rw 6) (.lit 0), .ptr (.rw 7) (.lit 0), .func 37 [.ptr (.rw 5) (.lit 0), .ptr (.rw 4) (.lit 0)], .int .i64 (.var 15 (i : Int)), .slice true (.rw 12) (.lit 0) (.var 16 (roN (G k2) i)), .undef, .undef]) (vs1 := [.ptr (.rw 0) (.lit 0), .ptr (.rw 1) (.lit 0), .ptr (.rw 2) (.lit 0), .ptr (.rw 3) (.lit 0), .func 37 [.ptr (.rw 5) (.lit 0), .ptr (.rw 4) (.lit 0)], .ptr (.rw 6) (.lit 0), .ptr (.rw 7) (.lit 0), .func 37 [.ptr (.rw 5) (.lit 0), .ptr (.rw 4) (.lit 0)], .int .i64 (.var 15 (i : Int)), .slice true (.rw 12) (.lit 0) (.var 16 (roN (G k2) i)), .int .i64 (.var 15 (i : Int)), .slice true (.rw 12) (.lit 0) (.var 16 (roN (G k2) i))])
    (H := HYd (.var 3 k2) (.var 4 m) (.var 10 gw) (.var 12 wn) (.var 1 k) (.var 2 n) (.var 9 g) (.var 11 lw) (.var 13 tu) (.var 14 (c : Int)) (.var 24 (rcY 0)) (.var 25 rd) (.var 8 l)) (H1 := HYd (.var 3 k2) (.var 4 m) (.var 10 gw) (.var 12 wn) (.var 1 k) (.var 2 n) (.var 9 g) (.var 11 lw) (.var 13 tu) (.var 14 (c : Int)) (.var 24 (rcY 0)) (.var 25 rd) (.var 8 l)) (H2 := HYd (.var 3 k2) (.var 4 m) (.var 10 gw) (.var 12 wn) (.var 1 k) (.var 2 n) (.var 9 g) (.var 11 lw) (.var 13 tu) (.var 14 (c : Int)) (.var 24 (rcY 1)) (.var 25 rd) (.var 8 l))
    ?_ (dgFill G B) rfl rfl rfl (by kernel_rfl) (by kernel_rfl) rfl ?_ rfl (by simp [HYd]) rfl ?_
  · rw [show loopsOf (rgA (loopN Try.f7 2)) = [] by kernel_rfl]
    exact dgood (inl := []) (ls := [fillL]) (M := 13) (mixF G B) (by kernel_rfl) .nil .nil
  · have := y_as G k2 m gw wn k n g (roN (G k2) i) lw tu (c : Int) (i : Int) (rcY 0) rd l (fun ex ws H' => ex = .normal ∧ ws = vVs G [.ptr (.rw 0) (.lit 0), .ptr (.rw 1) (.lit 0), .ptr (.rw 2) (.lit 0), .ptr (.rw 3) (.lit 0), .func 37 [.ptr (.rw 5) (.lit 0), .ptr (.rw 4) (.lit 0)], .ptr (.rw 6) (.lit 0), .ptr (.rw 7) (.lit 0), .func 37 [.ptr (.rw 5) (.lit 0), .ptr (.rw 4) (.lit 0)], .int .i64 (.var 15 (i : Int)), .slice true (.rw 12) (.lit 0) (.var 16 (roN (G k2) i)), .int .i64 (.var 15 (i : Int)), .slice true (.rw 12) (.lit 0) (.var 16 (roN (G k2) i))] ∧ H' = vHp G (HYd (.var 3 k2) (.var 4 m) (.var 10 gw) (.var 12 wn) (.var 1 k) (.var 2 n) (.var 9 g) (.var 11 lw) (.var 13 tu) (.var 14 (c : Int)) (.var 24 (rcY 0)) (.var 25 rd) (.var 8 l))) (fun _ _ => False)
    exact Eq.mpr this ⟨rfl, rfl, rfl⟩
  · have := y_bd G k2 m gw wn k n g (roN (G k2) i) lw tu (c : Int) (i : Int) (rcY 1) rd l (fun ex _ H' => H'[8]? = some (some ⟨4294967291, .rcd 1 (rgP (loopN Try.f7 2)) (rgA (loopN Try.f7 2)) (rgB (loopN Try.f7 2)) :: F0y⟩) ∧ ∃ H'' Gx, H'.set 8 (some ⟨4294967291, .rcd (stEx ex) (rgP (loopN Try.f7 2)) (rgA (loopN Try.f7 2)) (rgB (loopN Try.f7 2)) :: F0y⟩) = H'' ++ Gx ∧ 13 ≤ H''.length ∧ hpB H''.length H'' = true ∧
      (AV.bool (isNormal ex) = .bool (!brkB tu lw c) ∧ H'' = vHp G (HYd (.var 3 k2) (.var 4 m) (.var 10 gw) (.var 12 wn) (.var 1 k) (.var 2 n) (.var 9 g) (.var 11 lw) (.var 13 tu) (.var 14 ((c : Int) + 1)) (.var 24 (rcY (if brkB tu lw c then 7 else 0))) (.var 25 rd) (.rep (.var 16 (roN (G k2) i)) (.of [.int .u8 (.lit 99)]))))) (fun _ _ => False)
    have hs : (strL (subL l 0 (roN (G k2) i)) == strL (subL (G (roK (G k2) i)) (roO (G k2) i) (roN (G k2) i))) = true := by
      rw [hl, subL_sub, hro]; exact beq_self_eq_true _
    have fin : ∀ q, hpB 13 (vHp G (HYd (.var 3 k2) (.var 4 m) (.var 10 gw) (.var 12 wn) (.var 1 k) (.var 2 n) (.var 9 g) (.var 11 lw) (.var 13 tu) (.var 14 ((c : Int) + 1)) (.var 24 (rcY q)) (.var 25 rd) (.rep (.var 16 (roN (G k2) i)) (.of [.int .u8 (.lit 99)])))) = true := fun q => HQ_b G k2 m gw wn k n g lw tu _ q rd _ hd (by simp only [vL, vN, vVs, vV, vI]; exact rep_b _ _)
    have wr : IntKind.wrap .i64 ((c : Int) + 1) = (c : Int) + 1 := by rw [i64_in (by omega)]
    refine Eq.mpr this ⟨fun h => ?_, fun h => ⟨decide_eq_true (by omega), decide_eq_true (by omega), by rw [Int.toNat_natCast]; exact h1, fun _ => ?_, fun h => ?_⟩⟩
    · have := of_decide_eq_true h; omega
    · rw [Int.toNat_natCast]
      refine ⟨leB_iff.2 (by omega), hl8, decide_eq_true (by omega), decide_eq_true (by omega), q1, leB_iff.2 (by omega), by rw [hro]; exact okI_u8s q5, fun _ => ?_, fun h => ?_⟩
      · refine ⟨by rw [hlen]; exact Nat.beq_refl _, q3, Nat.beq_refl _, Nat.beq_refl _, Nat.beq_refl _, fun ht => ⟨fun hk => ?_, fun hk => ?_⟩, fun ht => ?_⟩
        · have hb : brkB tu lw c = true := by unfold brkB; rw [wr] at hk; rw [ht, hk]; rfl
          rw [hb]
          refine ⟨rfl, vHp G (HYd (.var 3 k2) (.var 4 m) (.var 10 gw) (.var 12 wn) (.var 1 k) (.var 2 n) (.var 9 g) (.var 11 lw) (.var 13 tu) (.var 14 ((c : Int) + 1)) (.var 24 (rcY 7)) (.var 25 rd) (.rep (.var 16 (roN (G k2) i)) (.of [.int .u8 (.lit 99)]))), [], ?_, by simp [HYd, vHp], fin 7, rfl, rfl⟩
          rw [wr]; rfl
        · have hb : brkB tu lw c = false := by unfold brkB; rw [wr] at hk; rw [ht, hk]; rfl
          rw [hb]
          refine ⟨rfl, vHp G (HYd (.var 3 k2) (.var 4 m) (.var 10 gw) (.var 12 wn) (.var 1 k) (.var 2 n) (.var 9 g) (.var 11 lw) (.var 13 tu) (.var 14 ((c : Int) + 1)) (.var 24 (rcY 0)) (.var 25 rd) (.rep (.var 16 (roN (G k2) i)) (.of [.int .u8 (.lit 99)]))), [], ?_, by simp [HYd, vHp], fin 0, rfl, rfl⟩
          rw [wr]; rfl
        · have hb : brkB tu lw c = false := by unfold brkB; rw [ht]; rfl
          rw [hb]
          refine ⟨rfl, vHp G (HYd (.var 3 k2) (.var 4 m) (.var 10 gw) (.var 12 wn) (.var 1 k) (.var 2 n) (.var 9 g) (.var 11 lw) (.var 13 tu) (.var 14 ((c : Int) + 1)) (.var 24 (rcY 0)) (.var 25 rd) (.rep (.var 16 (roN (G k2) i)) (.of [.int .u8 (.lit 99)]))), [], ?_, by simp [HYd, vHp], fin 0, rfl, rfl⟩
          rw [wr]; rfl
      · rw [hs] at h; cases h
    · rw [Int.toNat_natCast, h2, beq_self_eq_true] at h; cases h
end Go.Am
