/-
  Filters: FilterPasses: the yield of Passing's own loop.
-/
import Derived.Test.YtnkcfoicbkobbaaFpE
namespace Go.Am
open Go.Proofs
set_option maxRecDepth 100000
def cntB (f : Nat → Bool) : Nat → Nat
  | 0 => 0
  | n + 1 => if f n then cntB f n + 1 else cntB f n
def wantL (f : Nat → Bool) : Nat → List AV
  | 0 => []
  | n + 1 => if f n then wantL f n ++ [.int .i64 (n : Int)] else wantL f n
theorem wantL_len {f : Nat → Bool} : ∀ n, (wantL f n).length = cntB f n
  | 0 => rfl
  | n + 1 => by
    have := wantL_len (f := f) n
    simp only [wantL, cntB]
    split <;> simp [this]
theorem cntB_le {f : Nat → Bool} {i : Nat} : ∀ {n}, i ≤ n → cntB f i ≤ cntB f n
  | 0, h => by have : i = 0 := by omega
               subst this; exact Nat.le_refl _
  | n + 1, h => by
    by_cases e : i = n + 1
    · subst e; exact Nat.le_refl _
    · have := cntB_le (f := f) (i := i) (n := n) (by omega)
      simp only [cntB]; split <;> omega
theorem cntB_n {f : Nat → Bool} : ∀ n, cntB f n ≤ n
  | 0 => Nat.le_refl _
  | n + 1 => by have := cntB_n (f := f) n; simp only [cntB]; split <;> omega
theorem cntB_lt {f : Nat → Bool} {i n : Nat} (hi : i < n) (hf : f i = true) : cntB f i < cntB f n := by
  have : cntB f (i + 1) ≤ cntB f n := cntB_le hi
  simp only [cntB, hf, if_true] at this
  omega
theorem wantL_at {f : Nat → Bool} {i : Nat} (hf : f i = true) : ∀ {n}, i < n → (wantL f n)[cntB f i]? = some (.int .i64 (i : Int))
  | 0, h => by omega
  | n + 1, h => by
    by_cases e : i = n
    · subst e
      simp only [wantL, hf, if_true]
      rw [← wantL_len, List.getElem?_append_right (Nat.le_refl _), Nat.sub_self]; rfl
    · have ih := wantL_at hf (n := n) (by omega)
      simp only [wantL]
      split
      · rw [List.getElem?_append_left (List.getElem?_eq_some_iff.1 ih).1]; exact ih
      · exact ih
theorem wantL_bnds {f : Nat → Bool} {x : Nat} : ∀ n, bnds x (wantL f n) = true ∧ norws (wantL f n) = true
  | 0 => ⟨rfl, rfl⟩
  | n + 1 => by
    obtain ⟨h1, h2⟩ := wantL_bnds (f := f) (x := x) n
    simp only [wantL]
    split
    · constructor
      · rw [bnds_eq] at h1 ⊢; simp [h1, bnd]
      · rw [norws_eq] at h2 ⊢; simp [h2, norw]
    · exact ⟨h1, h2⟩
/-- does a packet pass? -/
def mtF (G : Nat → List AV) (k n k2 : Nat) (i : Nat) : Bool := matchB (G k) n (G (roK (G k2) i)) (roN (G k2) i)
theorem matchB_0 {cs ps qs : List AV} {n : Nat} : matchB cs n ps 0 = matchB cs n qs 0 := by
  rw [← matchB_take (ps := ps), ← matchB_take (ps := qs)]; rfl
theorem mt_clK {G : Nat → List AV} {k n a pn e : Nat} : matchB (G k) n (G (clK a pn e)) pn = matchB (G k) n (G a) pn := by
  unfold clK
  split
  · rename_i h; subst h; exact matchB_0
  · rfl
theorem wk_at {cs : List AV} {e m i : Nat} (hi : i < m) : roK (wkC cs e m) i = clK (roK cs i) (roN cs i) e ∧ roO (wkC cs e m) i = 0 ∧ roN (wkC cs e m) i = roN cs i ∧ isRS (wkC cs e m) i = true := by
  have : (wkC cs e m)[i]? = some (pkC cs e i) := by
    unfold wkC
    rw [List.getElem?_map, List.getElem?_range hi]; rfl
  unfold roK roO roN isRS
  rw [this]
  exact ⟨rfl, rfl, rfl, rfl⟩
def F0z : Fr := fl 21 [1, 2, 3, 7] [.ptr (.rw 5) 0, .ptr (.rw 4) 0, .ptr (.rw 9) 0, .func 43 [.ptr (.rw 10) 0]]
noncomputable def rcZ (q : Nat) : List AV := rcA (loopN Try.f37 0) q F0z
theorem rcZ_ok (q : Nat) : bnds 13 (rcZ q) = true := by kernel_rfl
theorem rcZ_ok2 (q : Nat) : bnds 12 (rcZ q) = true := by kernel_rfl
theorem rcY_ok2 (q : Nat) : bnds 12 (rcY q) = true := by kernel_rfl
theorem N37_eq : loopN Try.f37 0 = .rangeFunc (rgG (loopN Try.f37 0)) (rgP (loopN Try.f37 0)) (rgA (loopN Try.f37 0)) (rgB (loopN Try.f37 0)) := by kernel_rfl
theorem HZ_b (G : Nat → List AV) (k2 m gw wn k n g : Nat) (lw tu : Int) (c : EI) (q q2 : Nat) : hpB 12 (vHp G (HZd (.var 3 k2) (.var 4 m) (.var 10 gw) (.var 12 wn) (.var 1 k) (.var 2 n) (.var 9 g) (.var 11 lw) (.var 13 tu) c (.var 24 (rcY q)) (.var 25 (rcZ q2)))) = true := by
  simp only [HZd, vHp, List.map_cons, List.map_nil, Option.map_some, vBlk, vL, vVs, vV, vR, vN, vI, vB, hpB, rcY_ok2, rcZ_ok2, bnds, bnd, Bool.and_self, Bool.and_true]
  rfl
theorem dgZ (G : Nat → List AV) (B : Nat) (cs : List Code) (h : cs = []) : DGood (⟨Try.prog, G, B⟩ : Ctx) (Dr Try.prog [] [(11, matchS), (36, clW G)] [] [] (yLaw G (isRc (rcY 0)) (rcY 7)) 12) cs := by
  subst h
  exact dgoodr (mixF G B) (by kernel_rfl) (.cons (matchS_of G B fun G B k n k2 m => pm_call G B k n k2 m) (.cons (clW_ok G B) .nil)) .nil .none (yLaw_ok G B)
theorem y_z (G : Nat → List AV) (B : Nat) (k2 m gw wn k n g e i c : Nat) (lw tu : Int) (hg : G g = wkC (G k2) e m) (hE : G e = []) (hp : pksB G (G k2) m = true) (hk : okI .i64 (G k) 0 (n * 3) = true) (hi : i < m) (hm : m ≤ 40) (hc : c = cntB (mtF G k n k2) i) (hw : wn = cntB (mtF G k n k2) m) (hgw : G gw = wantL (mtF G k n k2) m) :
    AYld (⟨Try.prog, G, B⟩ : Ctx) 11 [.int .i64 (i : Int), .slice true (.ro (roK (G g) i)) 0 (roN (G k2) i)] (vHp G (HZd (.var 3 k2) (.var 4 m) (.var 10 gw) (.var 12 wn) (.var 1 k) (.var 2 n) (.var 9 g) (.var 11 lw) (.var 13 tu) (.var 14 (c : Int)) (.var 24 (rcY 0)) (.var 25 (rcZ 0)))) fun v H' =>
      v = .bool (!(mtF G k n k2 i && brkB tu lw c)) ∧ H' = vHp G (HZd (.var 3 k2) (.var 4 m) (.var 10 gw) (.var 12 wn) (.var 1 k) (.var 2 n) (.var 9 g) (.var 11 lw) (.var 13 tu) (.var 14 (cntB (mtF G k n k2) (i + 1) : Int)) (.var 24 (rcY (if (mtF G k n k2 i && brkB tu lw c) = true then 7 else 0))) (.var 25 (rcZ (if (mtF G k n k2 i && brkB tu lw c) = true then 2 else 0)))) := by
  obtain ⟨q1, q2, q3, q4, q5⟩ := pksB_at hp hi
  obtain ⟨w1, w2, w3, w4⟩ := wk_at (cs := G k2) (e := e) hi
  rw [← hg] at w1 w2 w3 w4
  rw [w1]
  have mt : matchB (G k) n (G (clK (roK (G k2) i) (roN (G k2) i) e)) (roN (G k2) i) = mtF G k n k2 i := mt_clK
  have by8 : okI .u8 (G (clK (roK (G k2) i) (roN (G k2) i) e)) 0 (roN (G k2) i) = true := by
    unfold clK; split
    · rename_i h; rw [h]; rfl
    · exact q5
  have cl : clC 1 (G (clK (roK (G k2) i) (roN (G k2) i) e)) (roN (G k2) i) = true := by
    unfold clK; split
    · rename_i h; rw [h]; rfl
    · exact q4
  have sm : sameVs (subL (G (clK (roK (G k2) i) (roN (G k2) i) e)) 0 (roN (G k2) i)) (subL (G (roK (G k2) i)) 0 (roN (G k2) i)) = true := by
    unfold clK; split
    · rename_i h; rw [h]; rfl
    · refine sameVs_refl _ (noRcds_of fun v hv => ?_)
      have := okI_u8s q5
      unfold u8s at this
      rw [List.all_eq_true] at this
      have := this v hv
      cases v <;> first | rfl | simp [isU8] at this
  refine AYld.dx (C := (⟨Try.prog, G, B⟩ : Ctx)) (K := (Dr Try.prog [] [(11, matchS), (36, clW G)] [] [] (yLaw G (isRc (rcY 0)) (rcY 7)) 12)) (f1 := 300) (f2 := 300) (n1 := 20) (n2 := 20) (N := 21) (live := [1, 2, 3, 7, 8, 9, 4, 5]) (i := 11) (e := 4294967291) (ps := rgP (loopN Try.f37 0)) (ac := rgA (loopN Try.f37 0)) (bd := rgB (loopN Try.f37 0)) (F0 := F0z)
    (vs := [.ptr (.rw 5) (.lit 0), .ptr (.rw 4) (.lit 0), .ptr (.rw 9) (.lit 0), .func 43 [.ptr (.rw 10) (.lit 0)], .int .i64 (.var 15 (i : Int)), .slice true (.ro (.var 17 (clK (roK (G k2) i) (roN (G k2) i) e))) (.lit 0) (.var 16 (roN (G k2) i)), .undef, .undef]) (vs1 := [.ptr (.rw 5) (.lit 0), .ptr (.rw 4) (.lit 0), .ptr (.rw 9) (.lit 0), .func 43 [.ptr (.rw 10) (.lit 0)], .int .i64 (.var 15 (i : Int)), .slice true (.ro (.var 17 (clK (roK (G k2) i) (roN (G k2) i) e))) (.lit 0) (.var 16 (roN (G k2) i)), .int .i64 (.var 15 (i : Int)), .slice true (.ro (.var 17 (clK (roK (G k2) i) (roN (G k2) i) e))) (.lit 0) (.var 16 (roN (G k2) i))])
    (H := HZd (.var 3 k2) (.var 4 m) (.var 10 gw) (.var 12 wn) (.var 1 k) (.var 2 n) (.var 9 g) (.var 11 lw) (.var 13 tu) (.var 14 (c : Int)) (.var 24 (rcY 0)) (.var 25 (rcZ 0))) (H1 := HZd (.var 3 k2) (.var 4 m) (.var 10 gw) (.var 12 wn) (.var 1 k) (.var 2 n) (.var 9 g) (.var 11 lw) (.var 13 tu) (.var 14 (c : Int)) (.var 24 (rcY 0)) (.var 25 (rcZ 0))) (H2 := HZd (.var 3 k2) (.var 4 m) (.var 10 gw) (.var 12 wn) (.var 1 k) (.var 2 n) (.var 9 g) (.var 11 lw) (.var 13 tu) (.var 14 (c : Int)) (.var 24 (rcY 0)) (.var 25 (rcZ 1)))
    (dgZ G B _ (by kernel_rfl)) (dgZ G B _ (by kernel_rfl)) rfl rfl rfl (by kernel_rfl) (by kernel_rfl) rfl ?_ rfl (by simp [HZd]) rfl ?_
  · have := z_as G (isRc (rcY 0)) k2 m gw wn k n g (clK (roK (G k2) i) (roN (G k2) i) e) (roN (G k2) i) lw tu (c : Int) (i : Int) (rcY 7) (rcY 0) (rcZ 0) (fun ex ws H' => ex = .normal ∧ ws = vVs G [.ptr (.rw 5) (.lit 0), .ptr (.rw 4) (.lit 0), .ptr (.rw 9) (.lit 0), .func 43 [.ptr (.rw 10) (.lit 0)], .int .i64 (.var 15 (i : Int)), .slice true (.ro (.var 17 (clK (roK (G k2) i) (roN (G k2) i) e))) (.lit 0) (.var 16 (roN (G k2) i)), .int .i64 (.var 15 (i : Int)), .slice true (.ro (.var 17 (clK (roK (G k2) i) (roN (G k2) i) e))) (.lit 0) (.var 16 (roN (G k2) i))] ∧ H' = vHp G (HZd (.var 3 k2) (.var 4 m) (.var 10 gw) (.var 12 wn) (.var 1 k) (.var 2 n) (.var 9 g) (.var 11 lw) (.var 13 tu) (.var 14 (c : Int)) (.var 24 (rcY 0)) (.var 25 (rcZ 0)))) (fun _ _ => False)
    exact Eq.mpr this ⟨rfl, rfl, rfl⟩
  · have := z_bd G (isRc (rcY 0)) k2 m gw wn k n g (clK (roK (G k2) i) (roN (G k2) i) e) (roN (G k2) i) lw tu (c : Int) (i : Int) (rcY 7) (rcY 0) (rcZ 1) (fun ex _ H' => H'[11]? = some (some ⟨4294967291, .rcd 1 (rgP (loopN Try.f37 0)) (rgA (loopN Try.f37 0)) (rgB (loopN Try.f37 0)) :: F0z⟩) ∧ ∃ H'' Gx, H'.set 11 (some ⟨4294967291, .rcd (stEx ex) (rgP (loopN Try.f37 0)) (rgA (loopN Try.f37 0)) (rgB (loopN Try.f37 0)) :: F0z⟩) = H'' ++ Gx ∧ 12 ≤ H''.length ∧ hpB H''.length H'' = true ∧
      (AV.bool (isNormal ex) = .bool (!(mtF G k n k2 i && brkB tu lw c)) ∧ H'' = vHp G (HZd (.var 3 k2) (.var 4 m) (.var 10 gw) (.var 12 wn) (.var 1 k) (.var 2 n) (.var 9 g) (.var 11 lw) (.var 13 tu) (.var 14 (cntB (mtF G k n k2) (i + 1) : Int)) (.var 24 (rcY (if (mtF G k n k2 i && brkB tu lw c) = true then 7 else 0))) (.var 25 (rcZ (if (mtF G k n k2 i && brkB tu lw c) = true then 2 else 0)))))) (fun _ _ => False)
    have fin : ∀ q q2 (c' : EI), hpB 12 (vHp G (HZd (.var 3 k2) (.var 4 m) (.var 10 gw) (.var 12 wn) (.var 1 k) (.var 2 n) (.var 9 g) (.var 11 lw) (.var 13 tu) c' (.var 24 (rcY q)) (.var 25 (rcZ q2)))) = true := fun q q2 c' => HZ_b G k2 m gw wn k n g lw tu c' q q2
    refine Eq.mpr this ⟨hk, by8, fun h => ?_, fun h => ?_⟩
    · have hf : mtF G k n k2 i = true := by rw [← mt]; exact h
      have e1 : cntB (mtF G k n k2) (i + 1) = c + 1 := by simp only [cntB, hf, if_true, hc]
      have clt : c < wn := by rw [hc, hw]; exact cntB_lt hi hf
      have wle : wn ≤ 40 := by have := cntB_n (f := mtF G k n k2) m; omega
      have at' : (G gw)[c]? = some (.int .i64 (i : Int)) := by rw [hgw, hc]; exact wantL_at hf hi
      have wr : IntKind.wrap .i64 ((c : Int) + 1) = (cntB (mtF G k n k2) (i + 1) : Int) := by rw [i64_in (by omega), e1]; rfl
      refine ⟨q3, cl, Nat.beq_refl _, Nat.beq_refl _, Nat.beq_refl _, isRc_iff.2 rfl, ?_, fun hb => ?_, fun hb => ?_⟩
      · simp only [yU, Bool.and_eq_true, decide_eq_true_eq, Int.toNat_natCast, beq_iff_eq]
        refine ⟨⟨⟨by omega, by omega, by omega⟩, ?_, ?_⟩, ⟨by omega, by omega, hp⟩, trivial, sm, rcZ_ok 1⟩
        · unfold isI; rw [at']; rfl
        · unfold getI; rw [at']
      · have hb : brkB tu lw c = true := by
          have hb : brkB tu lw (c : Int).toNat = true := hb
          rwa [Int.toNat_natCast] at hb
        rw [hf, hb, wr]
        refine ⟨rfl, vHp G (HZd (.var 3 k2) (.var 4 m) (.var 10 gw) (.var 12 wn) (.var 1 k) (.var 2 n) (.var 9 g) (.var 11 lw) (.var 13 tu) (.var 14 (cntB (mtF G k n k2) (i + 1) : Int)) (.var 24 (rcY 7)) (.var 25 (rcZ 2))), [some ⟨1, repL (roN (G k2) i) [.int .u8 99]⟩], rfl, by simp [HZd, vHp], fin 7 2 _, rfl, rfl⟩
      · have hb : brkB tu lw c = false := by
          have hb : brkB tu lw (c : Int).toNat = false := hb
          rwa [Int.toNat_natCast] at hb
        rw [hf, hb, wr]
        refine ⟨rfl, vHp G (HZd (.var 3 k2) (.var 4 m) (.var 10 gw) (.var 12 wn) (.var 1 k) (.var 2 n) (.var 9 g) (.var 11 lw) (.var 13 tu) (.var 14 (cntB (mtF G k n k2) (i + 1) : Int)) (.var 24 (rcY 0)) (.var 25 (rcZ 0))), [some ⟨1, repL (roN (G k2) i) [.int .u8 99]⟩], rfl, by simp [HZd, vHp], fin 0 0 _, rfl, rfl⟩
    · have hf : mtF G k n k2 i = false := by rw [← mt]; exact h
      have e1 : cntB (mtF G k n k2) (i + 1) = c := by simp only [cntB, hf, hc]; rfl
      rw [hf, e1]
      exact ⟨rfl, vHp G (HZd (.var 3 k2) (.var 4 m) (.var 10 gw) (.var 12 wn) (.var 1 k) (.var 2 n) (.var 9 g) (.var 11 lw) (.var 13 tu) (.var 14 (c : Int)) (.var 24 (rcY 0)) (.var 25 (rcZ 0))), [], rfl, by simp [HZd, vHp], fin 0 0 _, rfl, rfl⟩
end Go.Am
