/-
  Filters: FilterPasses: the iterator's call, Passing's function, the law's loop over it.
-/
import Derived.Test.YtnkcfoicbkobbaaFpG
namespace Go.Am
open Go.Proofs
set_option maxRecDepth 100000
def ifN (b : Bool) (x y : Nat) : Nat := if b = true then x else y
theorem c43_call (G : Nat → List AV) (B : Nat) (k2 m gw wn k n g e : Nat) (lw tu : Int) (hg : G g = wkC (G k2) e m) (hE : G e = []) (hp : pksB G (G k2) m = true) (hk : okI .i64 (G k) 0 (n * 3) = true) (hm : m ≤ 40) (hw : wn = cntB (mtF G k n k2) m) (hgw : G gw = wantL (mtF G k n k2) m) : ACalls (⟨Try.prog, G, B⟩ : Ctx) 43 [.yld 11, .ptr (.rw 10) 0] (vHp G (HZd (.var 3 k2) (.var 4 m) (.var 10 gw) (.var 12 wn) (.var 1 k) (.var 2 n) (.var 9 g) (.var 11 lw) (.var 13 tu) (.var 14 0) (.var 24 (rcY 0)) (.var 25 (rcZ 0)))) fun v H => v = .tup [] ∧ H = (vHp G (HZd (.var 3 k2) (.var 4 m) (.var 10 gw) (.var 12 wn) (.var 1 k) (.var 2 n) (.var 9 g) (.var 11 lw) (.var 13 tu) (.var 18 (endC tu lw wn)) (.var 26 (rcY (ifN (brokeB tu lw wn) 7 0))) (.var 27 (rcZ (ifN (brokeB tu lw wn) 2 0))))) := by
  have h := dcall_ok (C := (⟨Try.prog, G, B⟩ : Ctx)) (K := Dr Try.prog [] [] [DLat 1901 (isSt [.yld 11, .slice true (.ro g) 0 m, .int .i64 (m : Int), .int .i64 0] (vHp G (HZd (.var 3 k2) (.var 4 m) (.var 10 gw) (.var 12 wn) (.var 1 k) (.var 2 n) (.var 9 g) (.var 11 lw) (.var 13 tu) (.var 14 0) (.var 24 (rcY 0)) (.var 25 (rcZ 0))))) 0 18 [0, 5, 6, 7] (.tst (.var 19 (brokeB tu lw wn)) (.one .ret [.undef, .undef, .undef, .undef] (HZd (.var 3 k2) (.var 4 m) (.var 10 gw) (.var 12 wn) (.var 1 k) (.var 2 n) (.var 9 g) (.var 11 lw) (.var 13 tu) (.var 18 (endC tu lw wn)) (.var 26 (rcY 7)) (.var 27 (rcZ 2)))) (.one (.exit 0) [.undef, .undef, .undef, .undef] (HZd (.var 3 k2) (.var 4 m) (.var 10 gw) (.var 12 wn) (.var 1 k) (.var 2 n) (.var 9 g) (.var 11 lw) (.var 13 tu) (.var 18 (endC tu lw wn)) (.var 24 (rcY 0)) (.var 25 (rcZ 0)))))] [] noY 12) (fuel := 300) (n0 := 20) (f := 43) (fn := Try.f43) (args := [.yld 11, .ptr (.rw 10) (.lit 0)]) (H := HZd (.var 3 k2) (.var 4 m) (.var 10 gw) (.var 12 wn) (.var 1 k) (.var 2 n) (.var 9 g) (.var 11 lw) (.var 13 tu) (.var 14 0) (.var 24 (rcY 0)) (.var 25 (rcZ 0))) (keep := 12)
    (R := fun v H => v = .tup [] ∧ H = (vHp G (HZd (.var 3 k2) (.var 4 m) (.var 10 gw) (.var 12 wn) (.var 1 k) (.var 2 n) (.var 9 g) (.var 11 lw) (.var 13 tu) (.var 18 (endC tu lw wn)) (.var 26 (rcY (ifN (brokeB tu lw wn) 7 0))) (.var 27 (rcZ (ifN (brokeB tu lw wn) 2 0)))))) (dgoodr (mixF G B) (by kernel_rfl) .nil (.cast (.cons (i := 0) (by kernel_rfl) rfl (DLat_okC rfl (i_loop G B k2 m gw wn k n g e lw tu hg hE hp hk hm hw hgw)) .nil) (by kernel_rfl)) .none noY_ok) (by kernel_rfl) (by kernel_rfl) (by kernel_rfl) (by
    have := c43 G (isSt [.yld 11, .slice true (.ro g) 0 m, .int .i64 (m : Int), .int .i64 0] (vHp G (HZd (.var 3 k2) (.var 4 m) (.var 10 gw) (.var 12 wn) (.var 1 k) (.var 2 n) (.var 9 g) (.var 11 lw) (.var 13 tu) (.var 14 0) (.var 24 (rcY 0)) (.var 25 (rcZ 0))))) k2 m gw wn k n g lw tu 0 (endC tu lw wn) (brokeB tu lw wn) (rcY 7) (rcZ 2) (rcY 0) (rcZ 0) (fun _ _ _ => False) (fun v H => v = .tup [] ∧ H = (vHp G (HZd (.var 3 k2) (.var 4 m) (.var 10 gw) (.var 12 wn) (.var 1 k) (.var 2 n) (.var 9 g) (.var 11 lw) (.var 13 tu) (.var 18 (endC tu lw wn)) (.var 26 (rcY (ifN (brokeB tu lw wn) 7 0))) (.var 27 (rcZ (ifN (brokeB tu lw wn) 2 0))))))
    refine Eq.mpr this ⟨isSt_refl, fun hb => ?_, fun hb => ?_⟩
    · rw [hb]; exact ⟨rfl, rfl⟩
    · rw [hb]; exact ⟨rfl, rfl⟩)
  exact ACalls.keep (k := 12) h (by simp [HZd, vHp]) (HZ_b G k2 m gw wn k n g lw tu _ _ _) rfl (by simp)
def HWd (k2 m gw wn k n g : EN) (lw tu c : EI) (rc : EL) : DHp :=
  [some ⟨1, .of [.slice true (.ro k2) (.lit 0) m]⟩, some ⟨1, .of [.int .i64 lw]⟩, some ⟨1, .of [.bool (.lit false)]⟩, some ⟨1, .of [.slice true (.ro gw) (.lit 0) wn]⟩, some ⟨1, .of [.slice true (.ro k) (.lit 0) n]⟩, some ⟨1, .of [.slice true (.ro g) (.lit 0) m]⟩,
   some ⟨1, .of [.int .i64 tu]⟩, some ⟨1, .of [.int .i64 c]⟩, some ⟨4294967291, rc⟩, some ⟨1, .of [.yld 8]⟩, some ⟨1, .of [.slice true (.ro g) (.lit 0) m]⟩]
def HVd (k2 m gw wn k n g : EN) (lw tu c : EI) (rc : EL) : DHp :=
  [some ⟨1, .of [.slice true (.ro k2) (.lit 0) m]⟩, some ⟨1, .of [.int .i64 lw]⟩, some ⟨1, .of [.bool (.lit false)]⟩, some ⟨1, .of [.slice true (.ro gw) (.lit 0) wn]⟩, some ⟨1, .of [.slice true (.ro k) (.lit 0) n]⟩, some ⟨1, .of [.slice true (.ro g) (.lit 0) m]⟩,
   some ⟨1, .of [.int .i64 tu]⟩, some ⟨1, .of [.int .i64 c]⟩, some ⟨4294967291, rc⟩]
def HUd (k2 m gw wn k n g : EN) (lw tu c : EI) : DHp :=
  [some ⟨1, .of [.slice true (.ro k2) (.lit 0) m]⟩, some ⟨1, .of [.int .i64 lw]⟩, some ⟨1, .of [.bool (.lit false)]⟩, some ⟨1, .of [.slice true (.ro gw) (.lit 0) wn]⟩, some ⟨1, .of [.slice true (.ro k) (.lit 0) n]⟩, some ⟨1, .of [.slice true (.ro g) (.lit 0) m]⟩,
   some ⟨1, .of [.int .i64 tu]⟩, some ⟨1, .of [.int .i64 c]⟩]
theorem HW_b (G : Nat → List AV) (k2 m gw wn k n g : Nat) (lw tu : Int) (c : EI) (q : Nat) : hpB 11 (vHp G (HWd (.var 3 k2) (.var 4 m) (.var 10 gw) (.var 12 wn) (.var 1 k) (.var 2 n) (.var 9 g) (.var 11 lw) (.var 13 tu) c (.var 24 (rcY q)))) = true := by
  have : bnds 11 (rcY q) = true := by kernel_rfl
  simp only [HWd, vHp, List.map_cons, List.map_nil, Option.map_some, vBlk, vL, vVs, vV, vR, vN, vI, vB, hpB, this, bnds, bnd, Bool.and_self, Bool.and_true]
  rfl
theorem HV_b (G : Nat → List AV) (k2 m gw wn k n g : Nat) (lw tu : Int) (c : EI) (q : Nat) : hpB 9 (vHp G (HVd (.var 3 k2) (.var 4 m) (.var 10 gw) (.var 12 wn) (.var 1 k) (.var 2 n) (.var 9 g) (.var 11 lw) (.var 13 tu) c (.var 24 (rcY q)))) = true := by
  have : bnds 9 (rcY q) = true := by kernel_rfl
  simp only [HVd, vHp, List.map_cons, List.map_nil, Option.map_some, vBlk, vL, vVs, vV, vR, vN, vI, vB, hpB, this, bnds, bnd, Bool.and_self, Bool.and_true, decide_true]
  try rfl
theorem HU_b (G : Nat → List AV) (k2 m gw wn k n g : Nat) (lw tu : Int) (c : EI) : hpB 8 (vHp G (HUd (.var 3 k2) (.var 4 m) (.var 10 gw) (.var 12 wn) (.var 1 k) (.var 2 n) (.var 9 g) (.var 11 lw) (.var 13 tu) c)) = true := by
  simp only [HUd, vHp, List.map_cons, List.map_nil, Option.map_some, vBlk, vL, vVs, vV, vR, vN, vI, vB, hpB, bnds, bnd, Bool.and_self, Bool.and_true, decide_true]
  try rfl
theorem w_rng (G : Nat → List AV) (B : Nat) (k2 m gw wn k n g e : Nat) (lw tu : Int) (hg : G g = wkC (G k2) e m) (hE : G e = []) (hp : pksB G (G k2) m = true) (hk : okI .i64 (G k) 0 (n * 3) = true) (hm : m ≤ 40) (hw : wn = cntB (mtF G k n k2) m) (hgw : G gw = wantL (mtF G k n k2) m) : AWp (⟨Try.prog, G, B⟩ : Ctx) 11 (loopN Try.f37 0) F0z (vHp G (HWd (.var 3 k2) (.var 4 m) (.var 10 gw) (.var 12 wn) (.var 1 k) (.var 2 n) (.var 9 g) (.var 11 lw) (.var 13 tu) (.var 14 0) (.var 24 (rcY 0)))) (lv 21 [1, 2, 3, 7] (LOut.post G 11 (.tst (.var 19 (brokeB tu lw wn)) (.one .ret [.undef, .undef, .undef, .undef] (HWd (.var 3 k2) (.var 4 m) (.var 10 gw) (.var 12 wn) (.var 1 k) (.var 2 n) (.var 9 g) (.var 11 lw) (.var 13 tu) (.var 18 (endC tu lw wn)) (.var 26 (rcY 7)))) (.one .normal [.undef, .undef, .undef, .undef] (HWd (.var 3 k2) (.var 4 m) (.var 10 gw) (.var 12 wn) (.var 1 k) (.var 2 n) (.var 9 g) (.var 11 lw) (.var 13 tu) (.var 18 (endC tu lw wn)) (.var 24 (rcY 0))))))) := by
  rw [N37_eq]
  refine AWp.rng (f := 43) (cap := [.ptr (.rw 10) 0]) (by simp [HWd, vHp]) (by kernel_rfl) ?_
  refine (c43_call G B k2 m gw wn k n g e lw tu hg hE hp hk hm hw hgw).monoK ?_
  rintro v H ⟨rfl, rfl⟩
  cases hb : (brokeB tu lw wn) with
  | true =>
    refine .inl ⟨rfl, rfl, .inr ?_⟩
    exact View.same (H := vHp G (HWd (.var 3 k2) (.var 4 m) (.var 10 gw) (.var 12 wn) (.var 1 k) (.var 2 n) (.var 9 g) (.var 11 lw) (.var 13 tu) (.var 18 (endC tu lw wn)) (.var 26 (rcY 7)))) (G := [none]) (by simp [HWd, vHp]) (HW_b G k2 m gw wn k n g lw tu _ 7) trivial
  | false =>
    refine .inr ⟨rfl, rfl, .inr ?_⟩
    exact View.same (H := vHp G (HWd (.var 3 k2) (.var 4 m) (.var 10 gw) (.var 12 wn) (.var 1 k) (.var 2 n) (.var 9 g) (.var 11 lw) (.var 13 tu) (.var 18 (endC tu lw wn)) (.var 24 (rcY 0)))) (G := [none]) (by simp [HWd, vHp]) (HW_b G k2 m gw wn k n g lw tu _ 0) trivial
-- names: (.uf 1902 (rw1) [x])
theorem c37 (G : Nat → List AV) (rw1 : List AV → Bool) (k2 m gw wn k n g : Nat) (lw tu c1 : Int) (bb : Bool) (r7 rc : List AV) (Q : Ex → List AV → Hp → Prop) (R : AV → Hp → Prop) : vT G Q R (dcall (Dr Try.prog [38] [] [] [DLat 1902 (rw1) 8 21 [1, 2, 3, 7] (.tst (.var 19 bb) (.one .ret [.undef, .undef, .undef, .undef] (HWd (.var 3 k2) (.var 4 m) (.var 10 gw) (.var 12 wn) (.var 1 k) (.var 2 n) (.var 9 g) (.var 11 lw) (.var 13 tu) (.var 18 c1) (.var 26 r7))) (.one .normal [.undef, .undef, .undef, .undef] (HWd (.var 3 k2) (.var 4 m) (.var 10 gw) (.var 12 wn) (.var 1 k) (.var 2 n) (.var 9 g) (.var 11 lw) (.var 13 tu) (.var 18 c1) (.var 24 rc))))] noY 11) 300 20 Try.f37 [.yld 8, .ptr (.rw 5) (.lit 0), .ptr (.rw 4) (.lit 0)] (HVd (.var 3 k2) (.var 4 m) (.var 10 gw) (.var 12 wn) (.var 1 k) (.var 2 n) (.var 9 g) (.var 11 lw) (.var 13 tu) (.lit 0) (.var 24 rc)) 9) = (
    (rw1) [.agg ([.ptr (.rw 5) (0), .ptr (.rw 4) (0), .ptr (.rw 9) (0), .func 43 [.ptr (.rw 10) (0)]] : List AV), .agg ([.tup [.int .i64 (1), .agg ([.slice true (.ro (k2)) (0) (m)] : List AV)], .tup [.int .i64 (1), .agg ([.int .i64 (lw)] : List AV)], .tup [.int .i64 (1), .agg ([.bool (false)] : List AV)], .tup [.int .i64 (1), .agg ([.slice true (.ro (gw)) (0) (wn)] : List AV)], .tup [.int .i64 (1), .agg ([.slice true (.ro (k)) (0) (n)] : List AV)], .tup [.int .i64 (1), .agg ([.slice true (.ro (g)) (0) (m)] : List AV)], .tup [.int .i64 (1), .agg ([.int .i64 (tu)] : List AV)], .tup [.int .i64 (1), .agg ([.int .i64 (0)] : List AV)], .tup [.int .i64 (4294967291), .agg rc], .tup [.int .i64 (1), .agg ([.yld 8] : List AV)], .tup [.int .i64 (1), .agg ([.slice true (.ro (g)) (0) (m)] : List AV)]] : List AV)] = true ∧
    (bb = true →
      R (.tup []) [some ⟨1, ([.slice true (.ro (k2)) (0) (m)] : List AV)⟩, some ⟨1, ([.int .i64 (lw)] : List AV)⟩, some ⟨1, ([.bool (false)] : List AV)⟩, some ⟨1, ([.slice true (.ro (gw)) (0) (wn)] : List AV)⟩, some ⟨1, ([.slice true (.ro (k)) (0) (n)] : List AV)⟩, some ⟨1, ([.slice true (.ro (g)) (0) (m)] : List AV)⟩, some ⟨1, ([.int .i64 (tu)] : List AV)⟩, some ⟨1, ([.int .i64 (c1)] : List AV)⟩, some ⟨4294967291, r7⟩]) ∧
    (bb = false →
      R (.tup []) [some ⟨1, ([.slice true (.ro (k2)) (0) (m)] : List AV)⟩, some ⟨1, ([.int .i64 (lw)] : List AV)⟩, some ⟨1, ([.bool (false)] : List AV)⟩, some ⟨1, ([.slice true (.ro (gw)) (0) (wn)] : List AV)⟩, some ⟨1, ([.slice true (.ro (k)) (0) (n)] : List AV)⟩, some ⟨1, ([.slice true (.ro (g)) (0) (m)] : List AV)⟩, some ⟨1, ([.int .i64 (tu)] : List AV)⟩, some ⟨1, ([.int .i64 (c1)] : List AV)⟩, some ⟨4294967291, rc⟩])) := by kernel_rfl
end Go.Am
