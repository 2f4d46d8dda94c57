/-
  Filters: FilterPasses: the packets are gone over: the iterator, Passing's function, the law's loop over it.
-/
import Derived.Test.YtnkcfoicbkobbaaFpF
import Derived.Test.YtnkcfoicbkobbaaBase6
namespace Go.Am
open Go.Proofs
set_option maxRecDepth 100000
-- names: (.uf 1900 ry [x]) 
theorem it_b (G : Nat → List AV) (ry : List AV → Bool) (i : Nat) (k2 m gw wn k n g : Nat) (lw tu c c1 : Int) (bb : Bool) (r7 rz rc rd : List AV) (Q : Ex → List AV → Hp → Prop) (R : AV → Hp → Prop) : vT G Q R (dloop (Dr Try.prog [] [] [] [] (yAt 1900 11 ry (.tst (.var 19 bb) (.one (.bool (.lit false)) [.set 7 ⟨1, .of [.int .i64 (.var 18 c1)]⟩, .set 8 ⟨4294967291, .var 26 r7⟩, .set 11 ⟨4294967291, .var 27 rz⟩]) (.one (.bool (.lit true)) [.set 7 ⟨1, .of [.int .i64 (.var 18 c1)]⟩]))) 12) 300 20 12 (loopN Try.f43 0) 18 [0, 5, 6, 7] [.yld 11, .slice true (.ro (.var 9 g)) (.lit 0) (.var 4 m), .int .i64 (.ofN (.var 4 m)), .int .i64 (.ofN (.var 6 i))] (HZd (.var 3 k2) (.var 4 m) (.var 10 gw) (.var 12 wn) (.var 1 k) (.var 2 n) (.var 9 g) (.var 11 lw) (.var 13 tu) (.var 14 c) (.var 24 rc) (.var 25 rd))) = (
    (decide ((((i : Nat) : Int) : Int) < ((m : Nat) : Int)) = true →
      decide ((0 : Int) ≤ ((i : Nat) : Int)) = true ∧
      decide ((((i : Nat) : Int) : Int) < ((m : Nat) : Int)) = true ∧
      isRS (G (g)) (i) = true ∧
      ry [.agg ([.int .i64 (((i : Nat) : Int)), .slice true (.ro (roK (G (g)) (i))) (roO (G (g)) (i)) (roN (G (g)) (i))] : List AV), .agg ([.tup [.int .i64 (1), .agg ([.slice true (.ro (k2)) (0) (m)] : List AV)], .tup [.int .i64 (1), .agg ([.int .i64 (lw)] : List AV)], .tup [.int .i64 (1), .agg ([.bool (false)] : List AV)], .tup [.int .i64 (1), .agg ([.slice true (.ro (gw)) (0) (wn)] : List AV)], .tup [.int .i64 (1), .agg ([.slice true (.ro (k)) (0) (n)] : List AV)], .tup [.int .i64 (1), .agg ([.slice true (.ro (g)) (0) (m)] : List AV)], .tup [.int .i64 (1), .agg ([.int .i64 (tu)] : List AV)], .tup [.int .i64 (1), .agg ([.int .i64 (c)] : List AV)], .tup [.int .i64 (4294967291), .agg rc], .tup [.int .i64 (1), .agg ([.yld 8] : List AV)], .tup [.int .i64 (1), .agg ([.slice true (.ro (g)) (0) (m)] : List AV)], .tup [.int .i64 (4294967291), .agg rd]] : List AV)] = true ∧
      (bb = true →
        Q .ret [.yld 11, .slice true (.ro (g)) (0) (m), .int .i64 (((m : Nat) : Int)), .int .i64 (((i : Nat) : Int))] [some ⟨1, ([.slice true (.ro (k2)) (0) (m)] : List AV)⟩, some ⟨1, ([.int .i64 (lw)] : List AV)⟩, some ⟨1, ([.bool (false)] : List AV)⟩, some ⟨1, ([.slice true (.ro (gw)) (0) (wn)] : List AV)⟩, some ⟨1, ([.slice true (.ro (k)) (0) (n)] : List AV)⟩, some ⟨1, ([.slice true (.ro (g)) (0) (m)] : List AV)⟩, some ⟨1, ([.int .i64 (tu)] : List AV)⟩, some ⟨1, ([.int .i64 (c1)] : List AV)⟩, some ⟨4294967291, r7⟩, some ⟨1, ([.yld 8] : List AV)⟩, some ⟨1, ([.slice true (.ro (g)) (0) (m)] : List AV)⟩, some ⟨4294967291, rz⟩]) ∧
      (bb = false →
        Q .normal [.yld 11, .slice true (.ro (g)) (0) (m), .int .i64 (((m : Nat) : Int)), .int .i64 (IntKind.wrap .i64 (((i : Nat) : Int) + 1))] [some ⟨1, ([.slice true (.ro (k2)) (0) (m)] : List AV)⟩, some ⟨1, ([.int .i64 (lw)] : List AV)⟩, some ⟨1, ([.bool (false)] : List AV)⟩, some ⟨1, ([.slice true (.ro (gw)) (0) (wn)] : List AV)⟩, some ⟨1, ([.slice true (.ro (k)) (0) (n)] : List AV)⟩, some ⟨1, ([.slice true (.ro (g)) (0) (m)] : List AV)⟩, some ⟨1, ([.int .i64 (tu)] : List AV)⟩, some ⟨1, ([.int .i64 (c1)] : List AV)⟩, some ⟨4294967291, rc⟩, some ⟨1, ([.yld 8] : List AV)⟩, some ⟨1, ([.slice true (.ro (g)) (0) (m)] : List AV)⟩, some ⟨4294967291, rd⟩])) ∧
    (decide ((((i : Nat) : Int) : Int) < ((m : Nat) : Int)) = false →
      Q (.exit 0) [.yld 11, .slice true (.ro (g)) (0) (m), .int .i64 (((m : Nat) : Int)), .int .i64 (((i : Nat) : Int))] [some ⟨1, ([.slice true (.ro (k2)) (0) (m)] : List AV)⟩, some ⟨1, ([.int .i64 (lw)] : List AV)⟩, some ⟨1, ([.bool (false)] : List AV)⟩, some ⟨1, ([.slice true (.ro (gw)) (0) (wn)] : List AV)⟩, some ⟨1, ([.slice true (.ro (k)) (0) (n)] : List AV)⟩, some ⟨1, ([.slice true (.ro (g)) (0) (m)] : List AV)⟩, some ⟨1, ([.int .i64 (tu)] : List AV)⟩, some ⟨1, ([.int .i64 (c)] : List AV)⟩, some ⟨4294967291, rc⟩, some ⟨1, ([.yld 8] : List AV)⟩, some ⟨1, ([.slice true (.ro (g)) (0) (m)] : List AV)⟩, some ⟨4294967291, rd⟩])) := by kernel_rfl
theorem c43 (G : Nat → List AV) (rl : List AV → Bool) (k2 m gw wn k n g : Nat) (lw tu c c1 : Int) (bb : Bool) (r7 rz rc rd : List AV) (Q : Ex → List AV → Hp → Prop) (R : AV → Hp → Prop) : vT G Q R (dcall (Dr Try.prog [] [] [DLat 1901 (rl) 0 18 [0, 5, 6, 7] (.tst (.var 19 bb) (.one .ret [.undef, .undef, .undef, .undef] (HZd (.var 3 k2) (.var 4 m) (.var 10 gw) (.var 12 wn) (.var 1 k) (.var 2 n) (.var 9 g) (.var 11 lw) (.var 13 tu) (.var 18 c1) (.var 26 r7) (.var 27 rz))) (.one (.exit 0) [.undef, .undef, .undef, .undef] (HZd (.var 3 k2) (.var 4 m) (.var 10 gw) (.var 12 wn) (.var 1 k) (.var 2 n) (.var 9 g) (.var 11 lw) (.var 13 tu) (.var 18 c1) (.var 24 rc) (.var 25 rd))))] [] noY 12) 300 20 Try.f43 [.yld 11, .ptr (.rw 10) (.lit 0)] (HZd (.var 3 k2) (.var 4 m) (.var 10 gw) (.var 12 wn) (.var 1 k) (.var 2 n) (.var 9 g) (.var 11 lw) (.var 13 tu) (.var 14 c) (.var 24 rc) (.var 25 rd)) 12) = (
    (rl) [.agg ([.yld 11, .slice true (.ro (g)) (0) (m), .int .i64 (((m : Nat) : Int)), .int .i64 (0)] : List AV), .agg ([.tup [.int .i64 (1), .agg ([.slice true (.ro (k2)) (0) (m)] : List AV)], .tup [.int .i64 (1), .agg ([.int .i64 (lw)] : List AV)], .tup [.int .i64 (1), .agg ([.bool (false)] : List AV)], .tup [.int .i64 (1), .agg ([.slice true (.ro (gw)) (0) (wn)] : List AV)], .tup [.int .i64 (1), .agg ([.slice true (.ro (k)) (0) (n)] : List AV)], .tup [.int .i64 (1), .agg ([.slice true (.ro (g)) (0) (m)] : List AV)], .tup [.int .i64 (1), .agg ([.int .i64 (tu)] : List AV)], .tup [.int .i64 (1), .agg ([.int .i64 (c)] : List AV)], .tup [.int .i64 (4294967291), .agg rc], .tup [.int .i64 (1), .agg ([.yld 8] : List AV)], .tup [.int .i64 (1), .agg ([.slice true (.ro (g)) (0) (m)] : List AV)], .tup [.int .i64 (4294967291), .agg rd]] : List AV)] = true ∧
    (bb = true →
      R (.tup []) [some ⟨1, ([.slice true (.ro (k2)) (0) (m)] : List AV)⟩, some ⟨1, ([.int .i64 (lw)] : List AV)⟩, some ⟨1, ([.bool (false)] : List AV)⟩, some ⟨1, ([.slice true (.ro (gw)) (0) (wn)] : List AV)⟩, some ⟨1, ([.slice true (.ro (k)) (0) (n)] : List AV)⟩, some ⟨1, ([.slice true (.ro (g)) (0) (m)] : List AV)⟩, some ⟨1, ([.int .i64 (tu)] : List AV)⟩, some ⟨1, ([.int .i64 (c1)] : List AV)⟩, some ⟨4294967291, r7⟩, some ⟨1, ([.yld 8] : List AV)⟩, some ⟨1, ([.slice true (.ro (g)) (0) (m)] : List AV)⟩, some ⟨4294967291, rz⟩]) ∧
    (bb = false →
      R (.tup []) [some ⟨1, ([.slice true (.ro (k2)) (0) (m)] : List AV)⟩, some ⟨1, ([.int .i64 (lw)] : List AV)⟩, some ⟨1, ([.bool (false)] : List AV)⟩, some ⟨1, ([.slice true (.ro (gw)) (0) (wn)] : List AV)⟩, some ⟨1, ([.slice true (.ro (k)) (0) (n)] : List AV)⟩, some ⟨1, ([.slice true (.ro (g)) (0) (m)] : List AV)⟩, some ⟨1, ([.int .i64 (tu)] : List AV)⟩, some ⟨1, ([.int .i64 (c1)] : List AV)⟩, some ⟨4294967291, rc⟩, some ⟨1, ([.yld 8] : List AV)⟩, some ⟨1, ([.slice true (.ro (g)) (0) (m)] : List AV)⟩, some ⟨4294967291, rd⟩])) := by kernel_rfl
/-- is the loop left ahead of its end? -/
def brokeB (tu lw : Int) (c : Nat) : Bool := (tu == 0) && (decide (1 ≤ lw) && decide (lw ≤ (c : Int)))
theorem broke_false {tu lw : Int} {c d : Nat} (h : brokeB tu lw d = false) (hc : c ≤ d) : brokeB tu lw c = false := by
  unfold brokeB at *
  cases e : (tu == 0) with
  | false => rfl
  | true =>
    rw [e, Bool.true_and, Bool.and_eq_false_iff] at h
    rw [Bool.true_and, Bool.and_eq_false_iff]
    rcases h with h | h
    · exact .inl h
    · have := of_decide_eq_false h
      exact .inr (decide_eq_false (by omega))
def endC (tu lw : Int) (c : Nat) : Int := if brokeB tu lw c = true then lw else (c : Int)
theorem yO_ok (G : Nat → List AV) (B : Nat) (k2 m gw wn k n g e i : Nat) (lw tu : Int) (hg : G g = wkC (G k2) e m) (hE : G e = []) (hp : pksB G (G k2) m = true) (hk : okI .i64 (G k) 0 (n * 3) = true) (hm : m ≤ 40) (hw : wn = cntB (mtF G k n k2) m) (hgw : G gw = wantL (mtF G k n k2) m) (hi : i < m) : DYsumOk (⟨Try.prog, G, B⟩ : Ctx) (yAt 1900 11 (isSt [.int .i64 (i : Int), .slice true (.ro (roK (G g) i)) (roO (G g) i) (roN (G g) i)] (vHp G (HZd (.var 3 k2) (.var 4 m) (.var 10 gw) (.var 12 wn) (.var 1 k) (.var 2 n) (.var 9 g) (.var 11 lw) (.var 13 tu) (.var 14 (cntB (mtF G k n k2) i : Int)) (.var 24 (rcY 0)) (.var 25 (rcZ 0))))) (.tst (.var 19 (mtF G k n k2 i && brkB tu lw (cntB (mtF G k n k2) i))) (.one (.bool (.lit false)) [.set 7 ⟨1, .of [.int .i64 (.var 18 (cntB (mtF G k n k2) (i + 1) : Int))]⟩, .set 8 ⟨4294967291, .var 26 (rcY 7)⟩, .set 11 ⟨4294967291, .var 27 (rcZ 2)⟩]) (.one (.bool (.lit true)) [.set 7 ⟨1, .of [.int .i64 (.var 18 (cntB (mtF G k n k2) (i + 1) : Int))]⟩]))) := by
  refine yAt_ok rfl ?_
  obtain ⟨_, w2, w3, _⟩ := wk_at (cs := G k2) (e := e) hi
  rw [← hg] at w2 w3
  rw [w2, w3]
  refine (y_z G B k2 m gw wn k n g e i (cntB (mtF G k n k2) i) lw tu hg hE hp hk hi hm rfl hw hgw).mono ?_
  rintro v H' ⟨rfl, rfl⟩
  cases hb : mtF G k n k2 i && brkB tu lw (cntB (mtF G k n k2) i) with
  | true => exact .inl ⟨rfl, rfl, rfl⟩
  | false => exact .inr ⟨rfl, rfl, rfl⟩
theorem i_loop (G : Nat → List AV) (B : Nat) (k2 m gw wn k n g e : Nat) (lw tu : Int) (hg : G g = wkC (G k2) e m) (hE : G e = []) (hp : pksB G (G k2) m = true) (hk : okI .i64 (G k) 0 (n * 3) = true) (hm : m ≤ 40) (hw : wn = cntB (mtF G k n k2) m) (hgw : G gw = wantL (mtF G k n k2) m) :
    AWp (⟨Try.prog, G, B⟩ : Ctx) 12 (.loop (loopN Try.f43 0)) (fl 18 [0, 5, 6, 7] [.yld 11, .slice true (.ro g) 0 m, .int .i64 (m : Int), .int .i64 0]) (vHp G (HZd (.var 3 k2) (.var 4 m) (.var 10 gw) (.var 12 wn) (.var 1 k) (.var 2 n) (.var 9 g) (.var 11 lw) (.var 13 tu) (.var 14 0) (.var 24 (rcY 0)) (.var 25 (rcZ 0))))
      (lv 18 [0, 5, 6, 7] (LOut.post G 12 (.tst (.var 19 (brokeB tu lw wn)) (.one .ret [.undef, .undef, .undef, .undef] (HZd (.var 3 k2) (.var 4 m) (.var 10 gw) (.var 12 wn) (.var 1 k) (.var 2 n) (.var 9 g) (.var 11 lw) (.var 13 tu) (.var 18 (endC tu lw wn)) (.var 26 (rcY 7)) (.var 27 (rcZ 2)))) (.one (.exit 0) [.undef, .undef, .undef, .undef] (HZd (.var 3 k2) (.var 4 m) (.var 10 gw) (.var 12 wn) (.var 1 k) (.var 2 n) (.var 9 g) (.var 11 lw) (.var 13 tu) (.var 18 (endC tu lw wn)) (.var 24 (rcY 0)) (.var 25 (rcZ 0))))))) := by
  refine scanP (fun i => brokeB tu lw (cntB (mtF G k n k2) i) = false) m (fun i => [.yld 11, .slice true (.ro g) 0 m, .int .i64 (m : Int), .int .i64 (i : Int)]) (fun i => vHp G (HZd (.var 3 k2) (.var 4 m) (.var 10 gw) (.var 12 wn) (.var 1 k) (.var 2 n) (.var 9 g) (.var 11 lw) (.var 13 tu) (.var 14 (cntB (mtF G k n k2) i : Int)) (.var 24 (rcY 0)) (.var 25 (rcZ 0)))) ?_ fun i hi hP => ?_
  · simp only [cntB]
    unfold brokeB
    cases (tu == 0) with
    | false => rfl
    | true =>
      rw [Bool.true_and, Bool.and_eq_false_iff]
      by_cases h : 1 ≤ lw
      · exact .inr (decide_eq_false (by simp; omega))
      · exact .inl (decide_eq_false h)
  · by_cases him : i < m
    · refine dloop_ok (C := (⟨Try.prog, G, B⟩ : Ctx)) (K := Dr Try.prog [] [] [] [] (yAt 1900 11 (isSt [.int .i64 (i : Int), .slice true (.ro (roK (G g) i)) (roO (G g) i) (roN (G g) i)] (vHp G (HZd (.var 3 k2) (.var 4 m) (.var 10 gw) (.var 12 wn) (.var 1 k) (.var 2 n) (.var 9 g) (.var 11 lw) (.var 13 tu) (.var 14 (cntB (mtF G k n k2) i : Int)) (.var 24 (rcY 0)) (.var 25 (rcZ 0))))) (.tst (.var 19 (mtF G k n k2 i && brkB tu lw (cntB (mtF G k n k2) i))) (.one (.bool (.lit false)) [.set 7 ⟨1, .of [.int .i64 (.var 18 (cntB (mtF G k n k2) (i + 1) : Int))]⟩, .set 8 ⟨4294967291, .var 26 (rcY 7)⟩, .set 11 ⟨4294967291, .var 27 (rcZ 2)⟩]) (.one (.bool (.lit true)) [.set 7 ⟨1, .of [.int .i64 (.var 18 (cntB (mtF G k n k2) (i + 1) : Int))]⟩]))) 12) (dgoodr (mixF G B) (by kernel_rfl) .nil .nil .none (yO_ok G B k2 m gw wn k n g e i lw tu hg hE hp hk hm hw hgw him)) (fuel := 300) (n0 := 20) (m := 12) (c := loopN Try.f43 0)
        (vs := [.yld 11, .slice true (.ro (.var 9 g)) (.lit 0) (.var 4 m), .int .i64 (.ofN (.var 4 m)), .int .i64 (.ofN (.var 6 i))]) (H := HZd (.var 3 k2) (.var 4 m) (.var 10 gw) (.var 12 wn) (.var 1 k) (.var 2 n) (.var 9 g) (.var 11 lw) (.var 13 tu) (.var 14 (cntB (mtF G k n k2) i : Int)) (.var 24 (rcY 0)) (.var 25 (rcZ 0))) (by simp [HZd]) ?_
      rw [it_b]
      obtain ⟨_, _, _, w4⟩ := wk_at (cs := G k2) (e := e) him
      rw [← hg] at w4
      refine ⟨fun h => ⟨decide_eq_true (by omega), h, w4, isSt_refl, fun hb => ?_, fun hb => ?_⟩, fun h => ?_⟩
      · obtain ⟨b1, b2⟩ := Bool.and_eq_true_iff.1 hb
        have e1 : cntB (mtF G k n k2) (i + 1) = cntB (mtF G k n k2) i + 1 := by simp only [cntB, b1, if_true]
        have le : cntB (mtF G k n k2) (i + 1) ≤ wn := by rw [hw]; exact cntB_le (by omega)
        unfold brkB at b2
        simp only [Bool.and_eq_true, beq_iff_eq] at b2
        have hbr : brokeB tu lw wn = true := by
          unfold brokeB
          simp only [Bool.and_eq_true, beq_iff_eq, decide_eq_true_eq]
          exact ⟨b2.1, by omega, by omega⟩
        have hen : endC tu lw wn = (cntB (mtF G k n k2) (i + 1) : Int) := by unfold endC; rw [if_pos hbr]; omega
        refine .inl ⟨hbr, rfl, .inl ⟨by simp [wk, vVs, vV], ?_⟩⟩
        rw [hen]; rfl
      · refine ⟨him, ?_, .inl ⟨by rw [i64_in (by omega)]; rfl, rfl⟩⟩
        cases hf : mtF G k n k2 i with
        | false => simp only [cntB, hf]; exact hP
        | true =>
          have hb : brkB tu lw (cntB (mtF G k n k2) i) = false := by rw [hf, Bool.true_and] at hb; exact hb
          simp only [cntB, hf, if_true]
          unfold brokeB brkB at *
          cases ht : (tu == 0) with
          | false => rfl
          | true =>
            rw [ht, Bool.true_and] at hb hP
            rw [Bool.true_and, Bool.and_eq_false_iff]
            rw [Bool.and_eq_false_iff] at hP
            have hb : ¬ ((cntB (mtF G k n k2) i : Int) + 1 = lw) := by simpa using hb
            rcases hP with hP | hP
            · exact .inl hP
            · have := of_decide_eq_false hP
              exact .inr (decide_eq_false (by omega))
      · exact absurd h (by simp; omega)
    · have : m = i := by omega
      subst this
      refine dloop_ok (C := (⟨Try.prog, G, B⟩ : Ctx)) (K := Dr Try.prog [] [] [] [] (yAt 1900 11 (fun _ => false) (.tst (.var 19 (mtF G k n k2 m && brkB tu lw (cntB (mtF G k n k2) m))) (.one (.bool (.lit false)) [.set 7 ⟨1, .of [.int .i64 (.var 18 (cntB (mtF G k n k2) (m + 1) : Int))]⟩, .set 8 ⟨4294967291, .var 26 (rcY 7)⟩, .set 11 ⟨4294967291, .var 27 (rcZ 2)⟩]) (.one (.bool (.lit true)) [.set 7 ⟨1, .of [.int .i64 (.var 18 (cntB (mtF G k n k2) (m + 1) : Int))]⟩]))) 12) (dgoodr (mixF G B) (by kernel_rfl) .nil .nil .none (fun i args H o ho => ?_)) (fuel := 300) (n0 := 20) (m := 12) (c := loopN Try.f43 0)
        (vs := [.yld 11, .slice true (.ro (.var 9 g)) (.lit 0) (.var 4 m), .int .i64 (.ofN (.var 4 m)), .int .i64 (.ofN (.var 6 m))]) (H := HZd (.var 3 k2) (.var 4 m) (.var 10 gw) (.var 12 wn) (.var 1 k) (.var 2 n) (.var 9 g) (.var 11 lw) (.var 13 tu) (.var 14 (cntB (mtF G k n k2) m : Int)) (.var 24 (rcY 0)) (.var 25 (rcZ 0))) (by simp [HZd]) ?_
      · unfold yAt at ho
        split at ho
        · simp only [Option.some.injEq] at ho; subst ho
          intro h; exact absurd h (by simp [vB])
        · simp at ho
      · rw [it_b]
        have hbr : brokeB tu lw wn = false := by rw [hw]; exact hP
        refine ⟨fun h => absurd h (by simp), fun h => .inr ⟨hbr, rfl, .inl ⟨by simp [wk, vVs, vV], ?_⟩⟩⟩
        have hen : endC tu lw wn = (cntB (mtF G k n k2) m : Int) := by unfold endC; rw [hbr, hw]; rfl
        rw [hen]; rfl
end Go.Am
