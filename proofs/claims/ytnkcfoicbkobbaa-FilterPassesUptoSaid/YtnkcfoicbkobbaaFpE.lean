/-
  Filters: FilterPasses: the law's yield as it is told; a round of Passing's own loop.
-/
import Derived.Test.YtnkcfoicbkobbaaFpD
namespace Go.Am
open Go.Proofs
set_option maxRecDepth 100000
def brkU : List AV → Bool := fun xs => match xs with
  | [.int _ tu, .int _ lw, .int _ c] => brkB tu lw c.toNat
  | _ => false
def yU (G : Nat → List AV) : List AV → Bool := fun xs => match xs with
  | [.int _ x, .int _ pn, .int _ c, .int _ wn, .int _ gw, .int _ k2, .int _ m, .agg l, .agg rd] =>
    ((decide (0 ≤ c) && (decide (c < wn) && decide (wn ≤ 40))) && (isI .i64 (G gw.toNat) c.toNat && (getI (G gw.toNat) c.toNat == x))) && ((decide (0 ≤ x) && (decide (x < m) && pksB G (G k2.toNat) m.toNat)) && ((pn == (roN (G k2.toNat) x.toNat : Int)) && (sameVs l (subL (G (roK (G k2.toNat) x.toNat)) 0 pn.toNat) && bnds 13 rd)))
  | _ => false
def yLaw (G : Nat → List AV) (rq : List AV → Bool) (r7 : List AV) : DYsum := fun i args H => match Nat.beq i 8 with
  | true => match args, H with
    | [.int .i64 x, .slice true (.rw 12) (.lit 0) pn], [some ⟨1, .of [.slice true (.ro k2) (.lit 0) m]⟩, some ⟨1, .of [.int .i64 lw]⟩, some ⟨1, .of [.bool (.lit false)]⟩, some ⟨1, .of [.slice true (.ro gw) (.lit 0) wn]⟩, some ⟨1, .of [.slice true (.ro k) (.lit 0) n]⟩, some ⟨1, .of [.slice true (.ro g) (.lit 0) m']⟩,
       some ⟨1, .of [.int .i64 tu]⟩, some ⟨1, .of [.int .i64 c]⟩, some ⟨4294967291, rc⟩, some ⟨1, .of [.yld 8]⟩, some ⟨1, .of [.slice true (.ro g') (.lit 0) m2]⟩, some ⟨4294967291, rd⟩, some ⟨1, l⟩] =>
      some (.chk (.eqN m m') (.chk (.eqN m m2) (.chk (.eqN g g') (.chk (.uf 1400 rq [.agg rc]) (.chk (.uf 1690 (yU G) [.int .i64 x, .int .i64 (.ofN pn), .int .i64 c, .int .i64 (.ofN wn), .int .i64 (.ofN gw), .int .i64 (.ofN k2), .int .i64 (.ofN m), .agg l, .agg rd])
        (.tst (.uf 1691 brkU [.int .i64 tu, .int .i64 lw, .int .i64 c])
          (.one (.bool (.lit false)) [.set 7 ⟨1, .of [.int .i64 (.bin .add .i64 c (.lit 1))]⟩, .set 8 ⟨4294967291, .var 26 r7⟩, .set 12 ⟨1, .rep pn (.of [.int .u8 (.lit 99)])⟩])
          (.one (.bool (.lit true)) [.set 7 ⟨1, .of [.int .i64 (.bin .add .i64 c (.lit 1))]⟩, .set 12 ⟨1, .rep pn (.of [.int .u8 (.lit 99)])⟩])))))))
    | _, _ => none
  | false => none
theorem yLaw_ok (G : Nat → List AV) (B : Nat) : DYsumOk (⟨Try.prog, G, B⟩ : Ctx) (yLaw G (isRc (rcY 0)) (rcY 7)) := by
  intro i args H oo ho
  unfold yLaw at ho
  split at ho
  · rename_i hi8
    have := Nat.eq_of_beq_eq_true hi8
    subst this
    split at ho
    · rename_i x pn k2 m lw gw wn k n g m' tu c rc g' m2 rd l
      simp only [Option.some.injEq] at ho
      subst ho
      intro h1 h2 h3 h4 h5
      have h1 : vN G m = vN G m' := Nat.eq_of_beq_eq_true h1
      have h2 : vN G m = vN G m2 := Nat.eq_of_beq_eq_true h2
      have h3 : vN G g = vN G g' := Nat.eq_of_beq_eq_true h3
      have e1 := isRc_iff.1 h4
      have h5 : yU G [.int .i64 (vI G x), .int .i64 (vN G pn : Int), .int .i64 (vI G c), .int .i64 (vN G wn : Int), .int .i64 (vN G gw : Int), .int .i64 (vN G k2 : Int), .int .i64 (vN G m : Int), .agg (vL G l), .agg (vL G rd)] = true := h5
      simp only [yU, Bool.and_eq_true, decide_eq_true_eq, Int.toNat_natCast, beq_iff_eq] at h5
      obtain ⟨⟨⟨a1, a2, a3⟩, a4, a5⟩, ⟨a6, a7, a8⟩, a9, a10, a11⟩ := h5
      obtain ⟨cn, hcn⟩ := Int.eq_ofNat_of_zero_le a1
      obtain ⟨xn, hxn⟩ := Int.eq_ofNat_of_zero_le a6
      rw [hcn] at a2 a4 a5
      rw [hxn] at a5 a7 a9 a10
      simp only [Int.toNat_natCast] at a4 a5 a9 a10
      have key := y_law G B (vN G k2) (vN G m) (vN G gw) (vN G wn) (vN G k) (vN G n) (vN G g) xn cn (vN G pn) (vI G lw) (vI G tu) (vL G rd) (vL G l) a11 (by omega) (by omega) a4 a5 (by omega) a8 (by omega) (sameVs_eq _ _ a10)
      have wr : binI .add .i64 (vI G c) 1 = (cn : Int) + 1 := by rw [hcn]; exact i64_in (by omega)
      refine ⟨fun hb => ?_, fun hb => ?_⟩
      · have hb : brkB (vI G tu) (vI G lw) cn = true := by
          have hb : brkB (vI G tu) (vI G lw) (vI G c).toNat = true := hb
          rw [hcn] at hb; exact hb
        rw [hb] at key
        unfold DYld
        simp only [vVs, vV, HYd, vHp, List.map_cons, List.map_nil, Option.map_some, vBlk, vL, vR, vN, vI, vB, ← e1, ← h1, ← h2, ← h3, hxn, hcn] at key ⊢
        refine key.mono ?_
        rintro v H' ⟨rfl, rfl⟩
        refine ⟨rfl, ?_⟩
        simp only [List.map_cons, List.map_nil, acts, vHop, Hop.act, List.foldl, vBlk, vL, vVs, vV, vI, vN, ← hcn, wr]
        rw [hcn]
        rfl
      · have hb : brkB (vI G tu) (vI G lw) cn = false := by
          have hb : brkB (vI G tu) (vI G lw) (vI G c).toNat = false := hb
          rw [hcn] at hb; exact hb
        rw [hb] at key
        unfold DYld
        simp only [vVs, vV, HYd, vHp, List.map_cons, List.map_nil, Option.map_some, vBlk, vL, vR, vN, vI, vB, ← e1, ← h1, ← h2, ← h3, hxn, hcn] at key ⊢
        refine key.mono ?_
        rintro v H' ⟨rfl, rfl⟩
        refine ⟨rfl, ?_⟩
        simp only [List.map_cons, List.map_nil, acts, vHop, Hop.act, List.foldl, vBlk, vL, vVs, vV, vI, vN, ← hcn, wr]
        rw [hcn, show vL G rc = rcY 0 from e1]
        rfl
    · simp at ho
  · simp at ho
/-- a clone of its own -/
theorem cl36w (G : Nat → List AV) (B : Nat) (k n : Nat) (hn : n ≤ 1048576) (hc : clC 1 (G k) n = true) : ACalls (⟨Try.prog, G, B⟩ : Ctx) 36 [.slice true (.ro k) 0 n] [] fun v H' => v = .slice true (.rw 0) 0 n ∧ H' = [some ⟨1, subL (G k) 0 n⟩] := by
  have flat : bnds 0 (subL (G k) 0 n) = true := by
    rcases clC_iff.1 hc with rfl | ⟨h1, _, _, h4⟩
    · simp [subL, bnds]
    · rw [Nat.mul_one] at h1; rw [subL_whole h1]; exact h4
  refine ACalls.mbe (fun e0 => ?_) ?_
  · subst e0
    have h1 := dcall_ok (C := (⟨Try.prog, G, B⟩ : Ctx)) (fuel := 300) (n0 := 20) (f := 36) (fn := Try.f36) (args := [.nils]) (H := []) (keep := 0) (R := fun v _ => v = .nils) (by rw [show loopsOf (bodyOf Try.f36) = [] by kernel_rfl]; exact dgF G B) (by kernel_rfl) (by kernel_rfl) (by kernel_rfl) (by
      rw [t36n G k])
    have h2 : ACalls (⟨Try.prog, G, B⟩ : Ctx) 36 [.nils] [] fun v H' => v = .nils ∧ H' = [] := (h1.monoK fun v H' h => ⟨h, H', rfl⟩).trim rfl rfl (by simp)
    exact (h2.nilNew 1).monoK fun v H' ⟨q1, q2⟩ => ⟨q1, by rw [q2]; simp [subL]⟩
  · have h1 := dcall_ok (C := (⟨Try.prog, G, B⟩ : Ctx)) (fuel := 300) (n0 := 20) (f := 36) (fn := Try.f36) (args := [.slice false (.ro (.var 1 k)) (.lit 0) (.var 2 n)]) (H := []) (keep := 2)
      (R := fun v H => v = .slice false (.rw 1) 0 n ∧ H = [none, some ⟨1, subL (G k) 0 n⟩]) (by rw [show loopsOf (bodyOf Try.f36) = [] by kernel_rfl]; exact dgF G B) (by kernel_rfl) (by kernel_rfl) (by kernel_rfl) (by
      rw [t36]
      rcases clC_iff.1 hc with rfl | ⟨h1, h2, _, _⟩
      · exact ⟨leB_iff.2 (Nat.zero_le _), rfl, leB_iff.2 (by omega), rfl, rfl⟩
      · rw [Nat.mul_one] at h1
        exact ⟨leB_iff.2 (show n ≤ (G k).length by omega), by rw [subL_whole h1]; exact h2, leB_iff.2 (by omega), rfl, rfl⟩)
    have h2 : ACalls (⟨Try.prog, G, B⟩ : Ctx) 36 [.slice false (.ro k) 0 n] [] fun v H' => v = .slice false (.rw 0) 0 n ∧ H' = [some ⟨1, subL (G k) 0 n⟩] :=
      ACalls.one h1 flat (by simp [bnd]) (fun j => by simp [ren]) fun v H' ⟨q1, q2⟩ => .inl ⟨1, by have := take_atF q2 (j := 1) (by omega); simpa using this, by rw [q1]; simp [ren]⟩
    exact h2.conv fun v H' ⟨q1, q2⟩ => ⟨_, ⟨rfl, q2⟩, fun ρ cv hv => by subst q1; exact VR_may hv⟩
def clW (G : Nat → List AV) : DSum := fun args H => match args with
  | [.slice true (.ro k) (.lit 0) n] => some (.chk (.leN n (.lit 1048576)) (.chk (.uf 1683 (clU 1 G) [.int .i64 (.ofN k), .int .i64 (.ofN n)]) (.one (.slice true (.rw H.length) (.lit 0) n) [.new ⟨1, .sub (.ro k) (.lit 0) n⟩])))
  | _ => none
theorem clW_ok (G : Nat → List AV) (B : Nat) : DSumOk (⟨Try.prog, G, B⟩ : Ctx) 36 (clW G) := by
  intro args H o ho
  unfold clW at ho
  split at ho
  · rename_i k n
    simp only [Option.some.injEq] at ho
    subst ho
    intro h2 h3
    have h2 : vN G n ≤ 1048576 := leB_iff.1 h2
    have h3 : clC 1 (G (vN G k)) (vN G n) = true := h3
    have flat : bnds 0 (subL (G (vN G k)) 0 (vN G n)) = true := by
      rcases clC_iff.1 h3 with e | ⟨h1, _, _, h4⟩
      · rw [e]; simp [subL, bnds]
      · rw [Nat.mul_one] at h1; rw [subL_whole h1]; exact h4
    refine DOut.fr (C := (⟨Try.prog, G, B⟩ : Ctx)) (θ := []) (H0 := []) (by simp) rfl (fun i b hb => by simp at hb) (args0 := [.slice true (.ro (vN G k)) 0 (vN G n)]) rfl rfl (cl36w G B (vN G k) (vN G n) h2 h3) (by simp) rfl (by simp [hpB, bnds_mono (Nat.zero_le _) _ flat]) ?_ ?_
    · simp only [vV, vR, vN, ren, wide, List.length_cons, List.length_nil, Nat.sub_zero, List.nil_append]
      simp
    · simp [acts, merge, lay, vHop, Hop.act, vBlk, vL, vN, renO, renB, rens_flat _ _ flat]
  · simp at ho
def mtU (G : Nat → List AV) : List AV → Bool := fun xs => match xs with
  | [.int _ k, .int _ n, .int _ r, .int _ pn] => matchB (G k.toNat) n.toNat (G r.toNat) pn.toNat
  | _ => false
def HZd (k2 m gw wn k n g : EN) (lw tu c : EI) (rc rd : EL) : DHp :=
  [some ⟨1, .of [.slice true (.ro k2) (.lit 0) m]⟩, some ⟨1, .of [.int .i64 lw]⟩, some ⟨1, .of [.bool (.lit false)]⟩, some ⟨1, .of [.slice true (.ro gw) (.lit 0) wn]⟩, some ⟨1, .of [.slice true (.ro k) (.lit 0) n]⟩, some ⟨1, .of [.slice true (.ro g) (.lit 0) m]⟩,
   some ⟨1, .of [.int .i64 tu]⟩, some ⟨1, .of [.int .i64 c]⟩, some ⟨4294967291, rc⟩, some ⟨1, .of [.yld 8]⟩, some ⟨1, .of [.slice true (.ro g) (.lit 0) m]⟩, some ⟨4294967291, rd⟩]
theorem z_as (G : Nat → List AV) (rq : List AV → Bool) (k2 m gw wn k n g r pn : Nat) (lw tu c x : Int) (r7 rc rd : List AV) (Q : Ex → List AV → Hp → Prop) (R : AV → Hp → Prop) : vT G Q R (dloop (Dr Try.prog [] [(11, matchS), (36, clW G)] [] [] (yLaw G rq r7) 12) 300 20 12 (rgA (loopN Try.f37 0)) 21 [1, 2, 3, 7, 8, 9, 4, 5] [.ptr (.rw 5) (.lit 0), .ptr (.rw 4) (.lit 0), .ptr (.rw 9) (.lit 0), .func 43 [.ptr (.rw 10) (.lit 0)], .int .i64 (.var 15 x), .slice true (.ro (.var 17 r)) (.lit 0) (.var 16 pn), .undef, .undef] (HZd (.var 3 k2) (.var 4 m) (.var 10 gw) (.var 12 wn) (.var 1 k) (.var 2 n) (.var 9 g) (.var 11 lw) (.var 13 tu) (.var 14 c) (.var 24 rc) (.var 25 rd))) = (
    Q .normal [.ptr (.rw 5) (0), .ptr (.rw 4) (0), .ptr (.rw 9) (0), .func 43 [.ptr (.rw 10) (0)], .int .i64 (x), .slice true (.ro (r)) (0) (pn), .int .i64 (x), .slice true (.ro (r)) (0) (pn)] [some ⟨1, ([.slice true (.ro (k2)) (0) (m)] : List AV)⟩, some ⟨1, ([.int .i64 (lw)] : List AV)⟩, some ⟨1, ([.bool (false)] : List AV)⟩, some ⟨1, ([.slice true (.ro (gw)) (0) (wn)] : List AV)⟩, some ⟨1, ([.slice true (.ro (k)) (0) (n)] : List AV)⟩, some ⟨1, ([.slice true (.ro (g)) (0) (m)] : List AV)⟩, some ⟨1, ([.int .i64 (tu)] : List AV)⟩, some ⟨1, ([.int .i64 (c)] : List AV)⟩, some ⟨4294967291, rc⟩, some ⟨1, ([.yld 8] : List AV)⟩, some ⟨1, ([.slice true (.ro (g)) (0) (m)] : List AV)⟩, some ⟨4294967291, rd⟩]) := by kernel_rfl
theorem z_bd (G : Nat → List AV) (rq : List AV → Bool) (k2 m gw wn k n g r pn : Nat) (lw tu c x : Int) (r7 rc rd : List AV) (Q : Ex → List AV → Hp → Prop) (R : AV → Hp → Prop) : vT G Q R (dloop (Dr Try.prog [] [(11, matchS), (36, clW G)] [] [] (yLaw G rq r7) 12) 300 20 12 (rgB (loopN Try.f37 0)) 21 [1, 2, 3, 7, 8, 9, 4, 5] [.ptr (.rw 5) (.lit 0), .ptr (.rw 4) (.lit 0), .ptr (.rw 9) (.lit 0), .func 43 [.ptr (.rw 10) (.lit 0)], .int .i64 (.var 15 x), .slice true (.ro (.var 17 r)) (.lit 0) (.var 16 pn), .int .i64 (.var 15 x), .slice true (.ro (.var 17 r)) (.lit 0) (.var 16 pn)] (HZd (.var 3 k2) (.var 4 m) (.var 10 gw) (.var 12 wn) (.var 1 k) (.var 2 n) (.var 9 g) (.var 11 lw) (.var 13 tu) (.var 14 c) (.var 24 rc) (.var 25 rd))) = (
    rowsU [.agg (G (k)), .int .i64 (((n : Nat) : Int))] = true ∧
    bytesU [.agg (G (r)), .int .i64 (((pn : Nat) : Int))] = true ∧
    (matchU [.agg (G (k)), .int .i64 (((n : Nat) : Int)), .agg (G (r)), .int .i64 (((pn : Nat) : Int))] = true →
      leB (pn) (1048576) = true ∧
      (clU 1 G) [.int .i64 (((r : Nat) : Int)), .int .i64 (((pn : Nat) : Int))] = true ∧
      Nat.beq (m) (m) = true ∧
      Nat.beq (m) (m) = true ∧
      Nat.beq (g) (g) = true ∧
      rq [.agg rc] = true ∧
      (yU G) [.int .i64 (x), .int .i64 (((pn : Nat) : Int)), .int .i64 (c), .int .i64 (((wn : Nat) : Int)), .int .i64 (((gw : Nat) : Int)), .int .i64 (((k2 : Nat) : Int)), .int .i64 (((m : Nat) : Int)), .agg (subL (G (r)) (0) (pn)), .agg rd] = true ∧
      (brkU [.int .i64 (tu), .int .i64 (lw), .int .i64 (c)] = true →
        Q .ret [.ptr (.rw 5) (0), .ptr (.rw 4) (0), .ptr (.rw 9) (0), .func 43 [.ptr (.rw 10) (0)], .int .i64 (x), .slice true (.ro (r)) (0) (pn), .int .i64 (x), .slice true (.ro (r)) (0) (pn)] [some ⟨1, ([.slice true (.ro (k2)) (0) (m)] : List AV)⟩, some ⟨1, ([.int .i64 (lw)] : List AV)⟩, some ⟨1, ([.bool (false)] : List AV)⟩, some ⟨1, ([.slice true (.ro (gw)) (0) (wn)] : List AV)⟩, some ⟨1, ([.slice true (.ro (k)) (0) (n)] : List AV)⟩, some ⟨1, ([.slice true (.ro (g)) (0) (m)] : List AV)⟩, some ⟨1, ([.int .i64 (tu)] : List AV)⟩, some ⟨1, ([.int .i64 (IntKind.wrap .i64 (c + 1))] : List AV)⟩, some ⟨4294967291, r7⟩, some ⟨1, ([.yld 8] : List AV)⟩, some ⟨1, ([.slice true (.ro (g)) (0) (m)] : List AV)⟩, some ⟨4294967291, rd⟩, some ⟨1, (repL (pn) ([.int .u8 (99)] : List AV))⟩]) ∧
      (brkU [.int .i64 (tu), .int .i64 (lw), .int .i64 (c)] = false →
        Q .normal [.ptr (.rw 5) (0), .ptr (.rw 4) (0), .ptr (.rw 9) (0), .func 43 [.ptr (.rw 10) (0)], .int .i64 (x), .slice true (.ro (r)) (0) (pn), .int .i64 (x), .slice true (.ro (r)) (0) (pn)] [some ⟨1, ([.slice true (.ro (k2)) (0) (m)] : List AV)⟩, some ⟨1, ([.int .i64 (lw)] : List AV)⟩, some ⟨1, ([.bool (false)] : List AV)⟩, some ⟨1, ([.slice true (.ro (gw)) (0) (wn)] : List AV)⟩, some ⟨1, ([.slice true (.ro (k)) (0) (n)] : List AV)⟩, some ⟨1, ([.slice true (.ro (g)) (0) (m)] : List AV)⟩, some ⟨1, ([.int .i64 (tu)] : List AV)⟩, some ⟨1, ([.int .i64 (IntKind.wrap .i64 (c + 1))] : List AV)⟩, some ⟨4294967291, rc⟩, some ⟨1, ([.yld 8] : List AV)⟩, some ⟨1, ([.slice true (.ro (g)) (0) (m)] : List AV)⟩, some ⟨4294967291, rd⟩, some ⟨1, (repL (pn) ([.int .u8 (99)] : List AV))⟩])) ∧
    (matchU [.agg (G (k)), .int .i64 (((n : Nat) : Int)), .agg (G (r)), .int .i64 (((pn : Nat) : Int))] = false →
      Q .normal [.ptr (.rw 5) (0), .ptr (.rw 4) (0), .ptr (.rw 9) (0), .func 43 [.ptr (.rw 10) (0)], .int .i64 (x), .slice true (.ro (r)) (0) (pn), .int .i64 (x), .slice true (.ro (r)) (0) (pn)] [some ⟨1, ([.slice true (.ro (k2)) (0) (m)] : List AV)⟩, some ⟨1, ([.int .i64 (lw)] : List AV)⟩, some ⟨1, ([.bool (false)] : List AV)⟩, some ⟨1, ([.slice true (.ro (gw)) (0) (wn)] : List AV)⟩, some ⟨1, ([.slice true (.ro (k)) (0) (n)] : List AV)⟩, some ⟨1, ([.slice true (.ro (g)) (0) (m)] : List AV)⟩, some ⟨1, ([.int .i64 (tu)] : List AV)⟩, some ⟨1, ([.int .i64 (c)] : List AV)⟩, some ⟨4294967291, rc⟩, some ⟨1, ([.yld 8] : List AV)⟩, some ⟨1, ([.slice true (.ro (g)) (0) (m)] : List AV)⟩, some ⟨4294967291, rd⟩])) := by kernel_rfl
end Go.Am
