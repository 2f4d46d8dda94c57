/-
  SlicesApart: what the two tables have in common; the loops.
-/
import Derived.Test.YtfalglcagngbnaaSlF
import Derived.Test.YtfalglcagngbnaaSlH
import Derived.Test.YtfalglcagngbnaaProg
namespace Go.Am
open Go.Proofs
set_option maxRecDepth 100000
theorem dgA (G : Nat → List AV) (B : Nat) : DGood (⟨Try.prog, G, B⟩ : Ctx) (Dc Try.prog [9, 16] progT [] 0) [] := dgood (mix G B) (by kernel_rfl) (progT_ok G B) .nil
theorem kAnd_le (x : Int) {m : Int} (h0 : 0 ≤ m) (h1 : m < 1000) : 0 ≤ kAnd .i64 x m ∧ kAnd .i64 x m ≤ m := by
  unfold kAnd
  have e : (BitVec.ofInt IntKind.i64.bits x &&& BitVec.ofInt IntKind.i64.bits m).toNat ≤ m.toNat := by
    rw [BitVec.toNat_and]
    refine Nat.le_trans Nat.and_le_right ?_
    rw [BitVec.toNat_ofInt]
    have : (2 ^ IntKind.i64.bits : Nat) = 18446744073709551616 := by rfl
    rw [this]
    omega
  rw [i64_in (by omega)]
  omega
/-- two tables that the account 0 can't tell apart -/
def Ja (cs ds : List AV) : Prop :=
  okT cs = true ∧ okT ds = true ∧ (∀ i, i < 8 → (sO cs i = true ∧ sO ds i = true) ∧ sA cs i = ((i / 4 : Nat) : Int) ∧ sA ds i = ((i / 4 : Nat) : Int)) ∧
  (∀ i, i < 4 → (sG cs i = sG ds i ∧ sG cs i < 4) ∧ sP cs i = sP ds i ∧ sR cs i = sR ds i) ∧ (∀ i, i < 8 → 4 ≤ i → sG cs i < 0 ∨ (4 ≤ sG cs i ∧ sG cs i < 8))
theorem giveR_f {cs : List AV} (hs : okS cs = true) {a b : Int} {o : Nat} (h : o ≠ a.toNat * 7 + 35) : getI (giveR cs a b) o = getI cs o := by
  rw [giveR_I hs, if_neg (fun q => h q.2)]
theorem giveR_G {cs : List AV} (hs : okS cs = true) (a b : Int) (i : Nat) : sG (giveR cs a b) i = if gives cs a b = true ∧ i = a.toNat then (if a == b then -1 else b) else sG cs i := by
  unfold sG
  rw [giveR_I hs]
  by_cases hc : i = a.toNat
  · subst hc
    simp
  · rw [if_neg (fun q => hc (by omega)), if_neg (fun q => hc q.2)]
section
variable {cs ds : List AV} (hJ : Ja cs ds)
include hJ
theorem Ja_isO {a : Int} (h0 : 0 ≤ a) (h1 : a < 8) : isO cs a = true ∧ isO ds a = true := by
  have := (hJ.2.2.1 a.toNat (by omega)).1
  exact ⟨isO_iff.2 ⟨h0, by omega, this.1⟩, isO_iff.2 ⟨h0, by omega, this.2⟩⟩
theorem Ja_gives {a b : Int} (h0 : 0 ≤ a) (h1 : a < 8) (h2 : 0 ≤ b) (h3 : b < 8) : gives cs a b = decide (a.toNat / 4 = b.toNat / 4) ∧ gives ds a b = decide (a.toNat / 4 = b.toNat / 4) := by
  have ea := hJ.2.2.1 a.toNat (by omega)
  have eb := hJ.2.2.1 b.toNat (by omega)
  have oa := Ja_isO hJ h0 h1
  have ob := Ja_isO hJ h2 h3
  unfold gives
  rw [oa.1, oa.2, ob.1, ob.2]
  simp only [Bool.true_and]
  have e1 : getI cs (a.toNat * 7 + 34) = ((a.toNat / 4 : Nat) : Int) := ea.2.1
  have e2 : getI cs (b.toNat * 7 + 34) = ((b.toNat / 4 : Nat) : Int) := eb.2.1
  have e3 : getI ds (a.toNat * 7 + 34) = ((a.toNat / 4 : Nat) : Int) := ea.2.2
  have e4 : getI ds (b.toNat * 7 + 34) = ((b.toNat / 4 : Nat) : Int) := eb.2.2
  rw [e1, e2, e3, e4]
  have : ((((a.toNat / 4 : Nat) : Int)) == ((b.toNat / 4 : Nat) : Int)) = decide (a.toNat / 4 = b.toNat / 4) := by
    by_cases h : a.toNat / 4 = b.toNat / 4
    · rw [h]; simp
    · rw [decide_eq_false h]; simp; omega
  exact ⟨this, this⟩
theorem Ja_give4 {a b : Int} (h0 : 4 ≤ a) (h1 : a < 8) (h2 : 0 ≤ b) (h3 : b < 8) : Ja (giveR cs a b) ds := by
  have hg := (Ja_gives hJ (by omega) h1 h2 h3).1
  obtain ⟨t1, t2, hA, hB, hC⟩ := hJ
  have hs := (okT_iff.1 t1).1
  refine ⟨okT_giveR t1 a b, t2, fun i hi => ?_, fun i hi => ?_, fun i hi h4 => ?_⟩
  · have := hA i hi
    refine ⟨⟨?_, this.1.2⟩, ?_, this.2.2⟩
    · rw [giveR_O hs a b i (by omega)]; exact this.1.1
    · have e : sA (giveR cs a b) i = sA cs i := giveR_f hs (by omega)
      rw [e]; exact this.2.1
  · have := hB i hi
    have e1 : sG (giveR cs a b) i = sG cs i := by rw [giveR_G hs, if_neg (by omega)]
    have e2 : sP (giveR cs a b) i = sP cs i := giveR_f hs (by omega)
    have e3 : sR (giveR cs a b) i = sR cs i := giveR_f hs (by omega)
    rw [e1, e2, e3]; exact this
  · rw [giveR_G hs]
    split
    · rename_i hc
      rw [hg] at hc
      have := of_decide_eq_true hc.1
      split <;> omega
    · exact hC i hi h4
theorem Ja_pick4 {a : Int} (h0 : 4 ≤ a) (h1 : a < 8) : Ja (pickR cs a) ds := by
  have ha := (Ja_isO hJ (a := a) (by omega) h1).1
  obtain ⟨t1, t2, hA, hB, hC⟩ := hJ
  have hr : 4 ≤ rn cs a.toNat ∧ rn cs a.toNat < 8 := by
    have := hC a.toNat (by omega) (by omega)
    unfold rn
    split
    · rename_i h; have := of_decide_eq_true h; omega
    · omega
  refine ⟨okT_pickR t1 a, t2, fun i hi => ?_, fun i hi => ?_, fun i hi h4 => ?_⟩
  · have := hA i hi
    rw [pickR_O t1 ha i (by omega), pickR_A t1 ha i (by omega)]
    exact this
  · have := hB i hi
    rw [pickR_G t1 ha i (by omega), if_neg (by omega), pickR_P t1 ha i (by omega), if_neg (by omega), pickR_R t1 ha i (by omega), if_neg (by omega)]
    exact this
  · rw [pickR_G t1 ha i (by omega)]
    split
    · omega
    · exact hC i hi h4
theorem Ja_give {a b : Int} (h0 : 0 ≤ a) (h1 : a < 4) (h2 : 0 ≤ b) (h3 : b < 8) : giveE cs a b = giveE ds a b ∧ Ja (giveR cs a b) (giveR ds a b) := by
  obtain ⟨g1, g2⟩ := Ja_gives hJ h0 (by omega) h2 h3
  have oa := Ja_isO hJ h0 (a := a) (by omega)
  have ob := Ja_isO hJ h2 h3
  refine ⟨by unfold giveE; rw [g1, g2, oa.1, oa.2, ob.1, ob.2], ?_⟩
  obtain ⟨t1, t2, hA, hB, hC⟩ := hJ
  have hs := (okT_iff.1 t1).1
  have hs' := (okT_iff.1 t2).1
  refine ⟨okT_giveR t1 a b, okT_giveR t2 a b, fun i hi => ?_, fun i hi => ?_, fun i hi h4 => ?_⟩
  · have := hA i hi
    rw [giveR_O hs a b i (by omega), giveR_O hs' a b i (by omega)]
    have e : sA (giveR cs a b) i = sA cs i := giveR_f hs (by omega)
    have e' : sA (giveR ds a b) i = sA ds i := giveR_f hs' (by omega)
    rw [e, e']; exact this
  · have := hB i hi
    have e2 : sP (giveR cs a b) i = sP cs i := giveR_f hs (by omega)
    have e3 : sR (giveR cs a b) i = sR cs i := giveR_f hs (by omega)
    have e2' : sP (giveR ds a b) i = sP ds i := giveR_f hs' (by omega)
    have e3' : sR (giveR ds a b) i = sR ds i := giveR_f hs' (by omega)
    rw [e2, e3, e2', e3', giveR_G hs, giveR_G hs', g1, g2]
    refine ⟨?_, this.2⟩
    split
    · rename_i hc
      have := of_decide_eq_true hc.1
      refine ⟨rfl, ?_⟩
      split <;> omega
    · exact this.1
  · rw [giveR_G hs, if_neg (by omega)]
    exact hC i hi h4
theorem Ja_pick {a : Int} (h0 : 0 ≤ a) (h1 : a < 4) : (pickN cs a = pickN ds a ∧ pickE cs a = 0 ∧ pickE ds a = 0 ∧ pickN cs a ≤ 3) ∧ Ja (pickR cs a) (pickR ds a) := by
  obtain ⟨ha, hd⟩ := Ja_isO hJ (a := a) (by omega) (by omega)
  obtain ⟨t1, t2, hA, hB, hC⟩ := hJ
  have hs := (okT_iff.1 t1).1
  have hs' := (okT_iff.1 t2).1
  have hn : a.toNat < 32 := by omega
  have hBa := hB a.toNat (by omega)
  have er : rn cs a.toNat = rn ds a.toNat := by unfold rn; rw [hBa.1.1]
  have hr : rn cs a.toNat < 4 := by
    unfold rn
    split
    · rename_i h; have := of_decide_eq_true h; omega
    · omega
  have p1 : pkG cs a.toNat = sG cs a.toNat := pkG_eq hs hn
  have p2 : pkG ds a.toNat = sG ds a.toNat := pkG_eq hs' hn
  refine ⟨⟨?_, by unfold pickE; rw [ha]; rfl, by unfold pickE; rw [hd]; rfl, ?_⟩, okT_pickR t1 a, okT_pickR t2 a, fun i hi => ?_, fun i hi => ?_, fun i hi h4 => ?_⟩
  · unfold pickN; rw [ha, hd, p1, p2, hBa.1.1]
  · unfold pickN
    rw [ha, p1, if_pos rfl]
    split <;> omega
  · have := hA i hi
    rw [pickR_O t1 ha i (by omega), pickR_A t1 ha i (by omega), pickR_O t2 hd i (by omega), pickR_A t2 hd i (by omega)]
    exact this
  · have := hB i hi
    rw [pickR_G t1 ha i (by omega), pickR_P t1 ha i (by omega), pickR_R t1 ha i (by omega), pickR_G t2 hd i (by omega), pickR_P t2 hd i (by omega), pickR_R t2 hd i (by omega), ← er, hBa.1.1, this.2.1, this.2.2]
    refine ⟨?_, rfl, rfl⟩
    split
    · omega
    · exact this.1
  · rw [pickR_G t1 ha i (by omega), if_neg (by omega)]
    exact hC i hi h4
end
theorem ap_b0 (G : Nat → List AV) (cs ds : List AV) (k n k2 n2 : Nat) (i : Int) (Q : Ex → List AV → Hp → Prop) (R : AV → Hp → Prop) : vT G Q R (dloop (Dc Try.prog [9, 16] progT [] 0) 300 20 0 (loopN Try.f5 0) 167 [0, 1, 5, 6, 7] [.slice true (.ro (.var 1 k)) (.lit 0) (.var 2 n), .slice true (.ro (.var 3 k2)) (.lit 0) (.var 4 n2), .ptr (.rw 0) (.lit 0), .ptr (.rw 1) (.lit 0), .int .i64 (.var 6 i)] [some ⟨1, .var 8 cs⟩, some ⟨1, .var 9 ds⟩]) = (
    (decide ((i : Int) < 8) = true →
      okSU [.agg cs] = true ∧
      okSU [.agg ds] = true ∧
      Q .normal [.slice true (.ro (k)) (0) (n), .slice true (.ro (k2)) (0) (n2), .ptr (.rw 0) (0), .ptr (.rw 1) (0), .int .i64 (IntKind.wrap .i64 (i + 1))] [some ⟨1, (openRU [.agg cs, .int .i64 (IntKind.wrap .i64 (Int.tdiv (i) (4)))])⟩, some ⟨1, (openRU [.agg ds, .int .i64 (IntKind.wrap .i64 (Int.tdiv (i) (4)))])⟩]) ∧
    (decide ((i : Int) < 8) = false →
      Q (.exit 0) [.slice true (.ro (k)) (0) (n), .slice true (.ro (k2)) (0) (n2), .ptr (.rw 0) (0), .ptr (.rw 1) (0), .int .i64 (i)] [some ⟨1, cs⟩, some ⟨1, ds⟩])) := by kernel_rfl
theorem ap_b2 (G : Nat → List AV) (cs ds : List AV) (k n k2 n2 : Nat) (i : Int) (Q : Ex → List AV → Hp → Prop) (R : AV → Hp → Prop) : vT G Q R (dloop (Dc Try.prog [9, 16] progT [] 0) 600 20 0 (loopN Try.f5 1) 167 [0, 1, 5, 6, 8] [.slice true (.ro (.var 1 k)) (.lit 0) (.var 2 n), .slice true (.ro (.var 3 k2)) (.lit 0) (.var 4 n2), .ptr (.rw 0) (.lit 0), .ptr (.rw 1) (.lit 0), .int .i64 (.var 6 i)] [some ⟨1, .var 8 cs⟩, some ⟨1, .var 9 ds⟩]) = (
    (decide ((i : Int) < 200) = true →
      (decide ((i : Int) < ((n2 : Nat) : Int)) = true →
        decide ((0 : Int) ≤ i) = true ∧
        decide ((i : Int) < ((n2 : Nat) : Int)) = true ∧
        leafsOk (G (k2)) ((Int.toNat (i)) * 3) [.int .i64, .int .i64, .int .i64] = true ∧
        (((getI (G (k2)) ((Int.toNat (i)) * 3) : Int) == 3) = true →
          okSU [.agg cs] = true ∧
          (decide ((i : Int) ≥ ((n : Nat) : Int)) = true →
            Q .normal [.slice true (.ro (k)) (0) (n), .slice true (.ro (k2)) (0) (n2), .ptr (.rw 0) (0), .ptr (.rw 1) (0), .int .i64 (IntKind.wrap .i64 (i + 1))] [some ⟨1, (giveRU [.agg cs, .int .i64 (IntKind.wrap .i64 (4 + kAnd .i64 (getI (G (k2)) ((Int.toNat (i)) * 3 + 1)) (3))), .int .i64 (kAnd .i64 (getI (G (k2)) ((Int.toNat (i)) * 3 + 2)) (7))])⟩, some ⟨1, ds⟩, some ⟨1, ([.int .i64 (getI (G (k2)) ((Int.toNat (i)) * 3)), .int .i64 (getI (G (k2)) ((Int.toNat (i)) * 3 + 1)), .int .i64 (getI (G (k2)) ((Int.toNat (i)) * 3 + 2))] : List AV)⟩]) ∧
          (decide ((i : Int) ≥ ((n : Nat) : Int)) = false →
            decide ((0 : Int) ≤ i) = true ∧
            decide ((i : Int) < ((n : Nat) : Int)) = true ∧
            leafsOk (G (k)) ((Int.toNat (i)) * 3) [.int .i64, .int .i64, .int .i64] = true ∧
            (((getI (G (k)) ((Int.toNat (i)) * 3) : Int) == 3) = true →
              okSU [.agg (giveRU [.agg cs, .int .i64 (IntKind.wrap .i64 (4 + kAnd .i64 (getI (G (k2)) ((Int.toNat (i)) * 3 + 1)) (3))), .int .i64 (kAnd .i64 (getI (G (k2)) ((Int.toNat (i)) * 3 + 2)) (7))])] = true ∧
              okSU [.agg ds] = true ∧
              (((giveEU [.agg (giveRU [.agg cs, .int .i64 (IntKind.wrap .i64 (4 + kAnd .i64 (getI (G (k2)) ((Int.toNat (i)) * 3 + 1)) (3))), .int .i64 (kAnd .i64 (getI (G (k2)) ((Int.toNat (i)) * 3 + 2)) (7))]), .int .i64 (kAnd .i64 (getI (G (k)) ((Int.toNat (i)) * 3 + 1)) (3)), .int .i64 (kAnd .i64 (getI (G (k)) ((Int.toNat (i)) * 3 + 2)) (7))] : Int) == giveEU [.agg ds, .int .i64 (kAnd .i64 (getI (G (k)) ((Int.toNat (i)) * 3 + 1)) (3)), .int .i64 (kAnd .i64 (getI (G (k)) ((Int.toNat (i)) * 3 + 2)) (7))]) = true →
                Q .normal [.slice true (.ro (k)) (0) (n), .slice true (.ro (k2)) (0) (n2), .ptr (.rw 0) (0), .ptr (.rw 1) (0), .int .i64 (IntKind.wrap .i64 (i + 1))] [some ⟨1, (giveRU [.agg (giveRU [.agg cs, .int .i64 (IntKind.wrap .i64 (4 + kAnd .i64 (getI (G (k2)) ((Int.toNat (i)) * 3 + 1)) (3))), .int .i64 (kAnd .i64 (getI (G (k2)) ((Int.toNat (i)) * 3 + 2)) (7))]), .int .i64 (kAnd .i64 (getI (G (k)) ((Int.toNat (i)) * 3 + 1)) (3)), .int .i64 (kAnd .i64 (getI (G (k)) ((Int.toNat (i)) * 3 + 2)) (7))])⟩, some ⟨1, (giveRU [.agg ds, .int .i64 (kAnd .i64 (getI (G (k)) ((Int.toNat (i)) * 3 + 1)) (3)), .int .i64 (kAnd .i64 (getI (G (k)) ((Int.toNat (i)) * 3 + 2)) (7))])⟩, some ⟨1, ([.int .i64 (getI (G (k2)) ((Int.toNat (i)) * 3)), .int .i64 (getI (G (k2)) ((Int.toNat (i)) * 3 + 1)), .int .i64 (getI (G (k2)) ((Int.toNat (i)) * 3 + 2))] : List AV)⟩, some ⟨1, ([.int .i64 (getI (G (k)) ((Int.toNat (i)) * 3)), .int .i64 (getI (G (k)) ((Int.toNat (i)) * 3 + 1)), .int .i64 (getI (G (k)) ((Int.toNat (i)) * 3 + 2))] : List AV)⟩]) ∧
              (((giveEU [.agg (giveRU [.agg cs, .int .i64 (IntKind.wrap .i64 (4 + kAnd .i64 (getI (G (k2)) ((Int.toNat (i)) * 3 + 1)) (3))), .int .i64 (kAnd .i64 (getI (G (k2)) ((Int.toNat (i)) * 3 + 2)) (7))]), .int .i64 (kAnd .i64 (getI (G (k)) ((Int.toNat (i)) * 3 + 1)) (3)), .int .i64 (kAnd .i64 (getI (G (k)) ((Int.toNat (i)) * 3 + 2)) (7))] : Int) == giveEU [.agg ds, .int .i64 (kAnd .i64 (getI (G (k)) ((Int.toNat (i)) * 3 + 1)) (3)), .int .i64 (kAnd .i64 (getI (G (k)) ((Int.toNat (i)) * 3 + 2)) (7))]) = false →
                Q .ret [.slice true (.ro (k)) (0) (n), .slice true (.ro (k2)) (0) (n2), .ptr (.rw 0) (0), .ptr (.rw 1) (0), .int .i64 (i)] [some ⟨1, (giveRU [.agg (giveRU [.agg cs, .int .i64 (IntKind.wrap .i64 (4 + kAnd .i64 (getI (G (k2)) ((Int.toNat (i)) * 3 + 1)) (3))), .int .i64 (kAnd .i64 (getI (G (k2)) ((Int.toNat (i)) * 3 + 2)) (7))]), .int .i64 (kAnd .i64 (getI (G (k)) ((Int.toNat (i)) * 3 + 1)) (3)), .int .i64 (kAnd .i64 (getI (G (k)) ((Int.toNat (i)) * 3 + 2)) (7))])⟩, some ⟨1, (giveRU [.agg ds, .int .i64 (kAnd .i64 (getI (G (k)) ((Int.toNat (i)) * 3 + 1)) (3)), .int .i64 (kAnd .i64 (getI (G (k)) ((Int.toNat (i)) * 3 + 2)) (7))])⟩, some ⟨1, ([.int .i64 (getI (G (k2)) ((Int.toNat (i)) * 3)), .int .i64 (getI (G (k2)) ((Int.toNat (i)) * 3 + 1)), .int .i64 (getI (G (k2)) ((Int.toNat (i)) * 3 + 2))] : List AV)⟩, some ⟨1, ([.int .i64 (getI (G (k)) ((Int.toNat (i)) * 3)), .int .i64 (getI (G (k)) ((Int.toNat (i)) * 3 + 1)), .int .i64 (getI (G (k)) ((Int.toNat (i)) * 3 + 2))] : List AV)⟩])) ∧
            (((getI (G (k)) ((Int.toNat (i)) * 3) : Int) == 3) = false →
              (((getI (G (k)) ((Int.toNat (i)) * 3) : Int) == 4) = true →
                okTU [.agg (giveRU [.agg cs, .int .i64 (IntKind.wrap .i64 (4 + kAnd .i64 (getI (G (k2)) ((Int.toNat (i)) * 3 + 1)) (3))), .int .i64 (kAnd .i64 (getI (G (k2)) ((Int.toNat (i)) * 3 + 2)) (7))])] = true ∧
                okTU [.agg ds] = true ∧
                (((pickNU [.agg (giveRU [.agg cs, .int .i64 (IntKind.wrap .i64 (4 + kAnd .i64 (getI (G (k2)) ((Int.toNat (i)) * 3 + 1)) (3))), .int .i64 (kAnd .i64 (getI (G (k2)) ((Int.toNat (i)) * 3 + 2)) (7))]), .int .i64 (kAnd .i64 (getI (G (k)) ((Int.toNat (i)) * 3 + 1)) (3))] : Int) == pickNU [.agg ds, .int .i64 (kAnd .i64 (getI (G (k)) ((Int.toNat (i)) * 3 + 1)) (3))]) = true →
                  (((pickEU [.agg (giveRU [.agg cs, .int .i64 (IntKind.wrap .i64 (4 + kAnd .i64 (getI (G (k2)) ((Int.toNat (i)) * 3 + 1)) (3))), .int .i64 (kAnd .i64 (getI (G (k2)) ((Int.toNat (i)) * 3 + 2)) (7))]), .int .i64 (kAnd .i64 (getI (G (k)) ((Int.toNat (i)) * 3 + 1)) (3))] : Int) == pickEU [.agg ds, .int .i64 (kAnd .i64 (getI (G (k)) ((Int.toNat (i)) * 3 + 1)) (3))]) = true →
                    (decide ((pickNU [.agg (giveRU [.agg cs, .int .i64 (IntKind.wrap .i64 (4 + kAnd .i64 (getI (G (k2)) ((Int.toNat (i)) * 3 + 1)) (3))), .int .i64 (kAnd .i64 (getI (G (k2)) ((Int.toNat (i)) * 3 + 2)) (7))]), .int .i64 (kAnd .i64 (getI (G (k)) ((Int.toNat (i)) * 3 + 1)) (3))] : Int) > 3) = true →
                      Q .ret [.slice true (.ro (k)) (0) (n), .slice true (.ro (k2)) (0) (n2), .ptr (.rw 0) (0), .ptr (.rw 1) (0), .int .i64 (i)] [some ⟨1, (pickRU [.agg (giveRU [.agg cs, .int .i64 (IntKind.wrap .i64 (4 + kAnd .i64 (getI (G (k2)) ((Int.toNat (i)) * 3 + 1)) (3))), .int .i64 (kAnd .i64 (getI (G (k2)) ((Int.toNat (i)) * 3 + 2)) (7))]), .int .i64 (kAnd .i64 (getI (G (k)) ((Int.toNat (i)) * 3 + 1)) (3))])⟩, some ⟨1, (pickRU [.agg ds, .int .i64 (kAnd .i64 (getI (G (k)) ((Int.toNat (i)) * 3 + 1)) (3))])⟩, some ⟨1, ([.int .i64 (getI (G (k2)) ((Int.toNat (i)) * 3)), .int .i64 (getI (G (k2)) ((Int.toNat (i)) * 3 + 1)), .int .i64 (getI (G (k2)) ((Int.toNat (i)) * 3 + 2))] : List AV)⟩, some ⟨1, ([.int .i64 (getI (G (k)) ((Int.toNat (i)) * 3)), .int .i64 (getI (G (k)) ((Int.toNat (i)) * 3 + 1)), .int .i64 (getI (G (k)) ((Int.toNat (i)) * 3 + 2))] : List AV)⟩]) ∧
                    (decide ((pickNU [.agg (giveRU [.agg cs, .int .i64 (IntKind.wrap .i64 (4 + kAnd .i64 (getI (G (k2)) ((Int.toNat (i)) * 3 + 1)) (3))), .int .i64 (kAnd .i64 (getI (G (k2)) ((Int.toNat (i)) * 3 + 2)) (7))]), .int .i64 (kAnd .i64 (getI (G (k)) ((Int.toNat (i)) * 3 + 1)) (3))] : Int) > 3) = false →
                      Q .normal [.slice true (.ro (k)) (0) (n), .slice true (.ro (k2)) (0) (n2), .ptr (.rw 0) (0), .ptr (.rw 1) (0), .int .i64 (IntKind.wrap .i64 (i + 1))] [some ⟨1, (pickRU [.agg (giveRU [.agg cs, .int .i64 (IntKind.wrap .i64 (4 + kAnd .i64 (getI (G (k2)) ((Int.toNat (i)) * 3 + 1)) (3))), .int .i64 (kAnd .i64 (getI (G (k2)) ((Int.toNat (i)) * 3 + 2)) (7))]), .int .i64 (kAnd .i64 (getI (G (k)) ((Int.toNat (i)) * 3 + 1)) (3))])⟩, some ⟨1, (pickRU [.agg ds, .int .i64 (kAnd .i64 (getI (G (k)) ((Int.toNat (i)) * 3 + 1)) (3))])⟩, some ⟨1, ([.int .i64 (getI (G (k2)) ((Int.toNat (i)) * 3)), .int .i64 (getI (G (k2)) ((Int.toNat (i)) * 3 + 1)), .int .i64 (getI (G (k2)) ((Int.toNat (i)) * 3 + 2))] : List AV)⟩, some ⟨1, ([.int .i64 (getI (G (k)) ((Int.toNat (i)) * 3)), .int .i64 (getI (G (k)) ((Int.toNat (i)) * 3 + 1)), .int .i64 (getI (G (k)) ((Int.toNat (i)) * 3 + 2))] : List AV)⟩])) ∧
                  (((pickEU [.agg (giveRU [.agg cs, .int .i64 (IntKind.wrap .i64 (4 + kAnd .i64 (getI (G (k2)) ((Int.toNat (i)) * 3 + 1)) (3))), .int .i64 (kAnd .i64 (getI (G (k2)) ((Int.toNat (i)) * 3 + 2)) (7))]), .int .i64 (kAnd .i64 (getI (G (k)) ((Int.toNat (i)) * 3 + 1)) (3))] : Int) == pickEU [.agg ds, .int .i64 (kAnd .i64 (getI (G (k)) ((Int.toNat (i)) * 3 + 1)) (3))]) = false →
                    Q .ret [.slice true (.ro (k)) (0) (n), .slice true (.ro (k2)) (0) (n2), .ptr (.rw 0) (0), .ptr (.rw 1) (0), .int .i64 (i)] [some ⟨1, (pickRU [.agg (giveRU [.agg cs, .int .i64 (IntKind.wrap .i64 (4 + kAnd .i64 (getI (G (k2)) ((Int.toNat (i)) * 3 + 1)) (3))), .int .i64 (kAnd .i64 (getI (G (k2)) ((Int.toNat (i)) * 3 + 2)) (7))]), .int .i64 (kAnd .i64 (getI (G (k)) ((Int.toNat (i)) * 3 + 1)) (3))])⟩, some ⟨1, (pickRU [.agg ds, .int .i64 (kAnd .i64 (getI (G (k)) ((Int.toNat (i)) * 3 + 1)) (3))])⟩, some ⟨1, ([.int .i64 (getI (G (k2)) ((Int.toNat (i)) * 3)), .int .i64 (getI (G (k2)) ((Int.toNat (i)) * 3 + 1)), .int .i64 (getI (G (k2)) ((Int.toNat (i)) * 3 + 2))] : List AV)⟩, some ⟨1, ([.int .i64 (getI (G (k)) ((Int.toNat (i)) * 3)), .int .i64 (getI (G (k)) ((Int.toNat (i)) * 3 + 1)), .int .i64 (getI (G (k)) ((Int.toNat (i)) * 3 + 2))] : List AV)⟩])) ∧
                (((pickNU [.agg (giveRU [.agg cs, .int .i64 (IntKind.wrap .i64 (4 + kAnd .i64 (getI (G (k2)) ((Int.toNat (i)) * 3 + 1)) (3))), .int .i64 (kAnd .i64 (getI (G (k2)) ((Int.toNat (i)) * 3 + 2)) (7))]), .int .i64 (kAnd .i64 (getI (G (k)) ((Int.toNat (i)) * 3 + 1)) (3))] : Int) == pickNU [.agg ds, .int .i64 (kAnd .i64 (getI (G (k)) ((Int.toNat (i)) * 3 + 1)) (3))]) = false →
                  Q .ret [.slice true (.ro (k)) (0) (n), .slice true (.ro (k2)) (0) (n2), .ptr (.rw 0) (0), .ptr (.rw 1) (0), .int .i64 (i)] [some ⟨1, (pickRU [.agg (giveRU [.agg cs, .int .i64 (IntKind.wrap .i64 (4 + kAnd .i64 (getI (G (k2)) ((Int.toNat (i)) * 3 + 1)) (3))), .int .i64 (kAnd .i64 (getI (G (k2)) ((Int.toNat (i)) * 3 + 2)) (7))]), .int .i64 (kAnd .i64 (getI (G (k)) ((Int.toNat (i)) * 3 + 1)) (3))])⟩, some ⟨1, (pickRU [.agg ds, .int .i64 (kAnd .i64 (getI (G (k)) ((Int.toNat (i)) * 3 + 1)) (3))])⟩, some ⟨1, ([.int .i64 (getI (G (k2)) ((Int.toNat (i)) * 3)), .int .i64 (getI (G (k2)) ((Int.toNat (i)) * 3 + 1)), .int .i64 (getI (G (k2)) ((Int.toNat (i)) * 3 + 2))] : List AV)⟩, some ⟨1, ([.int .i64 (getI (G (k)) ((Int.toNat (i)) * 3)), .int .i64 (getI (G (k)) ((Int.toNat (i)) * 3 + 1)), .int .i64 (getI (G (k)) ((Int.toNat (i)) * 3 + 2))] : List AV)⟩])) ∧
              (((getI (G (k)) ((Int.toNat (i)) * 3) : Int) == 4) = false →
                Q .normal [.slice true (.ro (k)) (0) (n), .slice true (.ro (k2)) (0) (n2), .ptr (.rw 0) (0), .ptr (.rw 1) (0), .int .i64 (IntKind.wrap .i64 (i + 1))] [some ⟨1, (giveRU [.agg cs, .int .i64 (IntKind.wrap .i64 (4 + kAnd .i64 (getI (G (k2)) ((Int.toNat (i)) * 3 + 1)) (3))), .int .i64 (kAnd .i64 (getI (G (k2)) ((Int.toNat (i)) * 3 + 2)) (7))])⟩, some ⟨1, ds⟩, some ⟨1, ([.int .i64 (getI (G (k2)) ((Int.toNat (i)) * 3)), .int .i64 (getI (G (k2)) ((Int.toNat (i)) * 3 + 1)), .int .i64 (getI (G (k2)) ((Int.toNat (i)) * 3 + 2))] : List AV)⟩, some ⟨1, ([.int .i64 (getI (G (k)) ((Int.toNat (i)) * 3)), .int .i64 (getI (G (k)) ((Int.toNat (i)) * 3 + 1)), .int .i64 (getI (G (k)) ((Int.toNat (i)) * 3 + 2))] : List AV)⟩])))) ∧
        (((getI (G (k2)) ((Int.toNat (i)) * 3) : Int) == 3) = false →
          (((getI (G (k2)) ((Int.toNat (i)) * 3) : Int) == 4) = true →
            okTU [.agg cs] = true ∧
            (decide ((i : Int) ≥ ((n : Nat) : Int)) = true →
              Q .normal [.slice true (.ro (k)) (0) (n), .slice true (.ro (k2)) (0) (n2), .ptr (.rw 0) (0), .ptr (.rw 1) (0), .int .i64 (IntKind.wrap .i64 (i + 1))] [some ⟨1, (pickRU [.agg cs, .int .i64 (IntKind.wrap .i64 (4 + kAnd .i64 (getI (G (k2)) ((Int.toNat (i)) * 3 + 1)) (3)))])⟩, some ⟨1, ds⟩, some ⟨1, ([.int .i64 (getI (G (k2)) ((Int.toNat (i)) * 3)), .int .i64 (getI (G (k2)) ((Int.toNat (i)) * 3 + 1)), .int .i64 (getI (G (k2)) ((Int.toNat (i)) * 3 + 2))] : List AV)⟩]) ∧
            (decide ((i : Int) ≥ ((n : Nat) : Int)) = false →
              decide ((0 : Int) ≤ i) = true ∧
              decide ((i : Int) < ((n : Nat) : Int)) = true ∧
              leafsOk (G (k)) ((Int.toNat (i)) * 3) [.int .i64, .int .i64, .int .i64] = true ∧
              (((getI (G (k)) ((Int.toNat (i)) * 3) : Int) == 3) = true →
                okSU [.agg (pickRU [.agg cs, .int .i64 (IntKind.wrap .i64 (4 + kAnd .i64 (getI (G (k2)) ((Int.toNat (i)) * 3 + 1)) (3)))])] = true ∧
                okSU [.agg ds] = true ∧
                (((giveEU [.agg (pickRU [.agg cs, .int .i64 (IntKind.wrap .i64 (4 + kAnd .i64 (getI (G (k2)) ((Int.toNat (i)) * 3 + 1)) (3)))]), .int .i64 (kAnd .i64 (getI (G (k)) ((Int.toNat (i)) * 3 + 1)) (3)), .int .i64 (kAnd .i64 (getI (G (k)) ((Int.toNat (i)) * 3 + 2)) (7))] : Int) == giveEU [.agg ds, .int .i64 (kAnd .i64 (getI (G (k)) ((Int.toNat (i)) * 3 + 1)) (3)), .int .i64 (kAnd .i64 (getI (G (k)) ((Int.toNat (i)) * 3 + 2)) (7))]) = true →
                  Q .normal [.slice true (.ro (k)) (0) (n), .slice true (.ro (k2)) (0) (n2), .ptr (.rw 0) (0), .ptr (.rw 1) (0), .int .i64 (IntKind.wrap .i64 (i + 1))] [some ⟨1, (giveRU [.agg (pickRU [.agg cs, .int .i64 (IntKind.wrap .i64 (4 + kAnd .i64 (getI (G (k2)) ((Int.toNat (i)) * 3 + 1)) (3)))]), .int .i64 (kAnd .i64 (getI (G (k)) ((Int.toNat (i)) * 3 + 1)) (3)), .int .i64 (kAnd .i64 (getI (G (k)) ((Int.toNat (i)) * 3 + 2)) (7))])⟩, some ⟨1, (giveRU [.agg ds, .int .i64 (kAnd .i64 (getI (G (k)) ((Int.toNat (i)) * 3 + 1)) (3)), .int .i64 (kAnd .i64 (getI (G (k)) ((Int.toNat (i)) * 3 + 2)) (7))])⟩, some ⟨1, ([.int .i64 (getI (G (k2)) ((Int.toNat (i)) * 3)), .int .i64 (getI (G (k2)) ((Int.toNat (i)) * 3 + 1)), .int .i64 (getI (G (k2)) ((Int.toNat (i)) * 3 + 2))] : List AV)⟩, some ⟨1, ([.int .i64 (getI (G (k)) ((Int.toNat (i)) * 3)), .int .i64 (getI (G (k)) ((Int.toNat (i)) * 3 + 1)), .int .i64 (getI (G (k)) ((Int.toNat (i)) * 3 + 2))] : List AV)⟩]) ∧
                (((giveEU [.agg (pickRU [.agg cs, .int .i64 (IntKind.wrap .i64 (4 + kAnd .i64 (getI (G (k2)) ((Int.toNat (i)) * 3 + 1)) (3)))]), .int .i64 (kAnd .i64 (getI (G (k)) ((Int.toNat (i)) * 3 + 1)) (3)), .int .i64 (kAnd .i64 (getI (G (k)) ((Int.toNat (i)) * 3 + 2)) (7))] : Int) == giveEU [.agg ds, .int .i64 (kAnd .i64 (getI (G (k)) ((Int.toNat (i)) * 3 + 1)) (3)), .int .i64 (kAnd .i64 (getI (G (k)) ((Int.toNat (i)) * 3 + 2)) (7))]) = false →
                  Q .ret [.slice true (.ro (k)) (0) (n), .slice true (.ro (k2)) (0) (n2), .ptr (.rw 0) (0), .ptr (.rw 1) (0), .int .i64 (i)] [some ⟨1, (giveRU [.agg (pickRU [.agg cs, .int .i64 (IntKind.wrap .i64 (4 + kAnd .i64 (getI (G (k2)) ((Int.toNat (i)) * 3 + 1)) (3)))]), .int .i64 (kAnd .i64 (getI (G (k)) ((Int.toNat (i)) * 3 + 1)) (3)), .int .i64 (kAnd .i64 (getI (G (k)) ((Int.toNat (i)) * 3 + 2)) (7))])⟩, some ⟨1, (giveRU [.agg ds, .int .i64 (kAnd .i64 (getI (G (k)) ((Int.toNat (i)) * 3 + 1)) (3)), .int .i64 (kAnd .i64 (getI (G (k)) ((Int.toNat (i)) * 3 + 2)) (7))])⟩, some ⟨1, ([.int .i64 (getI (G (k2)) ((Int.toNat (i)) * 3)), .int .i64 (getI (G (k2)) ((Int.toNat (i)) * 3 + 1)), .int .i64 (getI (G (k2)) ((Int.toNat (i)) * 3 + 2))] : List AV)⟩, some ⟨1, ([.int .i64 (getI (G (k)) ((Int.toNat (i)) * 3)), .int .i64 (getI (G (k)) ((Int.toNat (i)) * 3 + 1)), .int .i64 (getI (G (k)) ((Int.toNat (i)) * 3 + 2))] : List AV)⟩])) ∧
              (((getI (G (k)) ((Int.toNat (i)) * 3) : Int) == 3) = false →
                (((getI (G (k)) ((Int.toNat (i)) * 3) : Int) == 4) = true →
                  okTU [.agg (pickRU [.agg cs, .int .i64 (IntKind.wrap .i64 (4 + kAnd .i64 (getI (G (k2)) ((Int.toNat (i)) * 3 + 1)) (3)))])] = true ∧
                  okTU [.agg ds] = true ∧
                  (((pickNU [.agg (pickRU [.agg cs, .int .i64 (IntKind.wrap .i64 (4 + kAnd .i64 (getI (G (k2)) ((Int.toNat (i)) * 3 + 1)) (3)))]), .int .i64 (kAnd .i64 (getI (G (k)) ((Int.toNat (i)) * 3 + 1)) (3))] : Int) == pickNU [.agg ds, .int .i64 (kAnd .i64 (getI (G (k)) ((Int.toNat (i)) * 3 + 1)) (3))]) = true →
                    (((pickEU [.agg (pickRU [.agg cs, .int .i64 (IntKind.wrap .i64 (4 + kAnd .i64 (getI (G (k2)) ((Int.toNat (i)) * 3 + 1)) (3)))]), .int .i64 (kAnd .i64 (getI (G (k)) ((Int.toNat (i)) * 3 + 1)) (3))] : Int) == pickEU [.agg ds, .int .i64 (kAnd .i64 (getI (G (k)) ((Int.toNat (i)) * 3 + 1)) (3))]) = true →
                      (decide ((pickNU [.agg (pickRU [.agg cs, .int .i64 (IntKind.wrap .i64 (4 + kAnd .i64 (getI (G (k2)) ((Int.toNat (i)) * 3 + 1)) (3)))]), .int .i64 (kAnd .i64 (getI (G (k)) ((Int.toNat (i)) * 3 + 1)) (3))] : Int) > 3) = true →
                        Q .ret [.slice true (.ro (k)) (0) (n), .slice true (.ro (k2)) (0) (n2), .ptr (.rw 0) (0), .ptr (.rw 1) (0), .int .i64 (i)] [some ⟨1, (pickRU [.agg (pickRU [.agg cs, .int .i64 (IntKind.wrap .i64 (4 + kAnd .i64 (getI (G (k2)) ((Int.toNat (i)) * 3 + 1)) (3)))]), .int .i64 (kAnd .i64 (getI (G (k)) ((Int.toNat (i)) * 3 + 1)) (3))])⟩, some ⟨1, (pickRU [.agg ds, .int .i64 (kAnd .i64 (getI (G (k)) ((Int.toNat (i)) * 3 + 1)) (3))])⟩, some ⟨1, ([.int .i64 (getI (G (k2)) ((Int.toNat (i)) * 3)), .int .i64 (getI (G (k2)) ((Int.toNat (i)) * 3 + 1)), .int .i64 (getI (G (k2)) ((Int.toNat (i)) * 3 + 2))] : List AV)⟩, some ⟨1, ([.int .i64 (getI (G (k)) ((Int.toNat (i)) * 3)), .int .i64 (getI (G (k)) ((Int.toNat (i)) * 3 + 1)), .int .i64 (getI (G (k)) ((Int.toNat (i)) * 3 + 2))] : List AV)⟩]) ∧
                      (decide ((pickNU [.agg (pickRU [.agg cs, .int .i64 (IntKind.wrap .i64 (4 + kAnd .i64 (getI (G (k2)) ((Int.toNat (i)) * 3 + 1)) (3)))]), .int .i64 (kAnd .i64 (getI (G (k)) ((Int.toNat (i)) * 3 + 1)) (3))] : Int) > 3) = false →
                        Q .normal [.slice true (.ro (k)) (0) (n), .slice true (.ro (k2)) (0) (n2), .ptr (.rw 0) (0), .ptr (.rw 1) (0), .int .i64 (IntKind.wrap .i64 (i + 1))] [some ⟨1, (pickRU [.agg (pickRU [.agg cs, .int .i64 (IntKind.wrap .i64 (4 + kAnd .i64 (getI (G (k2)) ((Int.toNat (i)) * 3 + 1)) (3)))]), .int .i64 (kAnd .i64 (getI (G (k)) ((Int.toNat (i)) * 3 + 1)) (3))])⟩, some ⟨1, (pickRU [.agg ds, .int .i64 (kAnd .i64 (getI (G (k)) ((Int.toNat (i)) * 3 + 1)) (3))])⟩, some ⟨1, ([.int .i64 (getI (G (k2)) ((Int.toNat (i)) * 3)), .int .i64 (getI (G (k2)) ((Int.toNat (i)) * 3 + 1)), .int .i64 (getI (G (k2)) ((Int.toNat (i)) * 3 + 2))] : List AV)⟩, some ⟨1, ([.int .i64 (getI (G (k)) ((Int.toNat (i)) * 3)), .int .i64 (getI (G (k)) ((Int.toNat (i)) * 3 + 1)), .int .i64 (getI (G (k)) ((Int.toNat (i)) * 3 + 2))] : List AV)⟩])) ∧
                    (((pickEU [.agg (pickRU [.agg cs, .int .i64 (IntKind.wrap .i64 (4 + kAnd .i64 (getI (G (k2)) ((Int.toNat (i)) * 3 + 1)) (3)))]), .int .i64 (kAnd .i64 (getI (G (k)) ((Int.toNat (i)) * 3 + 1)) (3))] : Int) == pickEU [.agg ds, .int .i64 (kAnd .i64 (getI (G (k)) ((Int.toNat (i)) * 3 + 1)) (3))]) = false →
                      Q .ret [.slice true (.ro (k)) (0) (n), .slice true (.ro (k2)) (0) (n2), .ptr (.rw 0) (0), .ptr (.rw 1) (0), .int .i64 (i)] [some ⟨1, (pickRU [.agg (pickRU [.agg cs, .int .i64 (IntKind.wrap .i64 (4 + kAnd .i64 (getI (G (k2)) ((Int.toNat (i)) * 3 + 1)) (3)))]), .int .i64 (kAnd .i64 (getI (G (k)) ((Int.toNat (i)) * 3 + 1)) (3))])⟩, some ⟨1, (pickRU [.agg ds, .int .i64 (kAnd .i64 (getI (G (k)) ((Int.toNat (i)) * 3 + 1)) (3))])⟩, some ⟨1, ([.int .i64 (getI (G (k2)) ((Int.toNat (i)) * 3)), .int .i64 (getI (G (k2)) ((Int.toNat (i)) * 3 + 1)), .int .i64 (getI (G (k2)) ((Int.toNat (i)) * 3 + 2))] : List AV)⟩, some ⟨1, ([.int .i64 (getI (G (k)) ((Int.toNat (i)) * 3)), .int .i64 (getI (G (k)) ((Int.toNat (i)) * 3 + 1)), .int .i64 (getI (G (k)) ((Int.toNat (i)) * 3 + 2))] : List AV)⟩])) ∧
                  (((pickNU [.agg (pickRU [.agg cs, .int .i64 (IntKind.wrap .i64 (4 + kAnd .i64 (getI (G (k2)) ((Int.toNat (i)) * 3 + 1)) (3)))]), .int .i64 (kAnd .i64 (getI (G (k)) ((Int.toNat (i)) * 3 + 1)) (3))] : Int) == pickNU [.agg ds, .int .i64 (kAnd .i64 (getI (G (k)) ((Int.toNat (i)) * 3 + 1)) (3))]) = false →
                    Q .ret [.slice true (.ro (k)) (0) (n), .slice true (.ro (k2)) (0) (n2), .ptr (.rw 0) (0), .ptr (.rw 1) (0), .int .i64 (i)] [some ⟨1, (pickRU [.agg (pickRU [.agg cs, .int .i64 (IntKind.wrap .i64 (4 + kAnd .i64 (getI (G (k2)) ((Int.toNat (i)) * 3 + 1)) (3)))]), .int .i64 (kAnd .i64 (getI (G (k)) ((Int.toNat (i)) * 3 + 1)) (3))])⟩, some ⟨1, (pickRU [.agg ds, .int .i64 (kAnd .i64 (getI (G (k)) ((Int.toNat (i)) * 3 + 1)) (3))])⟩, some ⟨1, ([.int .i64 (getI (G (k2)) ((Int.toNat (i)) * 3)), .int .i64 (getI (G (k2)) ((Int.toNat (i)) * 3 + 1)), .int .i64 (getI (G (k2)) ((Int.toNat (i)) * 3 + 2))] : List AV)⟩, some ⟨1, ([.int .i64 (getI (G (k)) ((Int.toNat (i)) * 3)), .int .i64 (getI (G (k)) ((Int.toNat (i)) * 3 + 1)), .int .i64 (getI (G (k)) ((Int.toNat (i)) * 3 + 2))] : List AV)⟩])) ∧
                (((getI (G (k)) ((Int.toNat (i)) * 3) : Int) == 4) = false →
                  Q .normal [.slice true (.ro (k)) (0) (n), .slice true (.ro (k2)) (0) (n2), .ptr (.rw 0) (0), .ptr (.rw 1) (0), .int .i64 (IntKind.wrap .i64 (i + 1))] [some ⟨1, (pickRU [.agg cs, .int .i64 (IntKind.wrap .i64 (4 + kAnd .i64 (getI (G (k2)) ((Int.toNat (i)) * 3 + 1)) (3)))])⟩, some ⟨1, ds⟩, some ⟨1, ([.int .i64 (getI (G (k2)) ((Int.toNat (i)) * 3)), .int .i64 (getI (G (k2)) ((Int.toNat (i)) * 3 + 1)), .int .i64 (getI (G (k2)) ((Int.toNat (i)) * 3 + 2))] : List AV)⟩, some ⟨1, ([.int .i64 (getI (G (k)) ((Int.toNat (i)) * 3)), .int .i64 (getI (G (k)) ((Int.toNat (i)) * 3 + 1)), .int .i64 (getI (G (k)) ((Int.toNat (i)) * 3 + 2))] : List AV)⟩])))) ∧
          (((getI (G (k2)) ((Int.toNat (i)) * 3) : Int) == 4) = false →
            (decide ((i : Int) ≥ ((n : Nat) : Int)) = true →
              Q .normal [.slice true (.ro (k)) (0) (n), .slice true (.ro (k2)) (0) (n2), .ptr (.rw 0) (0), .ptr (.rw 1) (0), .int .i64 (IntKind.wrap .i64 (i + 1))] [some ⟨1, cs⟩, some ⟨1, ds⟩, some ⟨1, ([.int .i64 (getI (G (k2)) ((Int.toNat (i)) * 3)), .int .i64 (getI (G (k2)) ((Int.toNat (i)) * 3 + 1)), .int .i64 (getI (G (k2)) ((Int.toNat (i)) * 3 + 2))] : List AV)⟩]) ∧
            (decide ((i : Int) ≥ ((n : Nat) : Int)) = false →
              decide ((0 : Int) ≤ i) = true ∧
              decide ((i : Int) < ((n : Nat) : Int)) = true ∧
              leafsOk (G (k)) ((Int.toNat (i)) * 3) [.int .i64, .int .i64, .int .i64] = true ∧
              (((getI (G (k)) ((Int.toNat (i)) * 3) : Int) == 3) = true →
                okSU [.agg cs] = true ∧
                okSU [.agg ds] = true ∧
                (((giveEU [.agg cs, .int .i64 (kAnd .i64 (getI (G (k)) ((Int.toNat (i)) * 3 + 1)) (3)), .int .i64 (kAnd .i64 (getI (G (k)) ((Int.toNat (i)) * 3 + 2)) (7))] : Int) == giveEU [.agg ds, .int .i64 (kAnd .i64 (getI (G (k)) ((Int.toNat (i)) * 3 + 1)) (3)), .int .i64 (kAnd .i64 (getI (G (k)) ((Int.toNat (i)) * 3 + 2)) (7))]) = true →
                  Q .normal [.slice true (.ro (k)) (0) (n), .slice true (.ro (k2)) (0) (n2), .ptr (.rw 0) (0), .ptr (.rw 1) (0), .int .i64 (IntKind.wrap .i64 (i + 1))] [some ⟨1, (giveRU [.agg cs, .int .i64 (kAnd .i64 (getI (G (k)) ((Int.toNat (i)) * 3 + 1)) (3)), .int .i64 (kAnd .i64 (getI (G (k)) ((Int.toNat (i)) * 3 + 2)) (7))])⟩, some ⟨1, (giveRU [.agg ds, .int .i64 (kAnd .i64 (getI (G (k)) ((Int.toNat (i)) * 3 + 1)) (3)), .int .i64 (kAnd .i64 (getI (G (k)) ((Int.toNat (i)) * 3 + 2)) (7))])⟩, some ⟨1, ([.int .i64 (getI (G (k2)) ((Int.toNat (i)) * 3)), .int .i64 (getI (G (k2)) ((Int.toNat (i)) * 3 + 1)), .int .i64 (getI (G (k2)) ((Int.toNat (i)) * 3 + 2))] : List AV)⟩, some ⟨1, ([.int .i64 (getI (G (k)) ((Int.toNat (i)) * 3)), .int .i64 (getI (G (k)) ((Int.toNat (i)) * 3 + 1)), .int .i64 (getI (G (k)) ((Int.toNat (i)) * 3 + 2))] : List AV)⟩]) ∧
                (((giveEU [.agg cs, .int .i64 (kAnd .i64 (getI (G (k)) ((Int.toNat (i)) * 3 + 1)) (3)), .int .i64 (kAnd .i64 (getI (G (k)) ((Int.toNat (i)) * 3 + 2)) (7))] : Int) == giveEU [.agg ds, .int .i64 (kAnd .i64 (getI (G (k)) ((Int.toNat (i)) * 3 + 1)) (3)), .int .i64 (kAnd .i64 (getI (G (k)) ((Int.toNat (i)) * 3 + 2)) (7))]) = false →
                  Q .ret [.slice true (.ro (k)) (0) (n), .slice true (.ro (k2)) (0) (n2), .ptr (.rw 0) (0), .ptr (.rw 1) (0), .int .i64 (i)] [some ⟨1, (giveRU [.agg cs, .int .i64 (kAnd .i64 (getI (G (k)) ((Int.toNat (i)) * 3 + 1)) (3)), .int .i64 (kAnd .i64 (getI (G (k)) ((Int.toNat (i)) * 3 + 2)) (7))])⟩, some ⟨1, (giveRU [.agg ds, .int .i64 (kAnd .i64 (getI (G (k)) ((Int.toNat (i)) * 3 + 1)) (3)), .int .i64 (kAnd .i64 (getI (G (k)) ((Int.toNat (i)) * 3 + 2)) (7))])⟩, some ⟨1, ([.int .i64 (getI (G (k2)) ((Int.toNat (i)) * 3)), .int .i64 (getI (G (k2)) ((Int.toNat (i)) * 3 + 1)), .int .i64 (getI (G (k2)) ((Int.toNat (i)) * 3 + 2))] : List AV)⟩, some ⟨1, ([.int .i64 (getI (G (k)) ((Int.toNat (i)) * 3)), .int .i64 (getI (G (k)) ((Int.toNat (i)) * 3 + 1)), .int .i64 (getI (G (k)) ((Int.toNat (i)) * 3 + 2))] : List AV)⟩])) ∧
              (((getI (G (k)) ((Int.toNat (i)) * 3) : Int) == 3) = false →
                (((getI (G (k)) ((Int.toNat (i)) * 3) : Int) == 4) = true →
                  okTU [.agg cs] = true ∧
                  okTU [.agg ds] = true ∧
                  (((pickNU [.agg cs, .int .i64 (kAnd .i64 (getI (G (k)) ((Int.toNat (i)) * 3 + 1)) (3))] : Int) == pickNU [.agg ds, .int .i64 (kAnd .i64 (getI (G (k)) ((Int.toNat (i)) * 3 + 1)) (3))]) = true →
                    (((pickEU [.agg cs, .int .i64 (kAnd .i64 (getI (G (k)) ((Int.toNat (i)) * 3 + 1)) (3))] : Int) == pickEU [.agg ds, .int .i64 (kAnd .i64 (getI (G (k)) ((Int.toNat (i)) * 3 + 1)) (3))]) = true →
                      (decide ((pickNU [.agg cs, .int .i64 (kAnd .i64 (getI (G (k)) ((Int.toNat (i)) * 3 + 1)) (3))] : Int) > 3) = true →
                        Q .ret [.slice true (.ro (k)) (0) (n), .slice true (.ro (k2)) (0) (n2), .ptr (.rw 0) (0), .ptr (.rw 1) (0), .int .i64 (i)] [some ⟨1, (pickRU [.agg cs, .int .i64 (kAnd .i64 (getI (G (k)) ((Int.toNat (i)) * 3 + 1)) (3))])⟩, some ⟨1, (pickRU [.agg ds, .int .i64 (kAnd .i64 (getI (G (k)) ((Int.toNat (i)) * 3 + 1)) (3))])⟩, some ⟨1, ([.int .i64 (getI (G (k2)) ((Int.toNat (i)) * 3)), .int .i64 (getI (G (k2)) ((Int.toNat (i)) * 3 + 1)), .int .i64 (getI (G (k2)) ((Int.toNat (i)) * 3 + 2))] : List AV)⟩, some ⟨1, ([.int .i64 (getI (G (k)) ((Int.toNat (i)) * 3)), .int .i64 (getI (G (k)) ((Int.toNat (i)) * 3 + 1)), .int .i64 (getI (G (k)) ((Int.toNat (i)) * 3 + 2))] : List AV)⟩]) ∧
                      (decide ((pickNU [.agg cs, .int .i64 (kAnd .i64 (getI (G (k)) ((Int.toNat (i)) * 3 + 1)) (3))] : Int) > 3) = false →
                        Q .normal [.slice true (.ro (k)) (0) (n), .slice true (.ro (k2)) (0) (n2), .ptr (.rw 0) (0), .ptr (.rw 1) (0), .int .i64 (IntKind.wrap .i64 (i + 1))] [some ⟨1, (pickRU [.agg cs, .int .i64 (kAnd .i64 (getI (G (k)) ((Int.toNat (i)) * 3 + 1)) (3))])⟩, some ⟨1, (pickRU [.agg ds, .int .i64 (kAnd .i64 (getI (G (k)) ((Int.toNat (i)) * 3 + 1)) (3))])⟩, some ⟨1, ([.int .i64 (getI (G (k2)) ((Int.toNat (i)) * 3)), .int .i64 (getI (G (k2)) ((Int.toNat (i)) * 3 + 1)), .int .i64 (getI (G (k2)) ((Int.toNat (i)) * 3 + 2))] : List AV)⟩, some ⟨1, ([.int .i64 (getI (G (k)) ((Int.toNat (i)) * 3)), .int .i64 (getI (G (k)) ((Int.toNat (i)) * 3 + 1)), .int .i64 (getI (G (k)) ((Int.toNat (i)) * 3 + 2))] : List AV)⟩])) ∧
                    (((pickEU [.agg cs, .int .i64 (kAnd .i64 (getI (G (k)) ((Int.toNat (i)) * 3 + 1)) (3))] : Int) == pickEU [.agg ds, .int .i64 (kAnd .i64 (getI (G (k)) ((Int.toNat (i)) * 3 + 1)) (3))]) = false →
                      Q .ret [.slice true (.ro (k)) (0) (n), .slice true (.ro (k2)) (0) (n2), .ptr (.rw 0) (0), .ptr (.rw 1) (0), .int .i64 (i)] [some ⟨1, (pickRU [.agg cs, .int .i64 (kAnd .i64 (getI (G (k)) ((Int.toNat (i)) * 3 + 1)) (3))])⟩, some ⟨1, (pickRU [.agg ds, .int .i64 (kAnd .i64 (getI (G (k)) ((Int.toNat (i)) * 3 + 1)) (3))])⟩, some ⟨1, ([.int .i64 (getI (G (k2)) ((Int.toNat (i)) * 3)), .int .i64 (getI (G (k2)) ((Int.toNat (i)) * 3 + 1)), .int .i64 (getI (G (k2)) ((Int.toNat (i)) * 3 + 2))] : List AV)⟩, some ⟨1, ([.int .i64 (getI (G (k)) ((Int.toNat (i)) * 3)), .int .i64 (getI (G (k)) ((Int.toNat (i)) * 3 + 1)), .int .i64 (getI (G (k)) ((Int.toNat (i)) * 3 + 2))] : List AV)⟩])) ∧
                  (((pickNU [.agg cs, .int .i64 (kAnd .i64 (getI (G (k)) ((Int.toNat (i)) * 3 + 1)) (3))] : Int) == pickNU [.agg ds, .int .i64 (kAnd .i64 (getI (G (k)) ((Int.toNat (i)) * 3 + 1)) (3))]) = false →
                    Q .ret [.slice true (.ro (k)) (0) (n), .slice true (.ro (k2)) (0) (n2), .ptr (.rw 0) (0), .ptr (.rw 1) (0), .int .i64 (i)] [some ⟨1, (pickRU [.agg cs, .int .i64 (kAnd .i64 (getI (G (k)) ((Int.toNat (i)) * 3 + 1)) (3))])⟩, some ⟨1, (pickRU [.agg ds, .int .i64 (kAnd .i64 (getI (G (k)) ((Int.toNat (i)) * 3 + 1)) (3))])⟩, some ⟨1, ([.int .i64 (getI (G (k2)) ((Int.toNat (i)) * 3)), .int .i64 (getI (G (k2)) ((Int.toNat (i)) * 3 + 1)), .int .i64 (getI (G (k2)) ((Int.toNat (i)) * 3 + 2))] : List AV)⟩, some ⟨1, ([.int .i64 (getI (G (k)) ((Int.toNat (i)) * 3)), .int .i64 (getI (G (k)) ((Int.toNat (i)) * 3 + 1)), .int .i64 (getI (G (k)) ((Int.toNat (i)) * 3 + 2))] : List AV)⟩])) ∧
                (((getI (G (k)) ((Int.toNat (i)) * 3) : Int) == 4) = false →
                  Q .normal [.slice true (.ro (k)) (0) (n), .slice true (.ro (k2)) (0) (n2), .ptr (.rw 0) (0), .ptr (.rw 1) (0), .int .i64 (IntKind.wrap .i64 (i + 1))] [some ⟨1, cs⟩, some ⟨1, ds⟩, some ⟨1, ([.int .i64 (getI (G (k2)) ((Int.toNat (i)) * 3)), .int .i64 (getI (G (k2)) ((Int.toNat (i)) * 3 + 1)), .int .i64 (getI (G (k2)) ((Int.toNat (i)) * 3 + 2))] : List AV)⟩, some ⟨1, ([.int .i64 (getI (G (k)) ((Int.toNat (i)) * 3)), .int .i64 (getI (G (k)) ((Int.toNat (i)) * 3 + 1)), .int .i64 (getI (G (k)) ((Int.toNat (i)) * 3 + 2))] : List AV)⟩])))))) ∧
      (decide ((i : Int) < ((n2 : Nat) : Int)) = false →
        (decide ((i : Int) ≥ ((n : Nat) : Int)) = true →
          Q .normal [.slice true (.ro (k)) (0) (n), .slice true (.ro (k2)) (0) (n2), .ptr (.rw 0) (0), .ptr (.rw 1) (0), .int .i64 (IntKind.wrap .i64 (i + 1))] [some ⟨1, cs⟩, some ⟨1, ds⟩]) ∧
        (decide ((i : Int) ≥ ((n : Nat) : Int)) = false →
          decide ((0 : Int) ≤ i) = true ∧
          decide ((i : Int) < ((n : Nat) : Int)) = true ∧
          leafsOk (G (k)) ((Int.toNat (i)) * 3) [.int .i64, .int .i64, .int .i64] = true ∧
          (((getI (G (k)) ((Int.toNat (i)) * 3) : Int) == 3) = true →
            okSU [.agg cs] = true ∧
            okSU [.agg ds] = true ∧
            (((giveEU [.agg cs, .int .i64 (kAnd .i64 (getI (G (k)) ((Int.toNat (i)) * 3 + 1)) (3)), .int .i64 (kAnd .i64 (getI (G (k)) ((Int.toNat (i)) * 3 + 2)) (7))] : Int) == giveEU [.agg ds, .int .i64 (kAnd .i64 (getI (G (k)) ((Int.toNat (i)) * 3 + 1)) (3)), .int .i64 (kAnd .i64 (getI (G (k)) ((Int.toNat (i)) * 3 + 2)) (7))]) = true →
              Q .normal [.slice true (.ro (k)) (0) (n), .slice true (.ro (k2)) (0) (n2), .ptr (.rw 0) (0), .ptr (.rw 1) (0), .int .i64 (IntKind.wrap .i64 (i + 1))] [some ⟨1, (giveRU [.agg cs, .int .i64 (kAnd .i64 (getI (G (k)) ((Int.toNat (i)) * 3 + 1)) (3)), .int .i64 (kAnd .i64 (getI (G (k)) ((Int.toNat (i)) * 3 + 2)) (7))])⟩, some ⟨1, (giveRU [.agg ds, .int .i64 (kAnd .i64 (getI (G (k)) ((Int.toNat (i)) * 3 + 1)) (3)), .int .i64 (kAnd .i64 (getI (G (k)) ((Int.toNat (i)) * 3 + 2)) (7))])⟩, some ⟨1, ([.int .i64 (getI (G (k)) ((Int.toNat (i)) * 3)), .int .i64 (getI (G (k)) ((Int.toNat (i)) * 3 + 1)), .int .i64 (getI (G (k)) ((Int.toNat (i)) * 3 + 2))] : List AV)⟩]) ∧
            (((giveEU [.agg cs, .int .i64 (kAnd .i64 (getI (G (k)) ((Int.toNat (i)) * 3 + 1)) (3)), .int .i64 (kAnd .i64 (getI (G (k)) ((Int.toNat (i)) * 3 + 2)) (7))] : Int) == giveEU [.agg ds, .int .i64 (kAnd .i64 (getI (G (k)) ((Int.toNat (i)) * 3 + 1)) (3)), .int .i64 (kAnd .i64 (getI (G (k)) ((Int.toNat (i)) * 3 + 2)) (7))]) = false →
              Q .ret [.slice true (.ro (k)) (0) (n), .slice true (.ro (k2)) (0) (n2), .ptr (.rw 0) (0), .ptr (.rw 1) (0), .int .i64 (i)] [some ⟨1, (giveRU [.agg cs, .int .i64 (kAnd .i64 (getI (G (k)) ((Int.toNat (i)) * 3 + 1)) (3)), .int .i64 (kAnd .i64 (getI (G (k)) ((Int.toNat (i)) * 3 + 2)) (7))])⟩, some ⟨1, (giveRU [.agg ds, .int .i64 (kAnd .i64 (getI (G (k)) ((Int.toNat (i)) * 3 + 1)) (3)), .int .i64 (kAnd .i64 (getI (G (k)) ((Int.toNat (i)) * 3 + 2)) (7))])⟩, some ⟨1, ([.int .i64 (getI (G (k)) ((Int.toNat (i)) * 3)), .int .i64 (getI (G (k)) ((Int.toNat (i)) * 3 + 1)), .int .i64 (getI (G (k)) ((Int.toNat (i)) * 3 + 2))] : List AV)⟩])) ∧
          (((getI (G (k)) ((Int.toNat (i)) * 3) : Int) == 3) = false →
            (((getI (G (k)) ((Int.toNat (i)) * 3) : Int) == 4) = true →
              okTU [.agg cs] = true ∧
              okTU [.agg ds] = true ∧
              (((pickNU [.agg cs, .int .i64 (kAnd .i64 (getI (G (k)) ((Int.toNat (i)) * 3 + 1)) (3))] : Int) == pickNU [.agg ds, .int .i64 (kAnd .i64 (getI (G (k)) ((Int.toNat (i)) * 3 + 1)) (3))]) = true →
                (((pickEU [.agg cs, .int .i64 (kAnd .i64 (getI (G (k)) ((Int.toNat (i)) * 3 + 1)) (3))] : Int) == pickEU [.agg ds, .int .i64 (kAnd .i64 (getI (G (k)) ((Int.toNat (i)) * 3 + 1)) (3))]) = true →
                  (decide ((pickNU [.agg cs, .int .i64 (kAnd .i64 (getI (G (k)) ((Int.toNat (i)) * 3 + 1)) (3))] : Int) > 3) = true →
                    Q .ret [.slice true (.ro (k)) (0) (n), .slice true (.ro (k2)) (0) (n2), .ptr (.rw 0) (0), .ptr (.rw 1) (0), .int .i64 (i)] [some ⟨1, (pickRU [.agg cs, .int .i64 (kAnd .i64 (getI (G (k)) ((Int.toNat (i)) * 3 + 1)) (3))])⟩, some ⟨1, (pickRU [.agg ds, .int .i64 (kAnd .i64 (getI (G (k)) ((Int.toNat (i)) * 3 + 1)) (3))])⟩, some ⟨1, ([.int .i64 (getI (G (k)) ((Int.toNat (i)) * 3)), .int .i64 (getI (G (k)) ((Int.toNat (i)) * 3 + 1)), .int .i64 (getI (G (k)) ((Int.toNat (i)) * 3 + 2))] : List AV)⟩]) ∧
                  (decide ((pickNU [.agg cs, .int .i64 (kAnd .i64 (getI (G (k)) ((Int.toNat (i)) * 3 + 1)) (3))] : Int) > 3) = false →
                    Q .normal [.slice true (.ro (k)) (0) (n), .slice true (.ro (k2)) (0) (n2), .ptr (.rw 0) (0), .ptr (.rw 1) (0), .int .i64 (IntKind.wrap .i64 (i + 1))] [some ⟨1, (pickRU [.agg cs, .int .i64 (kAnd .i64 (getI (G (k)) ((Int.toNat (i)) * 3 + 1)) (3))])⟩, some ⟨1, (pickRU [.agg ds, .int .i64 (kAnd .i64 (getI (G (k)) ((Int.toNat (i)) * 3 + 1)) (3))])⟩, some ⟨1, ([.int .i64 (getI (G (k)) ((Int.toNat (i)) * 3)), .int .i64 (getI (G (k)) ((Int.toNat (i)) * 3 + 1)), .int .i64 (getI (G (k)) ((Int.toNat (i)) * 3 + 2))] : List AV)⟩])) ∧
                (((pickEU [.agg cs, .int .i64 (kAnd .i64 (getI (G (k)) ((Int.toNat (i)) * 3 + 1)) (3))] : Int) == pickEU [.agg ds, .int .i64 (kAnd .i64 (getI (G (k)) ((Int.toNat (i)) * 3 + 1)) (3))]) = false →
                  Q .ret [.slice true (.ro (k)) (0) (n), .slice true (.ro (k2)) (0) (n2), .ptr (.rw 0) (0), .ptr (.rw 1) (0), .int .i64 (i)] [some ⟨1, (pickRU [.agg cs, .int .i64 (kAnd .i64 (getI (G (k)) ((Int.toNat (i)) * 3 + 1)) (3))])⟩, some ⟨1, (pickRU [.agg ds, .int .i64 (kAnd .i64 (getI (G (k)) ((Int.toNat (i)) * 3 + 1)) (3))])⟩, some ⟨1, ([.int .i64 (getI (G (k)) ((Int.toNat (i)) * 3)), .int .i64 (getI (G (k)) ((Int.toNat (i)) * 3 + 1)), .int .i64 (getI (G (k)) ((Int.toNat (i)) * 3 + 2))] : List AV)⟩])) ∧
              (((pickNU [.agg cs, .int .i64 (kAnd .i64 (getI (G (k)) ((Int.toNat (i)) * 3 + 1)) (3))] : Int) == pickNU [.agg ds, .int .i64 (kAnd .i64 (getI (G (k)) ((Int.toNat (i)) * 3 + 1)) (3))]) = false →
                Q .ret [.slice true (.ro (k)) (0) (n), .slice true (.ro (k2)) (0) (n2), .ptr (.rw 0) (0), .ptr (.rw 1) (0), .int .i64 (i)] [some ⟨1, (pickRU [.agg cs, .int .i64 (kAnd .i64 (getI (G (k)) ((Int.toNat (i)) * 3 + 1)) (3))])⟩, some ⟨1, (pickRU [.agg ds, .int .i64 (kAnd .i64 (getI (G (k)) ((Int.toNat (i)) * 3 + 1)) (3))])⟩, some ⟨1, ([.int .i64 (getI (G (k)) ((Int.toNat (i)) * 3)), .int .i64 (getI (G (k)) ((Int.toNat (i)) * 3 + 1)), .int .i64 (getI (G (k)) ((Int.toNat (i)) * 3 + 2))] : List AV)⟩])) ∧
            (((getI (G (k)) ((Int.toNat (i)) * 3) : Int) == 4) = false →
              Q .normal [.slice true (.ro (k)) (0) (n), .slice true (.ro (k2)) (0) (n2), .ptr (.rw 0) (0), .ptr (.rw 1) (0), .int .i64 (IntKind.wrap .i64 (i + 1))] [some ⟨1, cs⟩, some ⟨1, ds⟩, some ⟨1, ([.int .i64 (getI (G (k)) ((Int.toNat (i)) * 3)), .int .i64 (getI (G (k)) ((Int.toNat (i)) * 3 + 1)), .int .i64 (getI (G (k)) ((Int.toNat (i)) * 3 + 2))] : List AV)⟩]))))) ∧
    (decide ((i : Int) < 200) = false →
      Q (.exit 2) [.slice true (.ro (k)) (0) (n), .slice true (.ro (k2)) (0) (n2), .ptr (.rw 0) (0), .ptr (.rw 1) (0), .int .i64 (i)] [some ⟨1, cs⟩, some ⟨1, ds⟩])) := by kernel_rfl
theorem ap_b6 (G : Nat → List AV) (cs ds : List AV) (i : Int) (Q : Ex → List AV → Hp → Prop) (R : AV → Hp → Prop) : vT G Q R (dloop (Dc Try.prog [9, 16] progT [] 0) 300 20 0 (loopN Try.f5 2) 167 [5, 6, 15] [.ptr (.rw 0) (.lit 0), .ptr (.rw 1) (.lit 0), .int .i64 (.var 6 i)] [some ⟨1, .var 8 cs⟩, some ⟨1, .var 9 ds⟩]) = (
    (decide ((i : Int) < 4) = true →
      okSU [.agg cs] = true ∧
      okSU [.agg ds] = true ∧
      (((getI (tellLU [.agg cs, .int .i64 (i)]) (2) : Int) == getI (tellLU [.agg ds, .int .i64 (i)]) (2)) = true →
        (((getI (tellLU [.agg cs, .int .i64 (i)]) (3) : Int) == getI (tellLU [.agg ds, .int .i64 (i)]) (3)) = true →
          (((getI (tellLU [.agg cs, .int .i64 (i)]) (4) : Int) == getI (tellLU [.agg ds, .int .i64 (i)]) (4)) = true →
            Q .normal [.ptr (.rw 0) (0), .ptr (.rw 1) (0), .int .i64 (IntKind.wrap .i64 (i + 1))] [some ⟨1, cs⟩, some ⟨1, ds⟩, some ⟨1, ([.int .i64 (getI (tellLU [.agg cs, .int .i64 (i)]) (0)), .int .i64 (getI (tellLU [.agg cs, .int .i64 (i)]) (1)), .int .i64 (getI (tellLU [.agg cs, .int .i64 (i)]) (2)), .int .i64 (getI (tellLU [.agg cs, .int .i64 (i)]) (3)), .int .i64 (getI (tellLU [.agg cs, .int .i64 (i)]) (4)), .int .i64 (getI (tellLU [.agg cs, .int .i64 (i)]) (5)), .int .i64 (getI (tellLU [.agg cs, .int .i64 (i)]) (6))] : List AV)⟩, some ⟨1, ([.int .i64 (getI (tellLU [.agg ds, .int .i64 (i)]) (0)), .int .i64 (getI (tellLU [.agg ds, .int .i64 (i)]) (1)), .int .i64 (getI (tellLU [.agg ds, .int .i64 (i)]) (2)), .int .i64 (getI (tellLU [.agg ds, .int .i64 (i)]) (3)), .int .i64 (getI (tellLU [.agg ds, .int .i64 (i)]) (4)), .int .i64 (getI (tellLU [.agg ds, .int .i64 (i)]) (5)), .int .i64 (getI (tellLU [.agg ds, .int .i64 (i)]) (6))] : List AV)⟩]) ∧
          (((getI (tellLU [.agg cs, .int .i64 (i)]) (4) : Int) == getI (tellLU [.agg ds, .int .i64 (i)]) (4)) = false →
            Q .ret [.ptr (.rw 0) (0), .ptr (.rw 1) (0), .int .i64 (i)] [some ⟨1, cs⟩, some ⟨1, ds⟩, some ⟨1, ([.int .i64 (getI (tellLU [.agg cs, .int .i64 (i)]) (0)), .int .i64 (getI (tellLU [.agg cs, .int .i64 (i)]) (1)), .int .i64 (getI (tellLU [.agg cs, .int .i64 (i)]) (2)), .int .i64 (getI (tellLU [.agg cs, .int .i64 (i)]) (3)), .int .i64 (getI (tellLU [.agg cs, .int .i64 (i)]) (4)), .int .i64 (getI (tellLU [.agg cs, .int .i64 (i)]) (5)), .int .i64 (getI (tellLU [.agg cs, .int .i64 (i)]) (6))] : List AV)⟩, some ⟨1, ([.int .i64 (getI (tellLU [.agg ds, .int .i64 (i)]) (0)), .int .i64 (getI (tellLU [.agg ds, .int .i64 (i)]) (1)), .int .i64 (getI (tellLU [.agg ds, .int .i64 (i)]) (2)), .int .i64 (getI (tellLU [.agg ds, .int .i64 (i)]) (3)), .int .i64 (getI (tellLU [.agg ds, .int .i64 (i)]) (4)), .int .i64 (getI (tellLU [.agg ds, .int .i64 (i)]) (5)), .int .i64 (getI (tellLU [.agg ds, .int .i64 (i)]) (6))] : List AV)⟩])) ∧
        (((getI (tellLU [.agg cs, .int .i64 (i)]) (3) : Int) == getI (tellLU [.agg ds, .int .i64 (i)]) (3)) = false →
          Q .ret [.ptr (.rw 0) (0), .ptr (.rw 1) (0), .int .i64 (i)] [some ⟨1, cs⟩, some ⟨1, ds⟩, some ⟨1, ([.int .i64 (getI (tellLU [.agg cs, .int .i64 (i)]) (0)), .int .i64 (getI (tellLU [.agg cs, .int .i64 (i)]) (1)), .int .i64 (getI (tellLU [.agg cs, .int .i64 (i)]) (2)), .int .i64 (getI (tellLU [.agg cs, .int .i64 (i)]) (3)), .int .i64 (getI (tellLU [.agg cs, .int .i64 (i)]) (4)), .int .i64 (getI (tellLU [.agg cs, .int .i64 (i)]) (5)), .int .i64 (getI (tellLU [.agg cs, .int .i64 (i)]) (6))] : List AV)⟩, some ⟨1, ([.int .i64 (getI (tellLU [.agg ds, .int .i64 (i)]) (0)), .int .i64 (getI (tellLU [.agg ds, .int .i64 (i)]) (1)), .int .i64 (getI (tellLU [.agg ds, .int .i64 (i)]) (2)), .int .i64 (getI (tellLU [.agg ds, .int .i64 (i)]) (3)), .int .i64 (getI (tellLU [.agg ds, .int .i64 (i)]) (4)), .int .i64 (getI (tellLU [.agg ds, .int .i64 (i)]) (5)), .int .i64 (getI (tellLU [.agg ds, .int .i64 (i)]) (6))] : List AV)⟩])) ∧
      (((getI (tellLU [.agg cs, .int .i64 (i)]) (2) : Int) == getI (tellLU [.agg ds, .int .i64 (i)]) (2)) = false →
        Q .ret [.ptr (.rw 0) (0), .ptr (.rw 1) (0), .int .i64 (i)] [some ⟨1, cs⟩, some ⟨1, ds⟩, some ⟨1, ([.int .i64 (getI (tellLU [.agg cs, .int .i64 (i)]) (0)), .int .i64 (getI (tellLU [.agg cs, .int .i64 (i)]) (1)), .int .i64 (getI (tellLU [.agg cs, .int .i64 (i)]) (2)), .int .i64 (getI (tellLU [.agg cs, .int .i64 (i)]) (3)), .int .i64 (getI (tellLU [.agg cs, .int .i64 (i)]) (4)), .int .i64 (getI (tellLU [.agg cs, .int .i64 (i)]) (5)), .int .i64 (getI (tellLU [.agg cs, .int .i64 (i)]) (6))] : List AV)⟩, some ⟨1, ([.int .i64 (getI (tellLU [.agg ds, .int .i64 (i)]) (0)), .int .i64 (getI (tellLU [.agg ds, .int .i64 (i)]) (1)), .int .i64 (getI (tellLU [.agg ds, .int .i64 (i)]) (2)), .int .i64 (getI (tellLU [.agg ds, .int .i64 (i)]) (3)), .int .i64 (getI (tellLU [.agg ds, .int .i64 (i)]) (4)), .int .i64 (getI (tellLU [.agg ds, .int .i64 (i)]) (5)), .int .i64 (getI (tellLU [.agg ds, .int .i64 (i)]) (6))] : List AV)⟩])) ∧
    (decide ((i : Int) < 4) = false →
      Q (.exit 6) [.ptr (.rw 0) (0), .ptr (.rw 1) (0), .int .i64 (i)] [some ⟨1, cs⟩, some ⟨1, ds⟩])) := by kernel_rfl
end Go.Am
