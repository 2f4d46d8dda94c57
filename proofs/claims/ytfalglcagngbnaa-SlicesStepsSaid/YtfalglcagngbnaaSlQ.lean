/-
  Slices: the document's operations do what the program's do.
-/
import Derived.Test.YtfalglcagngbnaaSlO
import Derived.Test.YtfalglcagngbnaaSlP
namespace Go.Am
open Go.Proofs
set_option maxRecDepth 100000
/-- the document's table, with the program's first cell -/
def Tt (ds : List AV) : List AV := .bool true :: ds
def tl : List AV → List AV
  | [] => []
  | _ :: l => l
def tlU : List AV → List AV := fun ys => match ys with
  | [.agg cs] => tl cs
  | _ => []
theorem T_set (ds : List AV) (k : Nat) (v : AV) : (Tt ds).set (k + 1) v = Tt (ds.set k v) := rfl
theorem T_setP (ds : List AV) (k : Nat) (v : AV) : setPart (Tt ds) (k + 1) v = Tt (setPart ds k v) := by
  cases v <;> first
    | rfl
    | (rename_i cs
       show (Tt ds).take (k + 1) ++ (cs ++ (Tt ds).drop (k + 1 + cs.length)) = _
       rw [show k + 1 + cs.length = (k + cs.length) + 1 by omega]
       rfl)
theorem tl_T (ds : List AV) : tl (Tt ds) = ds := rfl
theorem T_tl {cs : List AV} (hs : okS cs = true) : Tt (tl cs) = cs := by
  have h0 := okS_0 hs
  have h1 := okS_made hs
  cases cs with
  | nil => cases h0
  | cons x l =>
    unfold isB at h0
    unfold getB at h1
    simp only [List.getElem?_cons_zero] at h0 h1
    cases x <;> simp_all [Tt, tl]
section
variable {ds : List AV} (hs : okS (Tt ds) = true)
include hs
theorem dB {i : Nat} (hi : i < 32) : isB ds i = true := okS_open hs hi
theorem dI {o : Nat} (h1 : 32 ≤ o) (h2 : o < 257) : isI .i64 ds o = true := okS_isF hs (o := o + 1) (by omega) (by omega)
theorem dLen : ds.length = 257 := by have := okS_len hs; simpa [Tt] using this
end
theorem isO_T {ds : List AV} {a : Int} (h0 : decide (a ≥ 0) = true) (h1 : decide (a < 32) = true) : isO (Tt ds) a = getB ds a.toNat := by
  have e : decide (0 ≤ a) = true := h0
  unfold isO
  rw [e, h1]; rfl
theorem isO_no0 {ds : List AV} {a : Int} (h0 : decide (a ≥ 0) = false) : isO (Tt ds) a = false := by
  have e : decide (0 ≤ a) = false := h0
  unfold isO
  rw [e]; rfl
theorem isO_no1 {ds : List AV} {a : Int} (h1 : decide (a < 32) = false) : isO (Tt ds) a = false := by
  unfold isO
  rw [h1]; simp
theorem r_give (G : Nat → List AV) (B : Nat) (ds : List AV) (a b : Int) (hs : okS (Tt ds) = true) : ACalls (⟨Try.prog, G, B⟩ : Ctx) 34 [.ptr (.rw 0) 0, .int .i64 a, .int .i64 b] [some ⟨1, ds⟩] fun v H => v = .int .i64 (giveE (Tt ds) a b) ∧ H.take 1 = [some ⟨1, tl (giveR (Tt ds) a b)⟩] := by
  have := dcall_ok (C := (⟨Try.prog, G, B⟩ : Ctx)) (fuel := 300) (n0 := 20) (f := 34) (fn := Try.f34) (args := [.ptr (.rw 0) (.lit 0), .int .i64 (.var 2 a), .int .i64 (.var 3 b)]) (H := [some ⟨1, .var 8 ds⟩]) (keep := 1)
    (R := fun v H => v = .int .i64 (giveE (Tt ds) a b) ∧ H = [some ⟨1, tl (giveR (Tt ds) a b)⟩]) (by rw [show loopsOf (bodyOf Try.f34) = [] by kernel_rfl]; exact dg4 G B) (by kernel_rfl) (by kernel_rfl) (by kernel_rfl) (by
    rw [t34]
    have hl := dLen hs
    have no : (isO (Tt ds) a && isO (Tt ds) b) = false → AV.int .i64 6 = .int .i64 (giveE (Tt ds) a b) ∧ ([some ⟨1, ds⟩] : Hp) = [some ⟨1, tl (giveR (Tt ds) a b)⟩] := fun h => by
      have e : gives (Tt ds) a b = false := by unfold gives; rw [← Bool.and_assoc, h]; rfl
      simp only [giveE, giveR, e, h, Bool.false_eq_true, if_false]
      exact ⟨trivial, rfl⟩
    refine ⟨fun a0 => ⟨fun a1 => ?_, fun a1 => no (by rw [isO_no1 a1]; rfl)⟩, fun a0 => no (by rw [isO_no0 a0]; rfl)⟩
    have a0' := of_decide_eq_true a0
    have a1' := of_decide_eq_true a1
    refine ⟨a0, a1, dB hs (by omega), fun ha => ⟨fun b0 => ⟨fun b1 => ?_, fun b1 => no (by rw [isO_no1 b1]; simp)⟩, fun b0 => no (by rw [isO_no0 b0]; simp)⟩, fun ha => no (by rw [isO_T a0 a1, ha]; rfl)⟩
    have b0' := of_decide_eq_true b0
    have b1' := of_decide_eq_true b1
    refine ⟨b0, b1, dB hs (by omega), fun hb => ?_, fun hb => no (by rw [isO_T b0 b1, hb]; simp)⟩
    have oa : isO (Tt ds) a = true := by rw [isO_T a0 a1]; exact ha
    have ob : isO (Tt ds) b = true := by rw [isO_T b0 b1]; exact hb
    have eg : gives (Tt ds) a b = (getI ds (a.toNat * 7 + 33) == getI ds (b.toNat * 7 + 33)) := by unfold gives; rw [oa, ob]; rfl
    refine ⟨a0, a1, dI hs (by omega) (by omega), b0, b1, dI hs (by omega) (by omega), fun he => ?_, fun he => ?_⟩
    · rw [he] at eg
      refine ⟨a0, a1, leB_iff.2 (by omega), fun hab => ⟨a0, a1, leB_iff.2 (by rw [show setPart ds (a.toNat * 7 + 34) (.int .i64 b) = ds.set (a.toNat * 7 + 34) (.int .i64 b) from rfl, List.length_set]; omega), ?_⟩, fun hab => ?_⟩
      · simp only [giveE, giveR, eg, hab, if_true]
        refine ⟨trivial, ?_⟩
        rw [show a.toNat * 7 + 35 = (a.toNat * 7 + 34) + 1 from rfl, T_set, tl_T]
        show [some (⟨1, (ds.set (a.toNat * 7 + 34) (.int .i64 b)).set (a.toNat * 7 + 34) (.int .i64 (-1))⟩ : Blk)] = _
        rw [List.set_set]
      · simp only [giveE, giveR, eg, hab, if_true, Bool.false_eq_true, if_false]
        refine ⟨trivial, ?_⟩
        rw [show a.toNat * 7 + 35 = (a.toNat * 7 + 34) + 1 from rfl, T_set, tl_T]
        rfl
    · rw [he] at eg
      simp only [giveE, giveR, eg, oa, ob, Bool.false_eq_true, if_false, Bool.and_self, if_true]
      exact ⟨trivial, rfl⟩)
  simp only [vVs, vV, vR, vN, vI, vHp, List.map_cons, List.map_nil, Option.map_some, vBlk, vL] at this
  exact this
/-! ### Pick -/
def dk1 (ds : List AV) : List AV := setPart ds 256 (.int .i64 (IntKind.wrap .i64 (getI ds 256 + 1)))
def dk2 (ds : List AV) (n : Nat) : List AV := setPart (dk1 ds) (n * 7 + 35) (.int .i64 (IntKind.wrap .i64 (getI (dk1 ds) (n * 7 + 35) + 1)))
def dk3 (ds : List AV) (n : Nat) : List AV := setPart (dk2 ds n) (n * 7 + 38) (.int .i64 (if IntKind.wrap .i64 (getI (dk2 ds n) 256 - getI (dk2 ds n) (n * 7 + 37)) > getI (dk2 ds n) (n * 7 + 38) then IntKind.wrap .i64 (getI (dk2 ds n) 256 - getI (dk2 ds n) (n * 7 + 37)) else getI (dk2 ds n) (n * 7 + 38)))
def dk4 (ds : List AV) (n : Nat) : List AV := setPart (dk3 ds n) (n * 7 + 37) (.int .i64 (getI (dk3 ds n) 256))
def dk5 (ds : List AV) (n : Nat) : List AV := setPart (dk4 ds n) (n * 7 + 34) (.int .i64 (-1))
theorem dk1_T (ds : List AV) : Tt (dk1 ds) = pk1 (Tt ds) := rfl
theorem dk2_T (ds : List AV) (n : Nat) : Tt (dk2 ds n) = pk2 (Tt ds) n := rfl
theorem dk3_T (ds : List AV) (n : Nat) : Tt (dk3 ds n) = pk3 (Tt ds) n := rfl
theorem dk4_T {ds : List AV} (hs : okS (Tt ds) = true) {n : Nat} (hn : n < 32) : Tt (dk4 ds n) = pk4 (Tt ds) n := by
  have l2 := okS_len (okS_pk2 hs hn)
  have e : getI (dk3 ds n) 256 = getI (pk2 (Tt ds) n) 257 := by
    have : getI (pk3 (Tt ds) n) 257 = getI (pk2 (Tt ds) n) 257 := by unfold pk3; rw [getI_s (by omega), if_neg (by omega)]
    rw [← this, ← dk3_T]; rfl
  unfold pk4 dk4
  rw [e, ← dk3_T]; rfl
theorem dk5_T {ds : List AV} (hs : okS (Tt ds) = true) {n : Nat} (hn : n < 32) : Tt (dk5 ds n) = pk5 (Tt ds) n := by
  unfold pk5 dk5
  rw [← dk4_T hs hn]; rfl
theorem r_pick (G : Nat → List AV) (B : Nat) (ds : List AV) (a : Int) (ht : okT (Tt ds) = true) : ACalls (⟨Try.prog, G, B⟩ : Ctx) 35 [.ptr (.rw 0) 0, .int .i64 a] [some ⟨1, ds⟩] fun v H => v = .tup [.int .i64 (pickN (Tt ds) a), .int .i64 (pickE (Tt ds) a)] ∧ H.take 1 = [some ⟨1, tl (pickR (Tt ds) a)⟩] := by
  obtain ⟨hs, hg⟩ := okT_iff.1 ht
  have := dcall_ok (C := (⟨Try.prog, G, B⟩ : Ctx)) (fuel := 300) (n0 := 20) (f := 35) (fn := Try.f35) (args := [.ptr (.rw 0) (.lit 0), .int .i64 (.var 2 a)]) (H := [some ⟨1, .var 8 ds⟩]) (keep := 1)
    (R := fun v H => v = .tup [.int .i64 (pickN (Tt ds) a), .int .i64 (pickE (Tt ds) a)] ∧ H = [some ⟨1, tl (pickR (Tt ds) a)⟩]) (by rw [show loopsOf (bodyOf Try.f35) = [] by kernel_rfl]; exact dg4 G B) (by kernel_rfl) (by kernel_rfl) (by kernel_rfl) (by
    rw [t35]
    have f1 : setPart ds 256 (.int .i64 (IntKind.wrap .i64 (getI ds 256 + 1))) = dk1 ds := rfl
    simp only [f1]
    have f2 : setPart (dk1 ds) (a.toNat * 7 + 35) (.int .i64 (IntKind.wrap .i64 (getI (dk1 ds) (a.toNat * 7 + 35) + 1))) = dk2 ds a.toNat := rfl
    simp only [f2]
    have f3 : setPart (dk2 ds a.toNat) (a.toNat * 7 + 38) (.int .i64 (if IntKind.wrap .i64 (getI (dk2 ds a.toNat) 256 - getI (dk2 ds a.toNat) (a.toNat * 7 + 37)) > getI (dk2 ds a.toNat) (a.toNat * 7 + 38) then IntKind.wrap .i64 (getI (dk2 ds a.toNat) 256 - getI (dk2 ds a.toNat) (a.toNat * 7 + 37)) else getI (dk2 ds a.toNat) (a.toNat * 7 + 38))) = dk3 ds a.toNat := rfl
    simp only [f3]
    have f4 : setPart (dk3 ds a.toNat) (a.toNat * 7 + 37) (.int .i64 (getI (dk3 ds a.toNat) 256)) = dk4 ds a.toNat := rfl
    simp only [f4]
    have f5 : setPart (dk4 ds a.toNat) (a.toNat * 7 + 34) (.int .i64 (-1)) = dk5 ds a.toNat := rfl
    simp only [f5]
    have hl := dLen hs
    have no : isO (Tt ds) a = false → AV.tup [.int .i64 0, .int .i64 6] = .tup [.int .i64 (pickN (Tt ds) a), .int .i64 (pickE (Tt ds) a)] ∧ ([some ⟨1, ds⟩] : Hp) = [some ⟨1, tl (pickR (Tt ds) a)⟩] := fun h => by
      simp only [pickN, pickE, pickR, h, Bool.false_eq_true, if_false]
      exact ⟨trivial, rfl⟩
    refine ⟨fun a0 => ⟨fun a1 => ?_, fun a1 => no (isO_no1 a1)⟩, fun a0 => no (isO_no0 a0)⟩
    have a0' := of_decide_eq_true a0
    have a1' := of_decide_eq_true a1
    have hn : a.toNat < 32 := by omega
    refine ⟨a0, a1, dB hs hn, fun ha => ?_, fun ha => no (by rw [isO_T a0 a1]; exact ha)⟩
    have oa : isO (Tt ds) a = true := by rw [isO_T a0 a1]; exact ha
    have o1 : okS (Tt (dk1 ds)) = true := okS_setF (cs := Tt ds) hs (o := 257) (by omega) (by omega) _
    have o2 : okS (Tt (dk2 ds a.toNat)) = true := okS_pk2 hs hn
    have o3 : okS (Tt (dk3 ds a.toNat)) = true := okS_pk3 hs hn
    have o4 : okS (Tt (dk4 ds a.toNat)) = true := by rw [dk4_T hs hn]; exact okS_pk4 hs hn
    have o5 : okS (Tt (dk5 ds a.toNat)) = true := by rw [dk5_T hs hn]; exact okS_pk5 hs hn
    have m1 := dLen o1
    have m2 := dLen o2
    have m3 := dLen o3
    have m4 := dLen o4
    have m5 := dLen o5
    have hgl := hg a.toNat hn
    have eG : getI (dk4 ds a.toNat) (a.toNat * 7 + 34) = pkG (Tt ds) a.toNat := by
      unfold pkG
      rw [← dk4_T hs hn]; rfl
    have eg := pkG_eq hs hn
    rw [← eg] at hgl
    simp only [eG]
    have p4 : pk4 (Tt ds) a.toNat = Tt (dk4 ds a.toNat) := (dk4_T hs hn).symm
    have p5 : pk5 (Tt ds) a.toNat = Tt (dk5 ds a.toNat) := (dk5_T hs hn).symm
    have q : ∀ (x : List AV) (r : Nat), tl (run1 (Tt x) r) = setPart x (r * 7 + 36) (.int .i64 (IntKind.wrap .i64 (getI x (r * 7 + 36) + 1))) := fun x r => rfl
    repeat' first | refine And.intro ?_ ?_ | intro _
    all_goals try simp only [decide_eq_true_eq, decide_eq_false_iff_not] at *
    all_goals first
      | omega
      | exact dI hs (by omega) (by omega)
      | exact dI o1 (by omega) (by omega)
      | exact dI o2 (by omega) (by omega)
      | exact dI o3 (by omega) (by omega)
      | exact dI o4 (by omega) (by omega)
      | exact dI o5 (by omega) (by omega)
      | exact leB_iff.2 (by omega)
      | (rename_i h; simp only [pickN, pickE, oa, if_true, decide_eq_true h]; done)
      | (rename_i h; simp only [pickN, pickE, oa, if_true, decide_eq_false h, Bool.false_eq_true, if_false]; done)
      | (rename_i h; simp only [pickR, oa, if_true, decide_eq_true h, p5, q]; done)
      | (rename_i h; simp only [pickR, oa, if_true, decide_eq_false h, p4, q, Bool.false_eq_true, if_false]; done))
  simp only [vVs, vV, vR, vN, vI, vHp, List.map_cons, List.map_nil, Option.map_some, vBlk, vL] at this
  exact this
end Go.Am
