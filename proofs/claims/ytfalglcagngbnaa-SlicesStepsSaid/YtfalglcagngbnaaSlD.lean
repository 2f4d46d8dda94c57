/-
  Slices: what Pick does to a table.
-/
import Derived.Test.YtfalglcagngbnaaSlC
namespace Go.Am
open Go.Proofs
set_option maxRecDepth 100000
def pk1 (cs : List AV) : List AV := cs.set 257 (.int .i64 (IntKind.wrap .i64 (getI cs 257 + 1)))
def pk2 (cs : List AV) (n : Nat) : List AV := (pk1 cs).set (n * 7 + 36) (.int .i64 (IntKind.wrap .i64 (getI (pk1 cs) (n * 7 + 36) + 1)))
def pk3 (cs : List AV) (n : Nat) : List AV := (pk2 cs n).set (n * 7 + 39) (.int .i64 (if IntKind.wrap .i64 (getI (pk2 cs n) 257 - getI (pk2 cs n) (n * 7 + 38)) > getI (pk2 cs n) (n * 7 + 39) then IntKind.wrap .i64 (getI (pk2 cs n) 257 - getI (pk2 cs n) (n * 7 + 38)) else getI (pk2 cs n) (n * 7 + 39)))
def pk4 (cs : List AV) (n : Nat) : List AV := (pk3 cs n).set (n * 7 + 38) (.int .i64 (getI (pk2 cs n) 257))
def pk5 (cs : List AV) (n : Nat) : List AV := (pk4 cs n).set (n * 7 + 35) (.int .i64 (-1))
def pkG (cs : List AV) (n : Nat) : Int := getI (pk4 cs n) (n * 7 + 35)
def run1 (cs : List AV) (m : Nat) : List AV := cs.set (m * 7 + 37) (.int .i64 (IntKind.wrap .i64 (getI cs (m * 7 + 37) + 1)))
def pickR (cs : List AV) (a : Int) : List AV := if isO cs a then (if decide (pkG cs a.toNat ≥ 0) then run1 (pk5 cs a.toNat) (pkG cs a.toNat).toNat else run1 (pk4 cs a.toNat) a.toNat) else cs
def pickN (cs : List AV) (a : Int) : Int := if isO cs a then (if decide (pkG cs a.toNat ≥ 0) then pkG cs a.toNat else a) else 0
def pickE (cs : List AV) (a : Int) : Int := if isO cs a then 0 else 6
theorem okS_setF {cs : List AV} (h : okS cs = true) {o : Nat} (h1 : 33 ≤ o) (h2 : o < 258) (x : Int) : okS (cs.set o (.int .i64 x)) = true := by
  have := okS_setI h (k := o - 33) (by omega) x
  rwa [show o - 33 + 33 = o by omega] at this
theorem okS_isF {cs : List AV} (h : okS cs = true) {o : Nat} (h1 : 33 ≤ o) (h2 : o < 258) : isI .i64 cs o = true := by
  by_cases h3 : o = 257
  · subst h3; exact okS_tick h
  · have := okS_fld h (k := o - 33) (by omega)
    rwa [show o - 33 + 33 = o by omega] at this
section
variable {cs : List AV} (hs : okS cs = true) {n : Nat} (hn : n < 32)
include hs hn
theorem okS_pk2 : okS (pk2 cs n) = true := okS_setF (okS_setF hs (by omega) (by omega) _) (by omega) (by omega) _
theorem okS_pk3 : okS (pk3 cs n) = true := okS_setF (okS_pk2 hs hn) (by omega) (by omega) _
theorem okS_pk4 : okS (pk4 cs n) = true := okS_setF (okS_pk3 hs hn) (by omega) (by omega) _
theorem okS_pk5 : okS (pk5 cs n) = true := okS_setF (okS_pk4 hs hn) (by omega) (by omega) _
theorem pkG_eq : pkG cs n = getI cs (n * 7 + 35) := by
  have l0 := okS_len hs
  have l1 : (pk1 cs).length = 258 := by simp [pk1, l0]
  have l2 : (pk2 cs n).length = 258 := by simp [pk2, l1]
  have l3 : (pk3 cs n).length = 258 := by simp [pk3, l2]
  unfold pkG pk4
  rw [getI_set (by omega), if_neg (by omega)]
  unfold pk3
  rw [getI_set (by omega), if_neg (by omega)]
  unfold pk2
  rw [getI_set (by omega), if_neg (by omega)]
  unfold pk1
  rw [getI_set (by omega), if_neg (by omega)]
end
/-- a table whose gifts are slots -/
def okT (cs : List AV) : Bool := okS cs && (List.range 32).all fun i => decide (getI cs (i * 7 + 35) < 32)
theorem okT_iff {cs : List AV} : okT cs = true ↔ okS cs = true ∧ ∀ i, i < 32 → getI cs (i * 7 + 35) < 32 := by
  simp only [okT, Bool.and_eq_true, List.all_eq_true, List.mem_range, decide_eq_true_eq]
theorem p_pick (G : Nat → List AV) (B : Nat) (cs : List AV) (a : Int) (ht : okT cs = true) : ACalls (⟨Try.prog, G, B⟩ : Ctx) 12 [.ptr (.rw 0) 0, .int .i64 a] [some ⟨1, cs⟩] fun v H => v = .tup [.int .i64 (pickN cs a), .int .i64 (pickE cs a)] ∧ H.take 1 = [some ⟨1, pickR cs a⟩] := by
  obtain ⟨hs, hg⟩ := okT_iff.1 ht
  have := dcall_ok (C := (⟨Try.prog, G, B⟩ : Ctx)) (fuel := 200) (n0 := 10) (f := 12) (fn := Try.f12) (args := [.ptr (.rw 0) (.lit 0), .int .i64 (.var 2 a)]) (H := [some ⟨1, .var 8 cs⟩]) (keep := 1)
    (R := fun v H => v = .tup [.int .i64 (pickN cs a), .int .i64 (pickE cs a)] ∧ H = [some ⟨1, pickR cs a⟩]) (dgGL G B Try.f12 (by kernel_rfl)) (by kernel_rfl) (by kernel_rfl) (by kernel_rfl) (by
    rw [t12]
    have ea : isOU [.agg cs, .int .i64 a] = isO cs a := rfl
    have es : ∀ (cs : List AV) o x, setPart cs o (.int .i64 x) = cs.set o (.int .i64 x) := fun cs o x => setPart_cell (fun l h => by cases h)
    simp only [ea, es]
    refine ⟨hs, fun h1 => ?_, fun h1 => ?_⟩
    · obtain ⟨a0, a1, a2⟩ := isO_spec h1
      have hn : a.toNat < 32 := by omega
      have o1 : okS (pk1 cs) = true := okS_setF hs (by omega) (by omega) _
      have o2 := okS_pk2 hs hn
      have o3 := okS_pk3 hs hn
      have o4 := okS_pk4 hs hn
      have o5 := okS_pk5 hs hn
      have eg := pkG_eq hs hn
      have hgl := hg a.toNat hn
      refine ⟨okS_tick hs, leB_iff.2 (by rw [okS_len hs]; omega), decide_eq_true a0, decide_eq_true a1, okS_isF o1 (by omega) (by omega), leB_iff.2 (by have := okS_len o1; exact Nat.le_trans (by omega) (Nat.le_of_eq this.symm)),
        okS_isF o2 (by omega) (by omega), okS_tick o2, okS_isF o2 (by omega) (by omega), okS_tick o2, leB_iff.2 (Nat.le_trans (by omega) (Nat.le_of_eq (okS_len o2).symm)), leB_iff.2 (Nat.le_trans (by omega) (Nat.le_of_eq (okS_len o3).symm)), okS_isF o4 (by omega) (by omega), fun h2 => ?_, fun h2 => ?_⟩
      · have h2' : decide (pkG cs a.toNat ≥ 0) = true := h2
        have g0 := of_decide_eq_true h2'
        have g1 : pkG cs a.toNat < 32 := by rw [eg]; exact hgl
        have gn : (pkG cs a.toNat).toNat < 32 := by omega
        refine ⟨okS_isF o4 (by omega) (by omega), leB_iff.2 (Nat.le_trans (by omega) (Nat.le_of_eq (okS_len o4).symm)), decide_eq_true g0, decide_eq_true g1, okS_isF o5 (o := (pkG cs a.toNat).toNat * 7 + 37) (by omega) (by omega), decide_eq_true g0, decide_eq_true g1, leB_iff.2 (Nat.le_trans (m := 258) (show (pkG cs a.toNat).toNat * 7 + 38 ≤ 258 by omega) (Nat.le_of_eq (okS_len o5).symm)), ?_⟩
        simp only [pickN, pickE, pickR, h1, h2', if_true]
        exact ⟨rfl, rfl⟩
      · have h2' : decide (pkG cs a.toNat ≥ 0) = false := h2
        refine ⟨decide_eq_true a0, decide_eq_true a1, okS_isF o4 (by omega) (by omega), decide_eq_true a0, decide_eq_true a1, leB_iff.2 (Nat.le_trans (by omega) (Nat.le_of_eq (okS_len o4).symm)), ?_⟩
        simp only [pickN, pickE, pickR, h1, h2', if_true, Bool.false_eq_true, if_false]
        exact ⟨trivial, rfl⟩
    · simp [pickN, pickE, pickR, h1])
  simp only [vVs, vV, vR, vN, vI, vHp, List.map_cons, List.map_nil, Option.map_some, vBlk, vL] at this
  exact this
theorem okT_openR {cs : List AV} (h : okT cs = true) (a : Int) : okT (openR cs a) = true := by
  obtain ⟨hs, hg⟩ := okT_iff.1 h
  refine okT_iff.2 ⟨okS_openR hs a, fun i hi => ?_⟩
  unfold openR
  split
  · rename_i ho
    simp only [opens, Bool.and_eq_true, decide_eq_true_eq] at ho
    have hl := okS_len hs
    unfold getI
    rw [openL_get hs ho.2.2 a]
    by_cases hc : oN cs * 7 + 33 ≤ i * 7 + 35 ∧ i * 7 + 35 < oN cs * 7 + 40
    · rw [if_pos hc, show i * 7 + 35 - (oN cs * 7 + 33) = 2 by omega]
      simp [slotA]
    · rw [if_neg hc]
      have := hg i hi
      have e : getI (cs.set (oN cs + 1) (.bool true)) (i * 7 + 35) = getI cs (i * 7 + 35) := by rw [getI_set (by omega), if_neg (by omega)]
      unfold getI at e this
      rw [e]; exact this
  · exact hg i hi
theorem okT_giveR {cs : List AV} (h : okT cs = true) (a b : Int) : okT (giveR cs a b) = true := by
  obtain ⟨hs, hg⟩ := okT_iff.1 h
  refine okT_iff.2 ⟨okS_giveR hs a b, fun i hi => ?_⟩
  unfold giveR
  split
  · rename_i ho
    simp only [gives, Bool.and_eq_true] at ho
    have ha := isO_spec ho.1
    have hb := isO_spec ho.2.1
    have hl := okS_len hs
    rw [getI_set (by omega)]
    split
    · show (if (a == b) = true then (-1 : Int) else b) < 32
      split <;> omega
    · exact hg i hi
  · exact hg i hi
theorem okS_run1 {cs : List AV} (hs : okS cs = true) {m : Nat} (hm : m < 32) : okS (run1 cs m) = true := okS_setF hs (by omega) (by omega) _
theorem run1_gift {cs : List AV} (hs : okS cs = true) {m i : Nat} (hm : m < 32) : getI (run1 cs m) (i * 7 + 35) = getI cs (i * 7 + 35) := by
  have hl := okS_len hs
  unfold run1
  rw [getI_set (by omega), if_neg (by omega)]
theorem pk4_gift {cs : List AV} (hs : okS cs = true) {n i : Nat} (hn : n < 32) (hi : i < 32) : getI (pk4 cs n) (i * 7 + 35) = getI cs (i * 7 + 35) := by
  have l0 := okS_len hs
  have l1 : (pk1 cs).length = 258 := by simp [pk1, l0]
  have l2 : (pk2 cs n).length = 258 := by simp [pk2, l1]
  have l3 : (pk3 cs n).length = 258 := by simp [pk3, l2]
  unfold pk4
  rw [getI_set (by omega), if_neg (by omega)]
  unfold pk3
  rw [getI_set (by omega), if_neg (by omega)]
  unfold pk2
  rw [getI_set (by omega), if_neg (by omega)]
  unfold pk1
  rw [getI_set (by omega), if_neg (by omega)]
theorem okT_pickR {cs : List AV} (h : okT cs = true) (a : Int) : okT (pickR cs a) = true := by
  obtain ⟨hs, hg⟩ := okT_iff.1 h
  unfold pickR
  split
  · rename_i h1
    obtain ⟨a0, a1, _⟩ := isO_spec h1
    have hn : a.toNat < 32 := by omega
    have o4 := okS_pk4 hs hn
    have o5 := okS_pk5 hs hn
    have eg := pkG_eq hs hn
    have hgl := hg a.toNat hn
    split
    · rename_i h2
      have g0 := of_decide_eq_true h2
      have gn : (pkG cs a.toNat).toNat < 32 := by omega
      refine okT_iff.2 ⟨okS_run1 o5 gn, fun i hi => ?_⟩
      rw [run1_gift o5 gn]
      unfold pk5
      rw [getI_set (by have := okS_len o4; omega)]
      split
      · show (-1 : Int) < 32; omega
      · rw [pk4_gift hs hn hi]; exact hg i hi
    · refine okT_iff.2 ⟨okS_run1 o4 hn, fun i hi => ?_⟩
      rw [run1_gift o4 hn, pk4_gift hs hn hi]; exact hg i hi
  · exact h
def okTU : List AV → Bool := fun xs => match xs with
  | [.agg cs] => okT cs
  | _ => false
def pickNU : List AV → Int := fun xs => match xs with
  | [.agg cs, .int _ a] => pickN cs a
  | _ => 0
def pickEU : List AV → Int := fun xs => match xs with
  | [.agg cs, .int _ a] => pickE cs a
  | _ => 0
def pickRU : List AV → List AV := fun xs => match xs with
  | [.agg cs, .int _ a] => pickR cs a
  | _ => []
def pickS : DSum := fun args H => match args with
  | [.ptr (.rw i) (.lit 0), .int .i64 a] => match H[i]? with
    | some (some ⟨1, l⟩) => some (.chk (.uf 1308 okTU [.agg l]) (.one (.tup [.int .i64 (.uf 1309 pickNU [.agg l, .int .i64 a]), .int .i64 (.uf 1310 pickEU [.agg l, .int .i64 a])]) [.set i ⟨1, .uf 1311 pickRU [.agg l, .int .i64 a]⟩]))
    | _ => none
  | _ => none
theorem pickS_ok (G : Nat → List AV) (B : Nat) : DSumOk (⟨Try.prog, G, B⟩ : Ctx) 12 pickS := by
  intro args H o ho
  unfold pickS at ho
  split at ho
  · rename_i i a
    split at ho
    · rename_i l hi
      simp only [Option.some.injEq] at ho
      subst ho
      intro h1
      simp only [vB, vVs, vV, okTU] at h1
      have key := p_pick G B (vL G l) (vI G a) h1
      have er : vL G (.uf 1311 pickRU [.agg l, .int .i64 a]) = pickR (vL G l) (vI G a) := by simp only [vL, vVs, vV, pickRU]
      refine DOut.set1 (C := (⟨Try.prog, G, B⟩ : Ctx)) hi ?_ (okS_flat (okT_iff.1 h1).1 0) (by rw [er]; exact okS_flat (okT_iff.1 (okT_pickR h1 _)).1 0) (by simp [vVs, vV, bnds, bnd]) (by simp [vV, vVs, bnd, bnds]) (by simp [vV])
      rw [er]
      simp only [vVs, vV, vI, pickNU, pickEU]
      exact key
    · simp at ho
  · simp at ho
end Go.Am
