/-
  Slices: Tell and Ticks.
-/
import Derived.Test.YtfalglcagngbnaaSlD
namespace Go.Am
open Go.Proofs
set_option maxRecDepth 100000
def zero7 : List AV := [.int .i64 0, .int .i64 0, .int .i64 0, .int .i64 0, .int .i64 0, .int .i64 0, .int .i64 0]
def tellL (cs : List AV) (a : Int) : List AV := if isO cs a then subL cs (a.toNat * 7 + 33) 7 else zero7
theorem subL_len {cs : List AV} {o n : Nat} (h : o + n ≤ cs.length) : (subL cs o n).length = n := by simp [subL]; omega
theorem subL_all {l : List AV} {n : Nat} (h : l.length = n) : subL l 0 n = l := by simp [subL, ← h]
theorem isI_cell {cs : List AV} {i : Nat} (h : isI .i64 cs i = true) : cs[i]? = some (.int .i64 (getI cs i)) := by
  unfold isI at h
  unfold getI
  cases hc : cs[i]? with
  | none => rw [hc] at h; simp at h
  | some v =>
    rw [hc] at h
    cases v <;> simp_all
theorem sub_cells {cs : List AV} (hs : okS cs = true) {n : Nat} (hn : n < 32) : cellsB (subL cs (n * 7 + 33) 7) = true := by
  have hl := okS_len hs
  unfold cellsB
  rw [List.all_eq_true]
  intro v hv
  obtain ⟨i, hi⟩ := List.getElem?_of_mem hv
  have hlt : i < 7 := by
    have := (List.getElem?_eq_some_iff.1 hi).1
    rwa [subL_len (by omega)] at this
  have : (subL cs (n * 7 + 33) 7)[i]? = cs[n * 7 + 33 + i]? := by
    unfold subL
    rw [List.getElem?_take, if_pos hlt, List.getElem?_drop]
  rw [this, isI_cell (okS_isF hs (by omega) (by omega))] at hi
  simp at hi; subst hi; rfl
theorem p_tell (G : Nat → List AV) (B : Nat) (cs : List AV) (a : Int) (hs : okS cs = true) : ACalls (⟨Try.prog, G, B⟩ : Ctx) 13 [.ptr (.rw 0) 0, .int .i64 a] [some ⟨1, cs⟩] fun v H => v = .tup [.agg (tellL cs a), .bool (isO cs a)] ∧ H.take 1 = [some ⟨1, cs⟩] := by
  have := dcall_ok (C := (⟨Try.prog, G, B⟩ : Ctx)) (fuel := 300) (n0 := 20) (f := 13) (fn := Try.f13) (args := [.ptr (.rw 0) (.lit 0), .int .i64 (.var 7 a)]) (H := [some ⟨1, .var 8 cs⟩]) (keep := 1)
    (R := fun v H => v = .tup [.agg (tellL cs a), .bool (isO cs a)] ∧ H = [some ⟨1, cs⟩]) (by rw [show loopsOf (bodyOf Try.f13) = [] by kernel_rfl]; exact dg0 G B) (by kernel_rfl) (by kernel_rfl) (by kernel_rfl) (by
    rw [t13]
    have hl := okS_len hs
    have no : isO cs a = false → (AV.tup [.agg zero7, .bool false] = AV.tup [.agg (tellL cs a), .bool (isO cs a)] ∧ ([some ⟨1, cs⟩] : Hp) = [some ⟨1, cs⟩]) := fun h => by simp [tellL, h]
    refine ⟨okS_0 hs, fun _ => ⟨fun h => ⟨fun h' => ?_, fun h' => ?_⟩, fun h => ?_⟩, fun h => by rw [okS_made hs] at h; cases h⟩
    · have g0 := of_decide_eq_true h
      have g1 := of_decide_eq_true h'
      have hn : a.toNat < 32 := by omega
      have ll : (subL cs (a.toNat * 7 + 33) 7).length = 7 := subL_len (by omega)
      refine ⟨decide_eq_true (by omega), h', okS_open hs hn, fun hb => ?_, fun hb => ?_⟩
      · have ho : isO cs a = true := by simp only [isO, hb, Bool.and_true, Bool.and_eq_true, decide_eq_true_eq]; omega
        refine ⟨decide_eq_true (by omega), h', leB_iff.2 (by omega), sub_cells hs hn, by rw [ll]; rfl, leB_iff.2 (by omega), ?_⟩
        rw [subL_all ll]
        simp [tellL, ho]
      · exact no (by simp only [isO, hb, Bool.and_false])
    · exact no (by have := of_decide_eq_false h'; simp only [isO, Bool.and_eq_false_iff, decide_eq_false_iff_not]; omega)
    · exact no (by have := of_decide_eq_false h; simp only [isO, Bool.and_eq_false_iff, decide_eq_false_iff_not]; omega))
  simp only [vVs, vV, vR, vN, vI, vHp, List.map_cons, List.map_nil, Option.map_some, vBlk, vL] at this
  exact this
theorem p_ticks (G : Nat → List AV) (B : Nat) (cs : List AV) (hs : okS cs = true) : ACalls (⟨Try.prog, G, B⟩ : Ctx) 14 [.ptr (.rw 0) 0] [some ⟨1, cs⟩] fun v H => v = .int .i64 (getI cs 257) ∧ H.take 1 = [some ⟨1, cs⟩] := by
  have := dcall_ok (C := (⟨Try.prog, G, B⟩ : Ctx)) (fuel := 300) (n0 := 20) (f := 14) (fn := Try.f14) (args := [.ptr (.rw 0) (.lit 0)]) (H := [some ⟨1, .var 8 cs⟩]) (keep := 1)
    (R := fun v H => v = .int .i64 (getI cs 257) ∧ H = [some ⟨1, cs⟩]) (by rw [show loopsOf (bodyOf Try.f14) = [] by kernel_rfl]; exact dg0 G B) (by kernel_rfl) (by kernel_rfl) (by kernel_rfl) (by
    rw [t14]
    exact ⟨okS_0 hs, fun _ => ⟨okS_tick hs, rfl, rfl⟩, fun h => by rw [okS_made hs] at h; cases h⟩)
  simp only [vVs, vV, vR, vN, vI, vHp, List.map_cons, List.map_nil, Option.map_some, vBlk, vL] at this
  exact this
end Go.Am
