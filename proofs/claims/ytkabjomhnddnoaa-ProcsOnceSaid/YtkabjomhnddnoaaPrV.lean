/-
  Tables of processes: the words of Kill and Take.
-/
import Derived.Test.YtkabjomhnddnoaaPrUd
import Derived.Test.YtkabjomhnddnoaaPrR
namespace Go.Am
open Crc
def killK : EL → List EV → Option (EV × EL) := fun x rest => match rest with
  | [.int .i64 n, .int .i64 a, .int .i64 b] => some (.int .i64 (.uf 2415 (xI3 killE) [.agg x, .int .i64 n, .int .i64 a, .int .i64 b]), .uf 2416 (xX3 killX) [.agg x, .int .i64 n, .int .i64 a, .int .i64 b])
  | _ => none
def takeK : EL → List EV → Option (EV × EL) := fun x rest => match rest with
  | [.int .i64 n] => some (.tup [.agg (.of [.int .i64 (.uf 2423 (xI1 takeG) [.agg x, .int .i64 n]), .bool (.uf 2424 (xB1 takeN) [.agg x, .int .i64 n]), .int .u32 (.uf 2425 (xI1 takeA) [.agg x, .int .i64 n])]), .bool (.uf 2426 (xB1 takeO) [.agg x, .int .i64 n])], .uf 2427 (xX1 takeX) [.agg x, .int .i64 n])
  | _ => none
section
variable {C : Ctx} {t : TS} {f : FuncId} {m : Md2}
theorem killK_ok (h : ∀ s, Wf s → ∀ n a b, ACalls C f [.ptr (.rw 0) 0, .int .i64 n, .int .i64 a, .int .i64 b] (can t s) fun v H' => v = .int .i64 (killE s n a b) ∧ H' = mdHp t m (killX s n a b)) (hm : m ≠ .same) : KOk C t m f killK := by
  intro x rest v x' s hk hx hw
  unfold killK at hk
  split at hk
  · rename_i n a b
    simp only [Option.some.injEq, Prod.mk.injEq] at hk
    obtain ⟨rfl, rfl⟩ := hk
    refine ⟨by simp [vVs, vV, bnds, bnd], by simp [vV, bnd], killX s (vI C.G n) (vI C.G a) (vI C.G b), by simp only [vL, vVs, vV, hx, xX3_enc hw.thin], (hw.killX _ _ _).thin, fun e => absurd e hm, ?_⟩
    simp only [vVs, vV, vI, hx, xI3_enc hw.thin]
    exact h s hw _ _ _
  · simp at hk
theorem takeK_ok (h : ∀ s, Wf s → ∀ n, ACalls C f [.ptr (.rw 0) 0, .int .i64 n] (can t s) fun v H' => v = takeVv s n ∧ H' = mdHp t m (takeX s n)) (hm : m ≠ .same) : KOk C t m f takeK := by
  intro x rest v x' s hk hx hw
  unfold takeK at hk
  split at hk
  · rename_i n
    simp only [Option.some.injEq, Prod.mk.injEq] at hk
    obtain ⟨rfl, rfl⟩ := hk
    refine ⟨by simp [vVs, vV, bnds, bnd], by simp [vV, vVs, vL, bnds, bnd], takeX s (vI C.G n), by simp only [vL, vVs, vV, hx, xX1_enc hw.thin], (hw.takeX _).thin, fun e => absurd e hm, ?_⟩
    simp only [vVs, vV, vI, vB, vL, hx, xI1_enc hw.thin, xB1_enc hw.thin]
    exact h s hw _
  · simp at hk
end
end Go.Am
