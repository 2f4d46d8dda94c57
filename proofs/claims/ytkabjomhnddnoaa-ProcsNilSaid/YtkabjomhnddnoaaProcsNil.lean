/-
  ProcsNil, a closed sentence.
-/
import Derived.Test.YtkabjomhnddnoaaPrNilRun
import Derived.Test.YtkabjomhnddnoaaRows
namespace Go.Proofs.Ytkabjomhnddnoaa
open Go.Am Go.ChangeShapes Go.WideShapes Go.ChangeAt Go.RowKit
set_option maxRecDepth 100000
theorem lifted (os : Os) (started : os.Started) (H : Type) (enc : TypeId × Value → H) :
    ReturnsInHanded {} Try.checked os 7 .any (Rows.procsNilSpec.pre6 enc Try.prog Try.f7 Rows.procsNilRow.domain false) (Rows.procsNilSpec.post enc Try.prog Try.f7 false true false false) := by
  refine returnsInHanded_of_change (C := Try.checked) (by kernel_rfl) started (by kernel_rfl) Try.func7
    (ChangeSpec.witness6 (enc := enc) (C := Try.checked) false ⟨#[], #[], []⟩ 8 (by kernel_rfl) (by kernel_rfl) (by kernel_rfl) (by kernel_rfl)) ?_
  intro W base args ds gs before hval hW hcnd _
  refine law_contract (n := 8) (tb := 4) (by kernel_rfl) (fun t ht => by cases ht) (by kernel_rfl) (by kernel_rfl) rfl hval hW ?_ ?_
  · obtain ⟨p, q, hA, _⟩ := hW
    obtain ⟨rfl, rfl, rfl⟩ := trodAll_none hA
    rfl
  · intro L B xs _ hA
    have hA : ArgDs Try.prog L 8 [] xs ds := hA
    cases xs <;> cases ds <;> first | exact nil_call _ _ | (simp [ArgDs] at hA)

theorem over : Rows.procsNilRow.holds Try.pinned (OpenSpec.ofChange Rows.procsNilSpec) :=
  OpenClaim.holds_of_wide 7 Try.f7 rfl rfl rfl rfl rfl rfl rfl ⟨rfl, rfl, rfl, rfl, rfl⟩ rfl rfl rfl rfl rfl (by kernel_rfl) Try.func7 (by kernel_rfl)
    (of_decide_eq_true (by kernel_rfl)) (by unfold Func.isWrapper; first | (rw [if_pos (by decide +kernel)]; kernel_rfl) | (rw [if_neg (by decide +kernel)]; exact ⟨rfl, rfl⟩))
    (fun os started H enc _ => lifted os started H enc)

theorem procsNil_proved : Rows.ProcsNilSaid := over
#print axioms procsNil_proved
end Go.Proofs.Ytkabjomhnddnoaa
