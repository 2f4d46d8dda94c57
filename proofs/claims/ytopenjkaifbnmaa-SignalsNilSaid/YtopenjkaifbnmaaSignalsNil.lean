/-
  SignalsNil, a closed sentence: the abstract machine's own run.
-/
import Derived.Test.YtopenjkaifbnmaaAmLaw
import Derived.Test.YtopenjkaifbnmaaRows
namespace Go.Proofs.Ytopenjkaifbnmaa
open Go.Am Go.ChangeShapes Go.WideShapes Go.ChangeAt Go.RowKit
set_option maxRecDepth 100000
theorem nil_run (G : Nat → List AV) (B : Nat) : vc (Kc ⟨Try.prog, G, B⟩) 3000 0 (.code (bodyOf Try.f7)) (frame0 Try.f7 []) [] (retK ⟨Try.prog, G, B⟩ Try.f7 fun v _ => chk (isT v) True) = True := by kernel_rfl
theorem nil_call (G : Nat → List AV) (B : Nat) : ACalls ⟨Try.prog, G, B⟩ 7 [] [] fun v _ => v = .bool true :=
  closed_run (C := ⟨Try.prog, G, B⟩) (by kernel_rfl) (fn := Try.f7) (by kernel_rfl) (by kernel_rfl) (by kernel_rfl) 3000 (nil_run G B)

theorem lifted (os : Os) (started : os.Started) (H : Type) (enc : TypeId × Value → H) :
    ReturnsInHanded {} Try.checked os 7 .any (Rows.signalsNilSpec.pre6 enc Try.prog Try.f7 Rows.signalsNilRow.domain false) (Rows.signalsNilSpec.post enc Try.prog Try.f7 false true false false) := by
  refine returnsInHanded_of_change (C := Try.checked) (by kernel_rfl) started (by kernel_rfl) Try.func7
    (ChangeSpec.witness6 (enc := enc) (C := Try.checked) false ⟨#[], #[], []⟩ 8 (by kernel_rfl) (by kernel_rfl) (by kernel_rfl) (by kernel_rfl)) ?_
  intro W base args ds gs before hval hW hcnd _
  refine law_contract (n := 8) (tb := 4) (by kernel_rfl) (fun t ht => by cases ht) (by kernel_rfl) (by kernel_rfl) rfl hval hW ?_ ?_
  · obtain ⟨p, q, hA, _⟩ := hW
    obtain ⟨rfl, rfl, rfl⟩ := trodAll_none hA
    rfl
  · intro L B xs hA
    match xs, ds, hA with
    | [], [], _ => exact nil_call _ _

theorem over : Rows.signalsNilRow.holds Try.pinned (OpenSpec.ofChange Rows.signalsNilSpec) :=
  OpenClaim.holds_of_wide 7 Try.f7 rfl rfl rfl rfl rfl rfl rfl ⟨rfl, rfl, rfl, rfl, rfl⟩ rfl rfl rfl rfl rfl (by kernel_rfl) Try.func7 (by kernel_rfl)
    (of_decide_eq_true (by kernel_rfl)) (by unfold Func.isWrapper; first | (rw [if_pos (by decide +kernel)]; kernel_rfl) | (rw [if_neg (by decide +kernel)]; exact ⟨rfl, rfl⟩))
    (fun os started H enc _ => lifted os started H enc)

theorem signalsNil_proved : Rows.SignalsNilSaid := over
#print axioms signalsNil_proved
end Go.Proofs.Ytopenjkaifbnmaa
