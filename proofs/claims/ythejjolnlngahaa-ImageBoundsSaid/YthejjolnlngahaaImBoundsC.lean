/-
  ImageBounds, a closed sentence: the law returns true: images at their bounds are taken, those just beyond are refused.
-/
import Derived.Test.YthejjolnlngahaaBdD
import Derived.Test.YthejjolnlngahaaRows
namespace Go.Proofs.Ythejjolnlngahaa
open Go.Am Go.ChangeShapes Go.WideShapes Go.ChangeAt Go.RowKit
set_option maxRecDepth 100000
theorem lifted (os:Os) (started:os.Started) (H:Type) (enc:TypeId×Value→H) :
  ReturnsInHanded {} Try.checked os 5 .any (Rows.imageBoundsSpec.pre6 enc Try.prog Try.f5 Rows.imageBoundsRow.domain false) (Rows.imageBoundsSpec.post enc Try.prog Try.f5 false true false false):=by
 refine returnsInHanded_of_change (C:=Try.checked) (by kernel_rfl) started (by kernel_rfl) Try.func5
  (ChangeSpec.witness6 (enc:=enc) (C:=Try.checked) false ⟨#[],#[],[]⟩ 8 (by kernel_rfl) (by kernel_rfl) (by kernel_rfl) (by kernel_rfl)) ?_
 intro W base args ds gs before hval hW hcnd _;refine Ub (n:=8) (tb:=4) (by kernel_rfl) (fun t ht=>by cases ht) (by kernel_rfl) (by kernel_rfl) rfl hval hW ?_ ?_
 ·obtain ⟨p,q,hA,_⟩:=hW;obtain ⟨rfl,rfl,rfl⟩:=trodAll_none hA;rfl
 ·intro L B xs _ hA;have hA:Ko Try.prog L 8 [] xs ds:=hA;cases xs<;>cases ds<;>first | exact Wc _ _ | (simp [Ko] at hA)
theorem over:Rows.imageBoundsRow.holds Try.pinned (OpenSpec.ofChange Rows.imageBoundsSpec):=
 OpenClaim.holds_of_wide 5 Try.f5 rfl rfl rfl rfl rfl rfl rfl ⟨rfl,rfl,rfl,rfl,rfl⟩ rfl rfl rfl rfl rfl (by kernel_rfl) Try.func5 (by kernel_rfl)
  (of_decide_eq_true (by kernel_rfl)) (by unfold Func.isWrapper;first | (rw [if_pos (by decide +kernel)];kernel_rfl) | (rw [if_neg (by decide +kernel)];exact ⟨rfl,rfl⟩))
  (fun os started H enc _=>lifted os started H enc)
theorem imageBounds_proved:Rows.ImageBoundsSaid:=over
#print axioms imageBounds_proved
end Go.Proofs.Ythejjolnlngahaa
