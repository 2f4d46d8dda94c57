/-
  The chapter's rows hold: the machine's own run.
-/
import Derived.Test.YtnkcfoicbkobbaaBase4
import Derived.Test.YtnkcfoicbkobbaaProg
namespace Go.Proofs.Ytnkcfoicbkobbaa
open Go.Am Go.RowKit
set_option maxRecDepth 100000
theorem known_run (G : Nat → List AV) (B : Nat) : vc (Kc ⟨Try.prog, G, B⟩) 3000 0 (.code (bodyOf Try.f8)) (frame0 Try.f8 []) [] (retK ⟨Try.prog, G, B⟩ Try.f8 fun v _ => chk (isT v) True) = True := by kernel_rfl
theorem known_call (G : Nat → List AV) (B : Nat) : ACalls ⟨Try.prog, G, B⟩ 8 [] [] fun v _ => v = .bool true :=
  closed_run (C := ⟨Try.prog, G, B⟩) (by kernel_rfl) (fn := Try.f8) (by kernel_rfl) (by kernel_rfl) (by kernel_rfl) 3000 (known_run G B)
end Go.Proofs.Ytnkcfoicbkobbaa
