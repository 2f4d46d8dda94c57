/-
  The chapter's rows hold: the machine's own run.
-/
import Derived.Test.YtkabjomhnddnoaaBase4
import Derived.Test.YtkabjomhnddnoaaProg
namespace Go.Proofs.Ytkabjomhnddnoaa
open Go.Am Go.RowKit
set_option maxRecDepth 100000
theorem known_run (G : Nat → List AV) (B : Nat) : vc (Kc ⟨Try.prog, G, B⟩) 3000 0 (.code (bodyOf Try.f9)) (frame0 Try.f9 []) [] (retK ⟨Try.prog, G, B⟩ Try.f9 fun v _ => chk (isT v) True) = True := by kernel_rfl
theorem known_call (G : Nat → List AV) (B : Nat) : ACalls ⟨Try.prog, G, B⟩ 9 [] [] fun v _ => v = .bool true :=
  closed_run (C := ⟨Try.prog, G, B⟩) (by kernel_rfl) (fn := Try.f9) (by kernel_rfl) (by kernel_rfl) (by kernel_rfl) 3000 (known_run G B)
end Go.Proofs.Ytkabjomhnddnoaa
