/-
  ProcsNil: the pieces joined.
-/
import Derived.Test.YtkabjomhnddnoaaPrNilF
import Derived.Test.YtkabjomhnddnoaaPrKnown
namespace Go.Proofs.Ytkabjomhnddnoaa
open Go.Am Go.RowKit
set_option maxRecDepth 100000
theorem sum9_ok (G : Nat → List AV) (B : Nat) : SumsOk ⟨Try.prog, G, B⟩ sumK9 := by
  intro f args H v hs h
  unfold sumK9 at h
  cases hf : Nat.beq f 9 with
  | true =>
    have := Nat.eq_of_beq_eq_true hf
    subst this
    exact true_sum_ok (C := ⟨Try.prog, G, B⟩) (f := 9) (fun G B => known_call G B) args H v hs h
  | false =>
    simp only [hf] at h
    cases h
section
variable {C : Ctx} (hm : C.P.follows .mixedOrders = true) (hs : SumsOk C sumK9) {c : Code} {Q : Post} {F0 : Fr}
  (p1 : ∀ Q, vcs (Kcx C [9, 29] sumK9) 3000 0 (takeS 3 c) F0 [] Q = Q .normal pnF1 pnH1)
  (p2 : ∀ Q, vcs (Kcx C [9, 29] sumK9) 3000 0 (takeS 4 (dropS 3 c)) pnF1 pnH1 Q = Q .normal pnF2 pnH2)
  (p3 : ∀ Q, vcs (Kcx C [9, 29] sumK9) 3000 0 (takeS 4 (dropS 7 c)) pnF2 pnH2 Q = Q .normal pnF3 pnH3)
  (p4 : ∀ Q, vcs (Kcx C [9, 29] sumK9) 3000 0 (takeS 5 (dropS 11 c)) pnF3 pnH3 Q = Q .normal pnF4 pnH4)
  (p5 : ∀ Q, vcs (Kcx C [9, 29] sumK9) 3000 0 (takeS 2 (dropS 16 c)) pnF4 pnH4 Q = Q .normal pnF5 pnH5)
  (p6 : vc (Kcx C [9] sumK9) 3000 0 (.code (dropS 18 c)) pnF5 pnH5 Q = True)
include hm hs p1 p2 p3 p4 p5 p6
theorem chain : AWp C 0 c F0 [] Q := by
  have k5 := wpcx hm hs 3000 (of_eq_true p6)
  have k4 := cut_at hm hs 3000 16 2 18 rfl p5 k5
  have k3 := cut_at hm hs 3000 11 5 16 rfl p4 k4
  have k2 := cut_at hm hs 3000 7 4 11 rfl p3 k3
  have k1 := cut_at hm hs 3000 3 4 7 rfl p2 k2
  exact cut_at hm hs 3000 0 3 3 rfl p1 k1
end
theorem nil_call (G : Nat → List AV) (B : Nat) : ACalls ⟨Try.prog, G, B⟩ 7 [] [] fun v _ => v = .bool true :=
  ACalls.monoK (acalls_of (C := ⟨Try.prog, G, B⟩) (fn := Try.f7) (c := bodyOf Try.f7) (by kernel_rfl) (by kernel_rfl) (by kernel_rfl)
    (chain (by kernel_rfl) (sum9_ok G B) (pn1 G B sumK9) (pn2 G B sumK9) (pn3 G B sumK9) (pn4 G B sumK9) (pn5 G B sumK9) (pn6 G B))) fun v H' h => isT_eq h
end Go.Proofs.Ytkabjomhnddnoaa
