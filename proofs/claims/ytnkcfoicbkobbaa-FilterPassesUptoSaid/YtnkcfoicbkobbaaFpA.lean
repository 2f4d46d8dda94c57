/-
  Filters: clones that are told as what they are clones of; Passing.
-/
import Derived.Test.YtnkcfoicbkobbaaFlC
import Derived.Test.YtnkcfoicbkobbaaFlKnown
import Derived.Test.YtnkcfoicbkobbaaBase6
namespace Go.Am
open Go.Proofs
set_option maxRecDepth 100000
theorem t36 (G : Nat → List AV) (k n : Nat) (Q : Ex → List AV → Hp → Prop) (R : AV → Hp → Prop) : vT G Q R (dcall (Dc Try.prog [] [] [] 0) 300 20 Try.f36 [.slice false (.ro (.var 1 k)) (.lit 0) (.var 2 n)] [] 2) = (
    leB (n) (List.length (G (k))) = true ∧
    cellsB (subL (G (k)) (0) (n)) = true ∧
    leB (n) (140737488355328) = true ∧
    R (.slice false (.rw 1) (0) (n)) [none, some ⟨1, (subL (G (k)) (0) (n))⟩]) := by kernel_rfl
theorem t35 (G : Nat → List AV) (k n : Nat) (Q : Ex → List AV → Hp → Prop) (R : AV → Hp → Prop) : vT G Q R (dcall (Dc Try.prog [] [] [] 0) 300 20 Try.f35 [.slice false (.ro (.var 1 k)) (.lit 0) (.var 2 n)] [] 2) = (
    leB ((n) * 3) (List.length (G (k))) = true ∧
    cellsB (subL (G (k)) (0) ((n) * 3)) = true ∧
    leB ((n) * 24) (140737488355328) = true ∧
    R (.slice false (.rw 1) (0) (n)) [none, some ⟨3, (subL (G (k)) (0) ((n) * 3))⟩]) := by kernel_rfl
theorem t36n (G : Nat → List AV) (k : Nat) (Q : Ex → List AV → Hp → Prop) (R : AV → Hp → Prop) : vT G Q R (dcall (Dc Try.prog [] [] [] 0) 300 20 Try.f36 [.nils] [] 0) = (
    R (.nils) []) := by kernel_rfl
theorem t35n (G : Nat → List AV) (k : Nat) (Q : Ex → List AV → Hp → Prop) (R : AV → Hp → Prop) : vT G Q R (dcall (Dc Try.prog [] [] [] 0) 300 20 Try.f35 [.nils] [] 0) = (
    R (.nils) []) := by kernel_rfl
theorem take_atF {H : Hp} {K : Hp} {k : Nat} (h : H.take k = K) {j : Nat} (hj : j < k) : H[j]? = K[j]? := by rw [← h, List.getElem?_take, if_pos hj]
/-- a list that may be nil: nil or one that is not -/
theorem ACalls.mbe {C : Ctx} {f : FuncId} {r : Ref} {o n : Nat} {rest : List AV} {H : Hp} {K : AV → Hp → Prop} (h0 : n = 0 → ACalls C f (.nils :: rest) H K) (h1 : ACalls C f (.slice false r o n :: rest) H K) : ACalls C f (.slice true r o n :: rest) H K := by
  refine ⟨h1.1, fun ρ w cargs hH hv => ?_⟩
  have hv0 := hv
  simp only [VRs, VR] at hv
  obtain ⟨v, vs, rfl, ⟨ca, cap, rfl, hl, hc⟩, hvs⟩ := hv
  rcases hc with ⟨rfl, rfl, _⟩ | hc
  · have e : n = 0 := by omega
    refine (h0 e).2 ρ w _ hH ?_
    simp only [VRs, VR]
    exact ⟨_, vs, rfl, by rw [e], hvs⟩
  · refine h1.2 ρ w _ hH ?_
    simp only [VRs, VR]
    exact ⟨_, vs, rfl, ⟨ca, cap, rfl, hl, .inr hc⟩, hvs⟩
/-- where a clone is told to stand -/
def clK (k n e : Nat) : Nat := if n = 0 then e else k
/-- may the contents be cloned as a whole? -/
def clC (z : Nat) (cs : List AV) (n : Nat) : Bool := Nat.beq n 0 || (Nat.beq cs.length (n * z) && (cellsB cs && (norws cs && bnds 0 cs)))
theorem clC_iff {z : Nat} {cs : List AV} {n : Nat} : clC z cs n = true ↔ n = 0 ∨ (cs.length = n * z ∧ cellsB cs = true ∧ norws cs = true ∧ bnds 0 cs = true) := by
  simp only [clC, Bool.or_eq_true, Bool.and_eq_true]
  exact ⟨fun h => h.imp Nat.eq_of_beq_eq_true fun h => ⟨Nat.eq_of_beq_eq_true h.1, h.2⟩, fun h => h.imp (fun h => by rw [h]; rfl) fun h => ⟨by rw [h.1]; exact Nat.beq_refl _, h.2⟩⟩
theorem subL_whole {cs : List AV} {n : Nat} (h : cs.length = n) : subL cs 0 n = cs := by
  unfold subL
  rw [List.drop_zero, List.take_of_length_le (by omega)]
theorem cl_frz (G : Nat → List AV) (B : Nat) {f : FuncId} (z k n e : Nat) (hE : G e = []) (hc : clC z (G k) n = true)
    (h : ACalls (⟨Try.prog, G, B⟩ : Ctx) f [.slice false (.ro k) 0 n] [] fun v H' => v = .slice false (.rw 1) 0 n ∧ H'.take 2 = [none, some ⟨z, subL (G k) 0 (n * z)⟩]) (hn : ACalls (⟨Try.prog, G, B⟩ : Ctx) f [.nils] [] fun v H' => v = .nils) (hz : z ≠ 4294967291) :
    ACalls (⟨Try.prog, G, B⟩ : Ctx) f [.slice true (.ro k) 0 n] [] fun v H' => v = .slice true (.ro (clK k n e)) 0 n ∧ H' = [] := by
  have flat : bnds 0 (subL (G k) 0 (n * z)) = true := by
    rcases clC_iff.1 hc with rfl | ⟨h1, _, _, h4⟩
    · simp [subL, bnds]
    · rw [subL_whole h1]; exact h4
  refine ACalls.mbe (fun e0 => ?_) ?_
  · subst e0
    have h2 : ACalls (⟨Try.prog, G, B⟩ : Ctx) f [.nils] [] fun v H' => v = .slice true (.ro (clK k 0 e)) 0 0 := hn.conv fun v H' h => ⟨_, rfl, fun ρ cv hv => by subst h; exact VR_nils _ _ hv⟩
    exact (h2.monoK fun v H' h => ⟨h, H', rfl⟩).trim rfl rfl (by simp)
  · have h1 : ACalls (⟨Try.prog, G, B⟩ : Ctx) f [.slice false (.ro k) 0 n] [] fun v H' => v = .slice false (.rw 0) 0 n ∧ H' = [some ⟨z, subL (G k) 0 (n * z)⟩] :=
      ACalls.one h flat (by simp [bnd]) (fun j => by simp [ren]) fun v H' ⟨q1, q2⟩ => .inl ⟨1, by have := take_atF q2 (j := 1) (by omega); simpa using this, by rw [q1]; simp [ren]⟩
    have h2 := ACalls.frz1 (H := []) (k := clK k n e) (mb := false) (n := n) rfl (by unfold isRec; exact beqF hz) (fun j v hj => ?_) h1
    · exact h2.conv fun v H' ⟨q1, q2⟩ => ⟨_, ⟨rfl, q2⟩, fun ρ cv hv => by subst q1; exact VR_may hv⟩
    · have hj : (G (clK k n e))[j]? = some v := hj
      unfold clK at hj
      split at hj
      · rw [hE] at hj; simp at hj
      · rename_i h0
        rcases clC_iff.1 hc with h3 | ⟨h3, _, h4, _⟩
        · exact absurd h3 h0
        · refine ⟨v, by rw [subL_whole h3]; exact hj, ?_, .rfl⟩
          rw [norws_eq, List.all_eq_true] at h4
          exact h4 v (List.mem_of_getElem? hj)
theorem cl36 (G : Nat → List AV) (B : Nat) (k n e : Nat) (hE : G e = []) (hn : n ≤ 1048576) (hc : clC 1 (G k) n = true) : ACalls (⟨Try.prog, G, B⟩ : Ctx) 36 [.slice true (.ro k) 0 n] [] fun v H' => v = .slice true (.ro (clK k n e)) 0 n ∧ H' = [] := by
  refine cl_frz G B 1 k n e hE hc ?_ ?_ (by omega)
  · have := dcall_ok (C := (⟨Try.prog, G, B⟩ : Ctx)) (fuel := 300) (n0 := 20) (f := 36) (fn := Try.f36) (args := [.slice false (.ro (.var 1 k)) (.lit 0) (.var 2 n)]) (H := []) (keep := 2)
      (R := fun v H => v = .slice false (.rw 1) 0 n ∧ H = [none, some ⟨1, subL (G k) 0 (n * 1)⟩]) (by rw [show loopsOf (bodyOf Try.f36) = [] by kernel_rfl]; exact dgF G B) (by kernel_rfl) (by kernel_rfl) (by kernel_rfl) (by
      rw [t36]
      rw [Nat.mul_one]
      rcases clC_iff.1 hc with rfl | ⟨h1, h2, _, _⟩
      · exact ⟨leB_iff.2 (Nat.zero_le _), rfl, leB_iff.2 (by omega), rfl, rfl⟩
      · rw [Nat.mul_one] at h1
        exact ⟨leB_iff.2 (show n ≤ (G k).length by omega), by rw [subL_whole h1]; exact h2, leB_iff.2 (by omega), rfl, rfl⟩)
    exact this
  · have := dcall_ok (C := (⟨Try.prog, G, B⟩ : Ctx)) (fuel := 300) (n0 := 20) (f := 36) (fn := Try.f36) (args := [.nils]) (H := []) (keep := 0) (R := fun v _ => v = .nils) (by rw [show loopsOf (bodyOf Try.f36) = [] by kernel_rfl]; exact dgF G B) (by kernel_rfl) (by kernel_rfl) (by kernel_rfl) (by
      rw [t36n G k])
    exact this.monoK fun v H' h => h
theorem cl35 (G : Nat → List AV) (B : Nat) (k n e : Nat) (hE : G e = []) (hn : n ≤ 1048576) (hc : clC 3 (G k) n = true) : ACalls (⟨Try.prog, G, B⟩ : Ctx) 35 [.slice true (.ro k) 0 n] [] fun v H' => v = .slice true (.ro (clK k n e)) 0 n ∧ H' = [] := by
  refine cl_frz G B 3 k n e hE hc ?_ ?_ (by omega)
  · have := dcall_ok (C := (⟨Try.prog, G, B⟩ : Ctx)) (fuel := 300) (n0 := 20) (f := 35) (fn := Try.f35) (args := [.slice false (.ro (.var 1 k)) (.lit 0) (.var 2 n)]) (H := []) (keep := 2)
      (R := fun v H => v = .slice false (.rw 1) 0 n ∧ H = [none, some ⟨3, subL (G k) 0 (n * 3)⟩]) (by rw [show loopsOf (bodyOf Try.f35) = [] by kernel_rfl]; exact dgF G B) (by kernel_rfl) (by kernel_rfl) (by kernel_rfl) (by
      rw [t35]
      rcases clC_iff.1 hc with rfl | ⟨h1, h2, _, _⟩
      · exact ⟨leB_iff.2 (by omega), rfl, leB_iff.2 (by omega), rfl, rfl⟩
      · exact ⟨leB_iff.2 (show n * 3 ≤ (G k).length by omega), by rw [subL_whole h1]; exact h2, leB_iff.2 (by omega), rfl, rfl⟩)
    exact this
  · have := dcall_ok (C := (⟨Try.prog, G, B⟩ : Ctx)) (fuel := 300) (n0 := 20) (f := 35) (fn := Try.f35) (args := [.nils]) (H := []) (keep := 0) (R := fun v _ => v = .nils) (by rw [show loopsOf (bodyOf Try.f35) = [] by kernel_rfl]; exact dgF G B) (by kernel_rfl) (by kernel_rfl) (by kernel_rfl) (by
      rw [t35n G k])
    exact this.monoK fun v H' h => h
end Go.Am
