/-
  The laws' common ground: known, and all calls of the program's sets by their summaries.
-/
import Derived.Test.YtopenjkaifbnmaaSgR2
import Derived.Test.YtopenjkaifbnmaaBase4
namespace Go.Am
open Go.Proofs Crc
set_option maxRecDepth 100000
theorem known_run (G : Nat → List AV) (B : Nat) : vc (Kc (⟨Try.prog, G, B⟩ : Ctx)) 3000 0 (.code (bodyOf Try.f8)) (frame0 Try.f8 []) [] (retK (⟨Try.prog, G, B⟩ : Ctx) Try.f8 fun v _ => chk (isT v) True) = True := by kernel_rfl
theorem known_call (G : Nat → List AV) (B : Nat) : ACalls (⟨Try.prog, G, B⟩ : Ctx) 8 [] [] fun v _ => v = .bool true :=
  closed_run (C := (⟨Try.prog, G, B⟩ : Ctx)) (by kernel_rfl) (fn := Try.f8) (by kernel_rfl) (by kernel_rfl) (by kernel_rfl) 3000 (known_run G B)
def trueD : DSum := fun args _ => match args with
  | [] => some (.one (.bool (.lit true)) [])
  | _ => none
theorem trueD_ok {C : Ctx} {f : FuncId} (h : ∀ G B, ACalls ⟨C.P, G, B⟩ f [] [] fun v _ => v = .bool true) : DSumOk C f trueD := by
  intro args H o ho
  unfold trueD at ho
  split at ho
  · simp at ho; subst ho
    exact DOut.of (true_sum_ok h) (by simp only [true_sum, vVs, vV, vB, List.map_nil])
  · simp at ho
def progS : List (Nat × DSum) := [(8, trueD), (10, handleS sideP), (11, sendS sideP), (12, maskS sideP), (13, handlerS sideP), (14, takeS sideP), (15, waitsS sideP), (16, pendS sideP), (17, copyS sideP), (32, heldS sideP), (38, childS sideP)]
theorem progS_ok (G : Nat → List AV) (B : Nat) : DSumsOk (⟨Try.prog, G, B⟩ : Ctx) progS :=
  .cons (trueD_ok fun G B => known_call G B) (.cons (handleS_ok (sideP_ok _) (p_handle G B)) (.cons (sendS_ok (sideP_ok _) (p_send G B)) (.cons (maskS_ok (sideP_ok _) (p_mask G B)) (.cons (handlerS_ok (sideP_ok _) (p_handler G B))
  (.cons (takeS_ok (sideP_ok _) (p_take G B)) (.cons (waitsS_ok (sideP_ok _) (p_waits G B)) (.cons (pendS_ok (sideP_ok _) (p_pend G B)) (.cons (copyS_ok (sideP_ok _) (p_copy G B)) (.cons (heldS_ok (sideP_ok _) (p_held G B)) (.cons (childS_ok (sideP_ok _) (p_child G B)) .nil))))))))))
/-- steps that came in: whole numbers, three by three -/
def stepsU : List AV → Bool := fun xs => match xs with
  | [.agg gs, .ptr _ n] => okI .i64 gs 0 (n * 3)
  | _ => false
end Go.Am
