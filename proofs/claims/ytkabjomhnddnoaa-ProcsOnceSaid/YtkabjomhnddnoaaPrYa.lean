/-
  Processes: the program's New.
-/
import Derived.Test.YtkabjomhnddnoaaPrX
namespace Go.Am
open Go.Proofs Crc
set_option maxRecDepth 100000
theorem n10 (G : Nat → List AV) (Q : Ex → List AV → Hp → Prop) (R : AV → Hp → Prop) : vT G Q R (dcall (Dc Try.prog [35] [] [] 0) 100 10 Try.f10 [] [] 4) = (
    R (.ptr (.rw 0) (0)) [some ⟨1, ([.bool (true), .int .i64 (0), .int .i64 (0), .int .i64 (0), .int .i64 (0), .bool (false), .int .i64 (0), .nilp, .int .i64 (1), .int .i64 (0), .int .i64 (1), .int .i64 (0), .bool (false), .int .i64 (0), .ptr (.rw 1) (0), .int .i64 (0), .int .i64 (0), .int .i64 (0), .int .i64 (0), .bool (false), .int .i64 (0), .nilp, .int .i64 (0), .int .i64 (0), .int .i64 (0), .int .i64 (0), .bool (false), .int .i64 (0), .nilp, .int .i64 (0), .int .i64 (0), .int .i64 (0), .int .i64 (0), .bool (false), .int .i64 (0), .nilp, .int .i64 (0), .int .i64 (0), .int .i64 (0), .int .i64 (0), .bool (false), .int .i64 (0), .nilp, .int .i64 (0), .int .i64 (0), .int .i64 (0), .int .i64 (0), .bool (false), .int .i64 (0), .nilp, .int .i64 (0), .int .i64 (0), .int .i64 (0), .int .i64 (0), .bool (false), .int .i64 (0), .nilp, .int .i64 (0), .int .i64 (0), .int .i64 (0), .int .i64 (0), .bool (false), .int .i64 (0), .nilp, .int .i64 (0), .int .i64 (0), .int .i64 (0), .int .i64 (0), .bool (false), .int .i64 (0), .nilp, .int .i64 (0), .int .i64 (0), .int .i64 (0), .int .i64 (0), .bool (false), .int .i64 (0), .nilp, .int .i64 (0), .int .i64 (0), .int .i64 (0), .int .i64 (0), .bool (false), .int .i64 (0), .nilp, .int .i64 (0), .int .i64 (0), .int .i64 (0), .int .i64 (0), .bool (false), .int .i64 (0), .nilp] : List AV)⟩, some ⟨1, ([.bool (true), .int .u32 (0), .int .u32 (0), .int .u32 (0), .int .u32 (0), .int .u32 (0), .int .u32 (0), .int .u32 (0), .int .u32 (0), .int .u32 (0), .int .u32 (0), .int .u32 (0), .int .u32 (0), .int .u32 (0), .int .u32 (0), .int .u32 (0), .int .u32 (0), .int .u32 (0), .int .u32 (0)] : List AV)⟩]) := by kernel_rfl
theorem ACalls.pads {C : Ctx} {f : FuncId} {args : List AV} {H : Hp} {v0 : AV} (hn : ∀ k, nilT k v0 v0) : ∀ (k : Nat) {H1 : Hp}, (ACalls C f args H fun v H' => v = v0 ∧ H' = H1) → ACalls C f args H fun v H' => v = v0 ∧ H' = H1 ++ List.replicate k (some ⟨1, []⟩)
  | 0, H1, h => by rw [List.replicate_zero, List.append_nil]; exact h
  | k + 1, H1, h => by
    have := ACalls.pads hn k (H1 := H1 ++ [some ⟨1, []⟩]) (ACalls.nil 1 h fun v H' ⟨e1, e2⟩ => .inr ⟨v0, ⟨rfl, by rw [e2]⟩, nilH_refl _, by rw [e1]; exact hn _⟩)
    rw [List.append_assoc, List.singleton_append, ← List.replicate_succ] at this
    exact this
def new0 : Ptb := ⟨fun n => if n = 1 then ⟨1, 0, 1, 0, false, 0⟩ else zc, fun n => if n = 1 then some zeroP else none⟩
theorem new0_wf : Wf new0 := by
  refine ⟨fun n hn => ?_, fun n => ?_, rfl, rfl⟩
  · have : n ≠ 1 := by omega
    exact ⟨if_neg this, if_neg this⟩
  · by_cases h : n = 1
    · subst h; exact .inr ⟨rfl, by omega, by omega, rfl, by decide, by decide⟩
    · exact .inl ⟨if_neg h, if_neg h⟩
theorem new_view : View 0 [.ptr (.rw 0) 0] (can tsP new0) [.ptr (.rw 0) 0] ([some (⟨1, encV (fun n => if n = 1 then .ptr (.rw 1) 0 else .nilp) new0⟩ : Blk), some ⟨1, encP zeroP⟩] ++ List.replicate 12 (some ⟨1, []⟩)) := by
  refine View.renM (θ := [0, 2, 1, 3, 4, 5, 6, 7, 8, 9, 10, 11, 12, 13]) (Nat.zero_le _) (fun i hi => by omega) (by decide) ?_ rfl ⟨rfl, trivial⟩
  exact ⟨⟨rfl, rfl⟩, ⟨rfl, rfl⟩, ⟨rfl, rfl⟩, ⟨rfl, rfl⟩, ⟨rfl, rfl⟩, ⟨rfl, rfl⟩, ⟨rfl, rfl⟩, ⟨rfl, rfl⟩, ⟨rfl, rfl⟩, ⟨rfl, rfl⟩, ⟨rfl, rfl⟩, ⟨rfl, rfl⟩, ⟨rfl, rfl⟩, ⟨rfl, rfl⟩, trivial⟩
theorem p_new (G : Nat → List AV) (B : Nat) : ACalls (⟨Try.prog, G, B⟩ : Ctx) 10 [] [] fun v H' => v = .ptr (.rw 0) 0 ∧ H' = can tsP new0 := by
  have h := dcall_ok (C := (⟨Try.prog, G, B⟩ : Ctx)) (f := 10) (args := []) (H := []) (keep := 4) (R := fun v H' => v = .ptr (.rw 0) 0 ∧ H' = [some (⟨1, encV (fun n => if n = 1 then .ptr (.rw 1) 0 else .nilp) new0⟩ : Blk), some ⟨1, encP zeroP⟩]) (dgood (inl := [35]) (sums := []) (ls := []) (M := 0) (cs := []) (mix G B) (by kernel_rfl) .nil .nil) (by kernel_rfl) (by kernel_rfl) (by kernel_rfl) (fuel := 100) (n0 := 10) (by rw [n10]; exact ⟨rfl, rfl⟩)
  have h := h.keep (Nat.zero_le _) rfl rfl (by simp)
  have h := ACalls.pads (v0 := .ptr (.rw 0) 0) (fun k => show nilr k (.ptr (.rw 0) 0) (.ptr (.rw 0) 0) from .inl rfl) 12 h
  exact h.view fun v H' ⟨e1, e2⟩ => ⟨.ptr (.rw 0) 0, can tsP new0, ⟨rfl, rfl⟩, by rw [e1, e2]; exact new_view⟩
end Go.Am
