/-
  ProcsSteps: for every input the law returns true: processes, under any forks, ends, waits, groups, users, signals, always stand as the chapter says, and each call is answered so; copies go on apart.
-/
import Derived.Test.YtkabjomhnddnoaaPart29
import Derived.Test.YtkabjomhnddnoaaBase5
import Derived.Test.YtkabjomhnddnoaaRows
namespace Go.Proofs.Ytkabjomhnddnoaa
open Go.Am Go.ChangeShapes Go.WideShapes Go.ChangeAt Go.RowKit
set_option maxRecDepth 100000
theorem steps_at {L:List RoE} {k m:Nat} (h:yZ L .i64 k (m*4)):aA (GL L k) m:=by
 refine ⟨h.ok,fun i hi=>?_⟩
 have:=h.wf (i*4+2) (by omega)
 simp only [Lit.wf,Bool.and_eq_true,decide_eq_true_eq] at this;exact this.1
theorem steps_main {H:Type} (L:List RoE) (B:Nat) (xs:List AV) (ds:List (DataW H)) (hA:Mc Try.prog L 8 [22,3] xs ds):ACalls ⟨Try.prog,GL L,B⟩ 8 xs [] fun v _=>v=.bool true:=by
 obtain ⟨a,_,d1,_,rfl,rfl,h1,hA⟩:=hA.cons;obtain ⟨b,_,d2,_,rfl,rfl,h2,hA⟩:=hA.cons;obtain ⟨rfl,rfl⟩:=hA.nil;obtain ⟨k,m,hv,hk⟩:=Z5.rows (n:=5) (kd:=.i64) (z:=4) (e:=27) (by kernel_rfl) (by kernel_rfl) h1;obtain ⟨lw,rfl,_⟩:=Z5.i64 (n:=7) (k:=.i64) (by kernel_rfl) h2;refine ACalls.weaken (sK (GL L) B k m lw (steps_at hk)) ?_;intro ρ vs h;simp only [VRs] at h ⊢;obtain ⟨v,vs',r1,r2,r3⟩:=h;exact ⟨v,vs',r1,hv ρ v r2,r3⟩
theorem procsSteps_lifted (os:Os) (started:os.Started) (H:Type) (enc:TypeId×Value→H) :
  ReturnsInHanded {} Try.checked os 8 .any (Rows.procsStepsSpec.pre6 enc Try.prog Try.f8 Rows.procsStepsRow.domain false) (Rows.procsStepsSpec.post enc Try.prog Try.f8 false true false false):=by
 refine returnsInHanded_of_change (C:=Try.checked) (by kernel_rfl) started (by kernel_rfl) Try.func8
  (ChangeSpec.witness6 (enc:=enc) (C:=Try.checked) false ⟨#[],#[.slice none 0 0,.int .i64 0],[]⟩ 8 (by kernel_rfl) (by kernel_rfl) (by kernel_rfl) (by kernel_rfl)) ?_
 intro W base args ds gs before hval hW hcnd _;have hpar:Try.f8.params.toList=[22,3]:=by kernel_rfl
 have hW':=hW;obtain ⟨p,q,hA,_⟩:=hW';refine nJ (n:=8) (tb:=4) (by kernel_rfl) (fun t ht=>?_) (by kernel_rfl) (by kernel_rfl) rfl hval hW ?_ ?_
 ·rw [hpar] at ht;simp only [List.mem_cons,List.not_mem_nil,or_false] at ht;rcases ht with rfl | rfl
  ·exact ⟨by kernel_rfl,by kernel_rfl,of_decide_eq_true (by kernel_rfl)⟩
  ·exact ⟨by kernel_rfl,by kernel_rfl,of_decide_eq_true (by kernel_rfl)⟩
 ·have hlen:=(DataW.TrodAll.len hA).2;rw [hpar] at hlen
  match ds,hlen with
  | [d1,d2],_=>rfl
 ·intro L B xs _ hA;rw [hpar] at hA;exact steps_main L B xs ds hA
theorem procsSteps_over:Rows.procsStepsRow.holds Try.pinned (OpenSpec.ofChange Rows.procsStepsSpec):=
 OpenClaim.holds_of_wide 8 Try.f8 rfl rfl rfl rfl rfl rfl rfl ⟨rfl,rfl,rfl,rfl,rfl⟩ rfl rfl rfl rfl rfl (by kernel_rfl) Try.func8 (by kernel_rfl)
  (of_decide_eq_true (by kernel_rfl)) (by unfold Func.isWrapper;first | (rw [if_pos (by decide +kernel)];kernel_rfl) | (rw [if_neg (by decide +kernel)];exact ⟨rfl,rfl⟩))
  (fun os started H enc _=>procsSteps_lifted os started H enc)
theorem procsSteps_proved:Rows.ProcsStepsSaid:=procsSteps_over
#print axioms procsSteps_proved
end Go.Proofs.Ytkabjomhnddnoaa
