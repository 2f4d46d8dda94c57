/-
  ImagePages, for what is of bulk at most 1048576: the law returns true: what stands at each address, which pages there are, and going over them, left early and once more, is what the sections say.
-/
import Derived.Test.YthejjolnlngahaaPart18
import Derived.Test.YthejjolnlngahaaRows
namespace Go.Proofs.Ythejjolnlngahaa
open Go.Am Go.ChangeShapes Go.WideShapes Go.ChangeAt Go.RowKit
set_option maxRecDepth 100000
def isStrT (P:Program) (t:TypeId):Bool:=match P.underlying t with
 | some (.struct _)=>true
 | _=>false
theorem arg_struct {H:Type} {P:Program} {L:List RoE} {n:Nat} {t:TypeId} {a:AV} {d:DataW H} (hf:isStrT P t=true) (h:O3 P L n t a d):∃ cs,a=.agg cs∧D2 P L n t cs d:=by
 unfold isStrT at hf;split at hf
 ·rename_i fs hu;exact O3.struct hu h
 ·cases hf
theorem u32_arg {H:Type} {L:List RoE} {n:Nat} {a:AV} {d:DataW H} (h:O3 Try.prog L (n+2) 48 a d):∃ k m,(∀ (ρ:Env) v,VR ρ a v→VR ρ (.slice true (.ro k) 0 m) v)∧Mg L .u32 k m:=by
 rcases D2.asInts (e:=51) (kd:=.u32) (by kernel_rfl) (by kernel_rfl) (by kernel_rfl) (O3.slice (e:=51) (by kernel_rfl) h) with ⟨h1,_⟩ | ⟨k,ds,sp,h1,_,_,h2⟩
 ·simp only [List.cons.injEq,and_true] at h1;subst h1;exact ⟨L.length,0,fun ρ v hv=>Ez _ _ hv,by rw [Rk (Nat.le_refl _)];simp,fJ fun j hj=>by omega,fun j hj=>by omega⟩
 ·simp only [List.cons.injEq,and_true] at h1;subst h1;exact ⟨k,_,fun ρ v hv=>Af hv,h2⟩
theorem im_pages {H:Type} (L:List RoE) (B:Nat) (xs:List AV) (ds:List (DataW H)) (_:∀ k,(GL L k).all G8=true) (hA:Di Try.prog L 8 [25,48,3] xs ds) (_:Rows.uptoBulkAll ds≤1048576) :
  ACalls ⟨Try.prog,GL L,B⟩ 6 xs [] fun v _=>v=.bool true:=by
 obtain ⟨a,_,d1,_,rfl,rfl,h1,hA⟩:=hA.cons;obtain ⟨b,_,d2,_,rfl,rfl,h2,hA⟩:=hA.cons;obtain ⟨b3,_,d3,_,rfl,rfl,h3,hA⟩:=hA.cons;obtain ⟨rfl,rfl⟩:=hA.nil;obtain ⟨cs,rfl,h4⟩:=arg_struct (by kernel_rfl) h1;obtain ⟨s,k,c,kp,q,w,I⟩:=im_in (n:=3) h4;obtain ⟨ka,na,wa,A⟩:=u32_arg (n:=6) h2;obtain ⟨y,e,_⟩:=D2.asInt (k:=.i64) (by kernel_rfl) (O3.int (k:=.i64) (by kernel_rfl) h3);simp only [List.cons.injEq,and_true] at e;subst e;have σ1:σS (Hc L k kp ka) (L.length+1)=(.ro k,0):=by unfold σS Hc;rw [if_neg (by omega),if_pos rfl]
 have σ2:σS (Hc L k kp ka) (L.length+2)=(.ro kp,0):=by unfold σS Hc;rw [if_neg (by omega),if_neg (by omega),if_pos rfl]
 have σ3:σS (Hc L k kp ka) (L.length+3)=(.ro ka,0):=by unfold σS Hc;rw [if_neg (by omega),if_neg (by omega),if_neg (by omega),if_pos rfl]
 refine fT (args':=[.agg [.int .i64 s,.slice true (.ro (L.length+1)) 0 c,.slice true (.ro (L.length+2)) 0 q],.slice true (.ro (L.length+3)) 0 na,.int .i64 y]) (Cu.told (ka:=ka) (Yx (ka:=ka)) I (.inr ⟨kQ,fun v hv=>?_⟩)) (fun B=>cV B s y I A) rfl (fun ρ vs hv=>?_) (fun v hv=>by subst hv;exact ⟨rfl,rfl⟩)
 ·obtain ⟨i,rfl⟩:=A.flat v hv;exact ⟨rfl,fun σ=>by simp [sb]⟩
 ·simp only [sbs,sb,σ1,σ2,σ3,Nat.zero_add];simp only [VRs,VR] at hv ⊢;obtain ⟨z1,s1,r1,⟨us,r4,q3⟩,z2,s2,r2,q5,q4⟩:=hv;refine ⟨z1,s1,r1,⟨us,r4,?_⟩,z2,s2,r2,?_,q4⟩
  ·simpa only [VRs,VR] using w ρ _ q3
  ·simpa only [VR] using wa ρ _ q5
theorem imagePages_lifted (os:Os) (started:os.Started) (H:Type) (enc:TypeId×Value→H) (F:Stop.Interp) :
  ReturnsInHanded {} Try.checked os 6 .any ((Rows.OpenSpec.upto Rows.imagePagesSpec).pre6 enc Try.prog Try.f6 Rows.imagePagesUptoRow.domain false) (((Rows.OpenSpec.upto Rows.imagePagesSpec).at F).post enc Try.prog Try.f6 false true false false):=by
 refine returnsInHanded_of_cond (C:=Try.checked) (s:=Rows.OpenSpec.upto Rows.imagePagesSpec) (k:=Rows.uptoSmall) rfl (by kernel_rfl) started (by kernel_rfl) Try.func6
  (OpenSpec.witness (enc:=enc) (C:=Try.checked) (s:=Rows.OpenSpec.upto Rows.imagePagesSpec) (k:=Rows.uptoSmall) rfl false ⟨#[],#[(.agg #[.int .i64 0,.slice none 0 0,.slice none 0 0]),.slice none 0 0,.int .i64 0],[]⟩ 8 (by kernel_rfl) (by kernel_rfl) (by kernel_rfl)
   (x:=([(.agg [.lit (.int .i64 0),.nil,.nil]),.nil,.lit (.int .i64 0)],[],[])) (by kernel_rfl) rfl (by kernel_rfl)) ?_
 intro W base args ds gs before hval hW _ hk _;have hW':=hW;obtain ⟨p,q,hA,hV,rfl,_⟩:=hW';obtain ⟨rfl,rfl⟩:=trodVars_none hV;have hk:Rows.uptoBulkAll ds≤1048576:=by rw [List.append_nil] at hk;exact of_decide_eq_true hk
 have hpar:Try.f6.params.toList=[25,48,3]:=by kernel_rfl
 refine Xj (n:=8) (tb:=4) (by kernel_rfl) (fun t ht=>?_) (by kernel_rfl) (by kernel_rfl) rfl hval hW ?_ ?_
 ·rw [hpar] at ht;simp only [List.mem_cons,List.not_mem_nil,or_false] at ht;rcases ht with rfl | rfl | rfl
  ·exact ⟨by kernel_rfl,by kernel_rfl,of_decide_eq_true (by kernel_rfl)⟩
  ·exact ⟨by kernel_rfl,by kernel_rfl,of_decide_eq_true (by kernel_rfl)⟩
  ·exact ⟨by kernel_rfl,by kernel_rfl,of_decide_eq_true (by kernel_rfl)⟩
 ·have hlen:=(DataW.TrodAll.len hA).2;rw [hpar] at hlen
  match ds,hlen with
  | [d1,d2,d3],_=>rfl
 ·intro L B xs hN hA;rw [hpar] at hA;exact im_pages L B xs ds hN hA hk
theorem imagePages_over:Rows.imagePagesUptoRow.holds Try.pinned (Rows.OpenSpec.upto Rows.imagePagesSpec):=
 OpenClaim.holds_of_cond 6 Try.f6 rfl rfl rfl rfl rfl rfl rfl ⟨rfl,rfl,rfl,rfl,rfl⟩ rfl rfl rfl rfl rfl (by kernel_rfl) Try.func6 (by kernel_rfl)
  (of_decide_eq_true (by kernel_rfl)) (by unfold Func.isWrapper;first | (rw [if_pos (by decide +kernel)];kernel_rfl) | (rw [if_neg (by decide +kernel)];exact ⟨rfl,rfl⟩))
  (fun os started H enc _ F=>imagePages_lifted os started H enc F)
theorem imagePagesUpto_proved:Rows.ImagePagesUptoSaid:=imagePages_over
#print axioms imagePagesUpto_proved
end Go.Proofs.Ythejjolnlngahaa
