/-
  ImageBytes, for what is of bulk at most 1048576: the law returns true: the file that an image has is the document's one, and reads back as the image; an image that may not be has none.
-/
import Derived.Test.YthejjolnlngahaaPart20
import Derived.Test.YthejjolnlngahaaRows
namespace Go.Proofs.Ythejjolnlngahaa
open Go.Am Go.ChangeShapes Go.WideShapes Go.ChangeAt Go.RowKit
set_option maxRecDepth 100000
def isStrT (P:Program) (t:TypeId):Bool:=match P.underlying t with
 | some (.struct _)=>true
 | _=>false
theorem arg_struct {H:Type} {P:Program} {L:List RoE} {n:Nat} {t:TypeId} {a:AV} {d:DataW H} (hf:isStrT P t=true) (h:Cs P L n t a d):∃ cs,a=.agg cs∧F7 P L n t cs d:=by
 unfold isStrT at hf;split at hf
 ·rename_i fs hu;exact Cs.struct hu h
 ·cases hf
theorem im_bytes {H:Type} (L:List RoE) (B:Nat) (xs:List AV) (ds:List (DataW H)) (_:∀ k,(GL L k).all E6=true) (hA:Fu Try.prog L 8 [25] xs ds) (_:Rows.uptoBulkAll ds≤1048576) :
  ACalls ⟨Try.prog,GL L,B⟩ 7 xs [] fun v _=>v=.bool true:=by
 obtain ⟨a,_,d1,_,rfl,rfl,h1,hA⟩:=hA.cons;obtain ⟨rfl,rfl⟩:=hA.nil;obtain ⟨cs,rfl,h4⟩:=arg_struct (by kernel_rfl) h1;obtain ⟨s,k,c,kp,q,w,I⟩:=im_in (n:=3) h4;have σ1:σS (Oi L k kp L.length) (L.length+1)=(.ro k,0):=by unfold σS Oi;rw [if_neg (by omega),if_pos rfl]
 have σ2:σS (Oi L k kp L.length) (L.length+2)=(.ro kp,0):=by unfold σS Oi;rw [if_neg (by omega),if_neg (by omega),if_pos rfl]
 have N:Iv L k c kp (GP L k c kp L.length):=GP_new;refine oV (args':=[.agg [.int .i64 s,.slice true (.ro (L.length+1)) 0 c,.slice true (.ro (L.length+2)) 0 q]]) (Iv.told (ka:=L.length) N I (.inl (by rw [GP_a,Ws (Nat.le_refl _)]))) (fun B=>mB (GP L k c kp L.length) B (L.length+1) (L.length+2) c q s ?_ fun hm=>?_) rfl (fun ρ vs hv=>?_) (fun v hv=>by subst hv;exact ⟨rfl,rfl⟩)
 ·rw [N.s];unfold P3;rw [nM];exact nN
 ·rw [N.s] at hm;exact N.imIs I hm
 ·simp only [sbs,sb,σ1,σ2,Nat.zero_add];simp only [VRs,VR] at hv ⊢;obtain ⟨z1,s1,r1,⟨us,r4,q3⟩,q4⟩:=hv;refine ⟨z1,s1,r1,⟨us,r4,?_⟩,q4⟩;simpa only [VRs,VR] using w ρ _ q3
theorem imageBytes_lifted (os:Os) (started:os.Started) (H:Type) (enc:TypeId×Value→H) (F:Stop.Interp) :
  ReturnsInHanded {} Try.checked os 7 .any ((Rows.OpenSpec.upto Rows.imageBytesSpec).pre6 enc Try.prog Try.f7 Rows.imageBytesUptoRow.domain false) (((Rows.OpenSpec.upto Rows.imageBytesSpec).at F).post enc Try.prog Try.f7 false true false false):=by
 refine returnsInHanded_of_cond (C:=Try.checked) (s:=Rows.OpenSpec.upto Rows.imageBytesSpec) (k:=Rows.uptoSmall) rfl (by kernel_rfl) started (by kernel_rfl) Try.func7
  (OpenSpec.witness (enc:=enc) (C:=Try.checked) (s:=Rows.OpenSpec.upto Rows.imageBytesSpec) (k:=Rows.uptoSmall) rfl false ⟨#[],#[(.agg #[.int .i64 0,.slice none 0 0,.slice none 0 0])],[]⟩ 8 (by kernel_rfl) (by kernel_rfl) (by kernel_rfl)
   (x:=([(.agg [.lit (.int .i64 0),.nil,.nil])],[],[])) (by kernel_rfl) rfl (by kernel_rfl)) ?_
 intro W base args ds gs before hval hW _ hk _;have hW':=hW;obtain ⟨p,q,hA,hV,rfl,_⟩:=hW';obtain ⟨rfl,rfl⟩:=trodVars_none hV;have hk:Rows.uptoBulkAll ds≤1048576:=by rw [List.append_nil] at hk;exact of_decide_eq_true hk
 have hpar:Try.f7.params.toList=[25]:=by kernel_rfl
 refine dY (n:=8) (tb:=4) (by kernel_rfl) (fun t ht=>?_) (by kernel_rfl) (by kernel_rfl) rfl hval hW ?_ ?_
 ·rw [hpar] at ht;simp only [List.mem_cons,List.not_mem_nil,or_false] at ht;subst ht;exact ⟨by kernel_rfl,by kernel_rfl,of_decide_eq_true (by kernel_rfl)⟩
 ·have hlen:=(DataW.TrodAll.len hA).2;rw [hpar] at hlen
  match ds,hlen with
  | [d1],_=>rfl
 ·intro L B xs hN hA;rw [hpar] at hA;exact im_bytes L B xs ds hN hA hk
theorem imageBytes_over:Rows.imageBytesUptoRow.holds Try.pinned (Rows.OpenSpec.upto Rows.imageBytesSpec):=
 OpenClaim.holds_of_cond 7 Try.f7 rfl rfl rfl rfl rfl rfl rfl ⟨rfl,rfl,rfl,rfl,rfl⟩ rfl rfl rfl rfl rfl (by kernel_rfl) Try.func7 (by kernel_rfl)
  (of_decide_eq_true (by kernel_rfl)) (by unfold Func.isWrapper;first | (rw [if_pos (by decide +kernel)];kernel_rfl) | (rw [if_neg (by decide +kernel)];exact ⟨rfl,rfl⟩))
  (fun os started H enc _ F=>imageBytes_lifted os started H enc F)
theorem imageBytesUpto_proved:Rows.ImageBytesUptoSaid:=imageBytes_over
#print axioms imageBytesUpto_proved
end Go.Proofs.Ythejjolnlngahaa
