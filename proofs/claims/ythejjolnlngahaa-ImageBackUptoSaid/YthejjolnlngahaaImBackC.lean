/-
  ImageBack, for what is of bulk at most 1048576: the law returns true: an image moved twice is moved by both, moved by nothing it is the same, no byte that stands at no place is changed, and of its file no byte may be another one.
-/
import Derived.Test.YthejjolnlngahaaPart26
import Derived.Test.YthejjolnlngahaaRows
namespace Go.Proofs.Ythejjolnlngahaa
open Go.Am Go.ChangeShapes Go.WideShapes Go.ChangeAt Go.RowKit
set_option maxRecDepth 100000
def isStrT (P:Program) (t:TypeId):Bool:=match P.underlying t with
 | some (.struct _)=>true
 | _=>false
theorem arg_struct {H:Type} {P:Program} {L:List RoE} {n:Nat} {t:TypeId} {a:AV} {d:DataW H} (hf:isStrT P t=true) (h:Ap P L n t a d):∃ cs,a=.agg cs∧G4 P L n t cs d:=by
 unfold isStrT at hf;split at hf
 ·rename_i fs hu;exact Ap.struct hu h
 ·cases hf
theorem two_arg {H:Type} {L:List RoE} {n:Nat} {a:AV} {d:DataW H} (h:Ap Try.prog L (n+2) 69 a d):∃ x y,a=.agg [.int .i64 x,.int .i64 y]:=by
 obtain ⟨cs,rfl,h4⟩:=Ap.array (m:=2) (e:=3) (by kernel_rfl) h;obtain ⟨l1,es,l2,l3,l4⟩:=G4.asArray (m:=2) (e:=3) (by kernel_rfl) h4;rw [show Try.prog.cellsOf 69=2 by kernel_rfl] at l1;rw [show Try.prog.cellsOf 3=1 by kernel_rfl] at l4
 match cs,l1,es,l3 with
 | [c0,c1],_,[e0,e1],_=>
  obtain ⟨x,g1,_⟩:=G4.asInt (k:=.i64) (by kernel_rfl) (l4 0 e0 rfl);obtain ⟨y,g2,_⟩:=G4.asInt (k:=.i64) (by kernel_rfl) (l4 1 e1 rfl);simp at g1 g2;exact ⟨x,y,by rw [g1,g2]⟩
theorem im_back {H:Type} (L:List RoE) (B:Nat) (xs:List AV) (ds:List (DataW H)) (_:∀ k,(GL L k).all H7=true) (hA:Is Try.prog L 8 [25,69,69] xs ds) (_:Rows.uptoBulkAll ds≤1048576) :
  ACalls ⟨Try.prog,GL L,B⟩ 9 xs [] fun v _=>v=.bool true:=by
 obtain ⟨a,_,d1,_,rfl,rfl,h1,hA⟩:=hA.cons;obtain ⟨b,_,d2,_,rfl,rfl,h2,hA⟩:=hA.cons;obtain ⟨b3,_,d3,_,rfl,rfl,h3,hA⟩:=hA.cons;obtain ⟨rfl,rfl⟩:=hA.nil;obtain ⟨cs,rfl,h4⟩:=arg_struct (by kernel_rfl) h1;obtain ⟨s,k,c,kp,q,w,I⟩:=im_in (n:=3) h4;obtain ⟨by0,by1,rfl⟩:=two_arg (n:=6) h2;obtain ⟨x0,x1,rfl⟩:=two_arg (n:=6) h3;have σ1:σS (Tv L k kp L.length) (L.length+1)=(.ro k,0):=by unfold σS Tv;rw [if_neg (by omega),if_pos rfl]
 have σ2:σS (Tv L k kp L.length) (L.length+2)=(.ro kp,0):=by unfold σS Tv;rw [if_neg (by omega),if_neg (by omega),if_pos rfl]
 refine yW (args':=[.agg [.int .i64 s,.slice true (.ro (L.length+1)) 0 c,.slice true (.ro (L.length+2)) 0 q],.agg [.int .i64 by0,.int .i64 by1],.agg [.int .i64 x0,.int .i64 x1]]) (Bw.told (ka:=L.length) (cV (X:=XB L k c kp q s (Int.toNat by0) (Int.toNat by1) x0 x1)) I (.inl (Hb (i:=0)))) (fun B=>bk_gx B s by0 by1 x0 x1 I) rfl (fun ρ vs hv=>?_) (fun v hv=>by subst hv;exact ⟨rfl,rfl⟩);simp only [sbs,sb,σ1,σ2,Nat.zero_add];simp only [VRs,VR] at hv ⊢;obtain ⟨z1,s1,r1,⟨us,r4,q3⟩,q4⟩:=hv;refine ⟨z1,s1,r1,⟨us,r4,?_⟩,q4⟩;simpa only [VRs,VR] using w ρ _ q3
theorem imageBack_lifted (os:Os) (started:os.Started) (H:Type) (enc:TypeId×Value→H) (F:Stop.Interp) :
  ReturnsInHanded {} Try.checked os 9 .any ((Rows.OpenSpec.upto Rows.imageBackSpec).pre6 enc Try.prog Try.f9 Rows.imageBackUptoRow.domain false) (((Rows.OpenSpec.upto Rows.imageBackSpec).at F).post enc Try.prog Try.f9 false true false false):=by
 refine returnsInHanded_of_cond (C:=Try.checked) (s:=Rows.OpenSpec.upto Rows.imageBackSpec) (k:=Rows.uptoSmall) rfl (by kernel_rfl) started (by kernel_rfl) Try.func9
  (OpenSpec.witness (enc:=enc) (C:=Try.checked) (s:=Rows.OpenSpec.upto Rows.imageBackSpec) (k:=Rows.uptoSmall) rfl false ⟨#[],#[(.agg #[.int .i64 0,.slice none 0 0,.slice none 0 0]),(.agg #[.int .i64 0,.int .i64 0]),(.agg #[.int .i64 0,.int .i64 0])],[]⟩ 8 (by kernel_rfl) (by kernel_rfl) (by kernel_rfl)
   (x:=([(.agg [.lit (.int .i64 0),.nil,.nil]),(.agg [.lit (.int .i64 0),.lit (.int .i64 0)]),(.agg [.lit (.int .i64 0),.lit (.int .i64 0)])],[],[])) (by kernel_rfl) rfl (by kernel_rfl)) ?_
 intro W base args ds gs before hval hW _ hk _;have hW':=hW;obtain ⟨p,q,hA,hV,rfl,_⟩:=hW';obtain ⟨rfl,rfl⟩:=trodVars_none hV;have hk:Rows.uptoBulkAll ds≤1048576:=by rw [List.append_nil] at hk;exact yL hk
 have hpar:Try.f9.params.toList=[25,69,69]:=by kernel_rfl
 refine nH (n:=8) (tb:=4) (by kernel_rfl) (fun t ht=>?_) (by kernel_rfl) (by kernel_rfl) rfl hval hW ?_ ?_
 ·rw [hpar] at ht;simp only [List.mem_cons,List.not_mem_nil,or_false] at ht;rcases ht with rfl | rfl | rfl
  ·exact ⟨by kernel_rfl,by kernel_rfl,yL (by kernel_rfl)⟩
  ·exact ⟨by kernel_rfl,by kernel_rfl,yL (by kernel_rfl)⟩
  ·exact ⟨by kernel_rfl,by kernel_rfl,yL (by kernel_rfl)⟩
 ·have hlen:=(DataW.TrodAll.len hA).2;rw [hpar] at hlen
  match ds,hlen with
  | [d1,d2,d3],_=>rfl
 ·intro L B xs hN hA;rw [hpar] at hA;exact im_back L B xs ds hN hA hk
theorem imageBack_over:Rows.imageBackUptoRow.holds Try.pinned (Rows.OpenSpec.upto Rows.imageBackSpec):=
 OpenClaim.holds_of_cond 9 Try.f9 rfl rfl rfl rfl rfl rfl rfl ⟨rfl,rfl,rfl,rfl,rfl⟩ rfl rfl rfl rfl rfl (by kernel_rfl) Try.func9 (by kernel_rfl)
  (yL (by kernel_rfl)) (by unfold Func.isWrapper;first | (rw [if_pos (by decide +kernel)];kernel_rfl) | (rw [if_neg (by decide +kernel)];exact ⟨rfl,rfl⟩))
  (fun os started H enc _ F=>imageBack_lifted os started H enc F)
theorem imageBackUpto_proved:Rows.ImageBackUptoSaid:=imageBack_over
#print axioms imageBackUpto_proved
end Go.Proofs.Ythejjolnlngahaa
