/-
  ImageMoves, for what is of bulk at most 1048576: the law returns true: an image that is moved is the document's one, or is refused; what was handed in stays.
-/
import Derived.Test.YthejjolnlngahaaPart19
import Derived.Test.YthejjolnlngahaaRows
namespace Go.Proofs.Ythejjolnlngahaa
open Go.Am Go.ChangeShapes Go.WideShapes Go.ChangeAt Go.RowKit
set_option maxRecDepth 100000
def isStrT (P:Program) (t:TypeId):Bool:=match P.underlying t with
 | some (.struct _)=>true
 | _=>false
theorem arg_struct {H:Type} {P:Program} {L:List RoE} {n:Nat} {t:TypeId} {a:AV} {d:DataW H} (hf:isStrT P t=true) (h:W6 P L n t a d):∃ cs,a=.agg cs∧E5 P L n t cs d:=by
 unfold isStrT at hf;split at hf
 ·rename_i fs hu;exact W6.struct hu h
 ·cases hf
theorem im_moves {H:Type} (L:List RoE) (B:Nat) (xs:List AV) (ds:List (DataW H)) (_:∀ k,(GL L k).all E6=true) (hA:Eo Try.prog L 8 [25,3] xs ds) (_:Rows.uptoBulkAll ds≤1048576) :
  ACalls ⟨Try.prog,GL L,B⟩ 3 xs [] fun v _=>v=.bool true:=by
 obtain ⟨a,_,d1,_,rfl,rfl,h1,hA⟩:=hA.cons;obtain ⟨b,_,d2,_,rfl,rfl,h2,hA⟩:=hA.cons;obtain ⟨rfl,rfl⟩:=hA.nil;obtain ⟨cs,rfl,h3⟩:=arg_struct (by kernel_rfl) h1;obtain ⟨s,k,c,kp,q,w,I⟩:=im_in (n:=3) h3;obtain ⟨y,e,_⟩:=E5.asInt (k:=.i64) (by kernel_rfl) (W6.int (k:=.i64) (by kernel_rfl) h2);simp only [List.cons.injEq,and_true] at e;subst e;have σ1:σS (Lz L k kp) (L.length+1)=(.ro k,0):=by unfold σS Lz;rw [if_neg (by omega),if_pos rfl]
 have σ2:σS (Lz L k kp) (L.length+2)=(.ro kp,0):=by unfold σS Lz;rw [if_neg (by omega),if_neg (by omega),if_pos rfl]
 refine kR (args':=[.agg [.int .i64 s,.slice true (.ro (L.length+1)) 0 c,.slice true (.ro (L.length+2)) 0 q],.int .i64 y]) (mN (z:=y.toNat) I) (fun B=>gT (GN L k c kp q y.toNat) B (L.length+1) (L.length+2) (L.length+3) (L.length+4) c q s y (L.length+5+·) ?_ (fun hm=>?_) (fun j hj=>?_) ?_ ?_) rfl (fun ρ vs hv=>?_) (fun v hv=>by subst hv;exact ⟨rfl,rfl⟩)
 ·rw [Ed];unfold K2;rw [Rn];exact Zg
 ·rw [Ed] at hm;exact rI I hm
 ·rw [GN_5 hj,Ed,Vq,rV I]
 ·rw [GN_3,Ed]
 ·rw [GN_4,Vq]
 ·simp only [sbs,sb,σ1,σ2,Nat.zero_add];simp only [VRs,VR] at hv ⊢;obtain ⟨z1,s1,r1,⟨us,r4,q3⟩,q4⟩:=hv;refine ⟨z1,s1,r1,⟨us,r4,?_⟩,q4⟩;simpa only [VRs,VR] using w ρ _ q3
theorem imageMoves_lifted (os:Os) (started:os.Started) (H:Type) (enc:TypeId×Value→H) (F:Stop.Interp) :
  ReturnsInHanded {} Try.checked os 3 .any ((Rows.OpenSpec.upto Rows.imageMovesSpec).pre6 enc Try.prog Try.f3 Rows.imageMovesUptoRow.domain false) (((Rows.OpenSpec.upto Rows.imageMovesSpec).at F).post enc Try.prog Try.f3 false true false false):=by
 refine returnsInHanded_of_cond (C:=Try.checked) (s:=Rows.OpenSpec.upto Rows.imageMovesSpec) (k:=Rows.uptoSmall) rfl (by kernel_rfl) started (by kernel_rfl) Try.func3
  (OpenSpec.witness (enc:=enc) (C:=Try.checked) (s:=Rows.OpenSpec.upto Rows.imageMovesSpec) (k:=Rows.uptoSmall) rfl false ⟨#[],#[(.agg #[.int .i64 0,.slice none 0 0,.slice none 0 0]),.int .i64 0],[]⟩ 8 (by kernel_rfl) (by kernel_rfl) (by kernel_rfl)
   (x:=([(.agg [.lit (.int .i64 0),.nil,.nil]),.lit (.int .i64 0)],[],[])) (by kernel_rfl) rfl (by kernel_rfl)) ?_
 intro W base args ds gs before hval hW _ hk _;have hW':=hW;obtain ⟨p,q,hA,hV,rfl,_⟩:=hW';obtain ⟨rfl,rfl⟩:=trodVars_none hV;have hk:Rows.uptoBulkAll ds≤1048576:=by rw [List.append_nil] at hk;exact of_decide_eq_true hk
 have hpar:Try.f3.params.toList=[25,3]:=by kernel_rfl
 refine aQ (n:=8) (tb:=4) (by kernel_rfl) (fun t ht=>?_) (by kernel_rfl) (by kernel_rfl) rfl hval hW ?_ ?_
 ·rw [hpar] at ht;simp only [List.mem_cons,List.not_mem_nil,or_false] at ht;rcases ht with rfl | rfl
  ·exact ⟨by kernel_rfl,by kernel_rfl,of_decide_eq_true (by kernel_rfl)⟩
  ·exact ⟨by kernel_rfl,by kernel_rfl,of_decide_eq_true (by kernel_rfl)⟩
 ·have hlen:=(DataW.TrodAll.len hA).2;rw [hpar] at hlen
  match ds,hlen with
  | [d1,d2],_=>rfl
 ·intro L B xs hN hA;rw [hpar] at hA;exact im_moves L B xs ds hN hA hk
theorem imageMoves_over:Rows.imageMovesUptoRow.holds Try.pinned (Rows.OpenSpec.upto Rows.imageMovesSpec):=
 OpenClaim.holds_of_cond 3 Try.f3 rfl rfl rfl rfl rfl rfl rfl ⟨rfl,rfl,rfl,rfl,rfl⟩ rfl rfl rfl rfl rfl (by kernel_rfl) Try.func3 (by kernel_rfl)
  (of_decide_eq_true (by kernel_rfl)) (by unfold Func.isWrapper;first | (rw [if_pos (by decide +kernel)];kernel_rfl) | (rw [if_neg (by decide +kernel)];exact ⟨rfl,rfl⟩))
  (fun os started H enc _ F=>imageMoves_lifted os started H enc F)
theorem imageMovesUpto_proved:Rows.ImageMovesUptoSaid:=imageMoves_over
#print axioms imageMovesUpto_proved
end Go.Proofs.Ythejjolnlngahaa
