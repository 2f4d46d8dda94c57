/-
  ImageReads: the law returns true: of any bytes the program tells the image whose file they are, or refuses them; what is told is the caller's.
-/
import Derived.Test.YthejjolnlngahaaPart27
import Derived.Test.YthejjolnlngahaaBase5
import Derived.Test.YthejjolnlngahaaRows
namespace Go.Proofs.Ythejjolnlngahaa
open Go.Am Go.ChangeShapes Go.WideShapes Go.ChangeAt Go.RowKit
set_option maxRecDepth 100000
theorem rd_u8 {H:Type} {L:List RoE} {n:Nat} {a:AV} {d:DataW H} (h:T3 Try.prog L (n+2) 37 [a] d):∃ k,(∀ (ρ:Env) v,VR ρ a v→VR ρ (.slice true (.ro k) 0 (GL L k).length) v)∧E4 (GL L k)=true:=by
 rcases T3.asInts (n:=n) (kd:=.u8) (e:=5) (by kernel_rfl) (by kernel_rfl) (by kernel_rfl) h with ⟨h1,_⟩ | ⟨k,ds,sp,g1,rfl,g3,g4⟩
 ·simp only [List.cons.injEq,and_true] at h1;subst h1;exact ⟨L.length,fun ρ v hv=>by rw [aE0 (zA7 _)];exact Is _ _ hv,by rw [aE0 (zA7 _)];rfl⟩
 ·simp only [List.cons.injEq,and_true] at g1;subst g1;refine ⟨k,fun ρ v hv=>by rw [g4.len];exact Dj hv,?_⟩;unfold E4;rw [qD];intro v hv;obtain ⟨j,hj⟩:=List.mem_iff_getElem?.1 hv;have hlt:j<ds.length:=by rw [←g4.len];exact (zP.1 hj).1
  obtain ⟨i,rfl⟩:=g4.flat v hv;have hw:=g4.wf j hlt;have e:A2 (GL L k) j=i:=by unfold A2;rw [hj]
  rw [e] at hw;have hw:(decide ((0:Int)≤i)&&decide (i≤255))=true:=hw;exact hw
def srcR (kc:Nat):Nat→Option Nat
 | 0=>some kc
 | _=>none
theorem rd_main {H:Type} (L:List RoE) (B:Nat) (xs:List AV) (ds:List (DataW H)) (hA:Je Try.prog L 8 [37] xs ds):ACalls ⟨Try.prog,GL L,B⟩ 8 xs [] fun v _=>v=.bool true:=by
 obtain ⟨a,_,d1,_,rfl,rfl,h1,hA⟩:=hA.cons;obtain ⟨rfl,rfl⟩:=hA.nil;obtain ⟨k,w,h8⟩:=rd_u8 (n:=6) (Hg.slice (e:=5) (by kernel_rfl) h1);refine zS (src:=srcR k) (args':=[.slice true (.ro 0) 0 (GL L k).length]) (fun q q1 hs j v hv=>?_) (fun B=>ir_law (GL L k) h8 B) rfl (fun ρ vs hv=>?_) (fun v hv=>by subst hv;exact ⟨rfl,rfl⟩)
 ·match q,hs with
  | 0,hs=>
   obtain rfl:=Option.some.inj hs;have hv:(GL L k)[j]?=some v:=hv;obtain ⟨u1,u2⟩:=Pb (G9 h8) (σ:=σS (srcR k)) hv;exact ⟨v,hv,u1,fun ρ cv h=>by rw [u2];exact h⟩
 ·have e:sbs (σS (srcR k)) 0 [.slice true (.ro 0) 0 (GL L k).length]=[.slice true (.ro k) 0 (GL L k).length]:=by simp [sbs,sb,σS,srcR]
  rw [e];simp only [VRs] at hv ⊢;obtain ⟨z,zs,r1,r2,r3⟩:=hv;exact ⟨z,zs,r1,w ρ z r2,r3⟩
theorem imageReads_lifted (os:Os) (started:os.Started) (H:Type) (enc:TypeId×Value→H) :
  ReturnsInHanded {} Try.checked os 8 .any (Rows.imageReadsSpec.pre6 enc Try.prog Try.f8 Rows.imageReadsRow.domain false) (Rows.imageReadsSpec.post enc Try.prog Try.f8 false true false false):=by
 refine returnsInHanded_of_change (C:=Try.checked) (by kernel_rfl) started (by kernel_rfl) Try.func8
  (ChangeSpec.witness6 (enc:=enc) (C:=Try.checked) false ⟨#[],#[.slice none 0 0],[]⟩ 8 (by kernel_rfl) (by kernel_rfl) (by kernel_rfl) (by kernel_rfl)) ?_
 intro W base args ds gs before hval hW hcnd _;have hpar:Try.f8.params.toList=[37]:=by kernel_rfl
 have hW':=hW;obtain ⟨p,q,hA,_⟩:=hW';refine nD (n:=8) (tb:=4) (by kernel_rfl) (fun t ht=>?_) (by kernel_rfl) (by kernel_rfl) rfl hval hW ?_ ?_
 ·rw [hpar] at ht;simp only [List.mem_cons,List.not_mem_nil,or_false] at ht;subst ht;exact ⟨by kernel_rfl,by kernel_rfl,zR (by kernel_rfl)⟩
 ·have hlen:=(DataW.TrodAll.len hA).2;rw [hpar] at hlen
  match ds,hlen with
  | [d1],_=>rfl
 ·intro L B xs _ hA;rw [hpar] at hA;exact rd_main L B xs ds hA
theorem imageReads_over:Rows.imageReadsRow.holds Try.pinned (OpenSpec.ofChange Rows.imageReadsSpec):=
 OpenClaim.holds_of_wide 8 Try.f8 rfl rfl rfl rfl rfl rfl rfl ⟨rfl,rfl,rfl,rfl,rfl⟩ rfl rfl rfl rfl rfl (by kernel_rfl) Try.func8 (by kernel_rfl)
  (zR (by kernel_rfl)) (by unfold Func.isWrapper;first | (rw [if_pos (by decide +kernel)];kernel_rfl) | (rw [if_neg (by decide +kernel)];exact ⟨rfl,rfl⟩))
  (fun os started H enc _=>imageReads_lifted os started H enc)
theorem imageReads_proved:Rows.ImageReadsSaid:=imageReads_over
#print axioms imageReads_proved
end Go.Proofs.Ythejjolnlngahaa
