/-
  Images at their bounds: the lists, and what is only read. Images at their bounds: the two regions that lay the images.
-/
import Derived.Test.YthejjolnlngahaaPart7
import Derived.Test.YthejjolnlngahaaBase5
import Derived.Test.YthejjolnlngahaaPart8
namespace Go.Am
open Go.Proofs Go.Proofs.Ythejjolnlngahaa
set_option maxRecDepth 100000
def Nz:Nat→Nat→List AV
 | 0,_=>[]
 | n+1,i=>.int .i64 (256*(i:Int))::.int .i64 4::.nils::.int .i64 256::Nz n (i+1)
def Hv:Nat→Nat→List AV
 | 0,_=>[]
 | n+1,i=>.int .i64 (4*(i:Int))::.bool false::Hv n (i+1)
def X3 (n:Nat):List AV:=Nz n 0
def P2 (n:Nat):List AV:=Hv n 0
theorem Vb:∀ n i,Nz (n+1) i=Nz n i++[.int .i64 (256*((i+n:Nat):Int)),.int .i64 4,.nils,.int .i64 256]
 | 0,i=>rfl
 | n+1,i=>by
  have:=Vb n (i+1)
  rw [show i+1+n=i+(n+1) by omega] at this;rw [Nz,this];rfl
theorem Tm:∀ n i,Hv (n+1) i=Hv n i++[.int .i64 (4*((i+n:Nat):Int)),.bool false]
 | 0,i=>rfl
 | n+1,i=>by
  have:=Tm n (i+1)
  rw [show i+1+n=i+(n+1) by omega] at this;rw [Hv,this];rfl
theorem eA (n:Nat):X3 (n+1)=X3 n++[.int .i64 (256*(n:Int)),.int .i64 4,.nils,.int .i64 256]:=by
 have:=Vb n 0
 rwa [Nat.zero_add] at this
theorem Tl (n:Nat):P2 (n+1)=P2 n++[.int .i64 (4*(n:Int)),.bool false]:=by
 have:=Tm n 0
 rwa [Nat.zero_add] at this
theorem Xs:∀ n i,(Nz n i).length=n*4
 | 0,_=>rfl
 | n+1,i=>by simp only [Nz,List.length_cons,Xs n];omega
theorem Xb:∀ n i,(Hv n i).length=n*2
 | 0,_=>rfl
 | n+1,i=>by simp only [Hv,List.length_cons,Xb n];omega
theorem Lx:∀ n i,D1 0 (Nz n i)=true
 | 0,_=>rfl
 | n+1,i=>by simp only [Nz,D1,B4,Lx n,Bool.and_self]
theorem Tn:∀ n i,D1 0 (Hv n i)=true
 | 0,_=>rfl
 | n+1,i=>by simp only [Hv,D1,B4,Tn n,Bool.and_self]
def Hd:Code→Code
 | .seq a _=>a
 | c=>c
def tlS:Code→Code
 | .seq _ b=>b
 | c=>c
def eW:Code→Array Oper
 | .region _ o _=>o
 | _=>#[]
noncomputable def T5:Nat→Code
 | 0=>H9 Try.f5
 | n+1=>tlS (T5 n)
section
variable (G:Nat→List AV) (B:Nat)
theorem bd_e:B8 ⟨Try.prog,G,B⟩ 0 (.loop (G2 Try.f5 0)) (fl 139 [1,2,3] [.ptr (.rw 0) 0,.nils,.int .i64 0]) [some ⟨1,[.int .i64 0,.int .i64 4,.nils,.int .i64 256]⟩] (lv 139 [1,2,3] fun e vs H=>e=.exit 0∧vs=[.ptr (.rw 0) 0,.slice true (.rw 1) 0 8,.int .i64 8]∧H=[some ⟨1,[.int .i64 0,.int .i64 4,.nils,.int .i64 256]⟩,some ⟨4,X3 8⟩]):=by
 refine B8.nilL [.ptr (.rw 0) 0,.slice true (.rw 1) 0 0,.int .i64 0] 4 (Nat.zero_le _) ⟨.inl rfl,.inr ⟨rfl,rfl⟩,.inl rfl,trivial⟩ ?_;refine Ov 8 (fun i=>[.ptr (.rw 0) 0,.slice true (.rw 1) 0 i,.int .i64 (i:Int)]) (fun i=>[some ⟨1,[.int .i64 0,.int .i64 4,.nils,.int .i64 256]⟩,some ⟨4,X3 i⟩]) fun i hi=>?_
 refine Ak (C:=⟨Try.prog,G,B⟩) (K:=Dc Try.prog [] [] [] 0) (by rw [show C3 (G2 Try.f5 0)=[] by kernel_rfl];exact U3 (Af G B) (by kernel_rfl) .nil .nil) (fuel:=300) (n0:=20) (m:=0) (c:=G2 Try.f5 0) (vs:=[.ptr (.rw 0) (.lit 0),.slice true (.rw 1) (.lit 0) (.var 8 i),.int .i64 (.ofN (.var 8 i))]) (H:=[some ⟨1,.of [.int .i64 (.lit 0),.int .i64 (.lit 4),.nils,.int .i64 (.lit 256)]⟩,some ⟨4,.var 21 (X3 i)⟩]) (Nat.zero_le _) ?_;rw [bd_a];refine ⟨fun h=>?_,fun h=>?_⟩
 ·have h:=of_decide_eq_true h;rw [G8 (n:=256*(i:Int)) (by omega),G8 (n:=(i:Int)+1) (by omega),←eA];refine ⟨R5.2 (by omega),by rw [X3,Xs];exact Nat.beq_refl _,by omega,.inr ?_⟩;have f1:=Lx (i+1) 0;exact E1.renM (H:=[some ⟨1,[.int .i64 0,.int .i64 4,.nils,.int .i64 256]⟩,some ⟨4,X3 (i+1)⟩]) (θ:=[0,3]) (Nat.zero_le _) (fun i hi=>absurd hi (Nat.not_lt_zero i)) (by decide) ⟨⟨rfl,rfl⟩,⟨X4 (Nat.zero_le _) _ f1,by unfold X3;rw [P1 [0,3] _ f1];rfl⟩,trivial⟩ rfl ⟨rfl,rfl,rfl,trivial⟩
 ·have h:=of_decide_eq_false h;obtain rfl:i=8:=by omega
  exact ⟨rfl,rfl,rfl⟩
theorem bd_p:B8 ⟨Try.prog,G,B⟩ 0 (.loop (G2 Try.f5 1)) (fl 139 [1,2,4,5] [.ptr (.rw 0) 0,.slice true (.rw 1) 0 8,.nils,.int .i64 0]) [some ⟨1,[.int .i64 0,.int .i64 4,.nils,.int .i64 256]⟩,some ⟨4,X3 8⟩] (lv 139 [1,2,4,5] fun e vs H=>e=.exit 2∧vs=[.ptr (.rw 0) 0,.slice true (.rw 1) 0 8,.slice true (.rw 2) 0 512,.int .i64 512]∧H=[some ⟨1,[.int .i64 0,.int .i64 4,.nils,.int .i64 256]⟩,some ⟨4,X3 8⟩,some ⟨2,P2 512⟩]):=by
 refine B8.nilL [.ptr (.rw 0) 0,.slice true (.rw 1) 0 8,.slice true (.rw 2) 0 0,.int .i64 0] 2 (Nat.zero_le _) ⟨.inl rfl,.inl rfl,.inr ⟨rfl,rfl⟩,.inl rfl,trivial⟩ ?_;refine Ov 512 (fun i=>[.ptr (.rw 0) 0,.slice true (.rw 1) 0 8,.slice true (.rw 2) 0 i,.int .i64 (i:Int)]) (fun i=>[some ⟨1,[.int .i64 0,.int .i64 4,.nils,.int .i64 256]⟩,some ⟨4,X3 8⟩,some ⟨2,P2 i⟩]) fun i hi=>?_
 refine Ak (C:=⟨Try.prog,G,B⟩) (K:=Dc Try.prog [] [] [] 0) (by rw [show C3 (G2 Try.f5 1)=[] by kernel_rfl];exact U3 (Af G B) (by kernel_rfl) .nil .nil) (fuel:=300) (n0:=20) (m:=0) (c:=G2 Try.f5 1) (vs:=[.ptr (.rw 0) (.lit 0),.slice true (.rw 1) (.lit 0) (.lit 8),.slice true (.rw 2) (.lit 0) (.var 8 i),.int .i64 (.ofN (.var 8 i))]) (H:=[some ⟨1,.of [.int .i64 (.lit 0),.int .i64 (.lit 4),.nils,.int .i64 (.lit 256)]⟩,some ⟨4,.var 21 (X3 8)⟩,some ⟨2,.var 22 (P2 i)⟩]) (Nat.zero_le _) ?_;rw [bd_b];refine ⟨fun h=>?_,fun h=>?_⟩
 ·have h:=of_decide_eq_true h;rw [G8 (n:=4*(i:Int)) (by omega),G8 (n:=(i:Int)+1) (by omega),←Tl];refine ⟨R5.2 (by omega),by rw [P2,Xb];exact Nat.beq_refl _,by omega,.inr ?_⟩;have f1:=Tn (i+1) 0;have f2:=Lx 8 0;exact E1.renM (H:=[some ⟨1,[.int .i64 0,.int .i64 4,.nils,.int .i64 256]⟩,some ⟨4,X3 8⟩,some ⟨2,P2 (i+1)⟩]) (θ:=[0,1,4]) (Nat.zero_le _) (fun i hi=>absurd hi (Nat.not_lt_zero i)) (by decide) ⟨⟨rfl,rfl⟩,⟨rfl,rfl⟩,⟨X4 (Nat.zero_le _) _ f1,by unfold P2;rw [P1 [0,1,4] _ f1];rfl⟩,trivial⟩ rfl ⟨rfl,rfl,rfl,rfl,trivial⟩
 ·have h:=of_decide_eq_false h;obtain rfl:i=512:=by omega
  exact ⟨rfl,rfl,rfl⟩
end
def gl5:List (List AV):=[[.int .i64 0,.int .i64 4,.nils,.int .i64 256],[.int .i64 7936,.int .i64 7,.nils,.int .i64 256],[.int .i64 0,.int .i64 4,.slice false (.ro 4) 0 8192,.int .i64 0],[.int .u8 0,.int .u8 0],[.int .i64 0,.int .i64 4,.slice false (.ro 8) 0 2,.int .i64 0],[.int .i64 0,.bool true],[.int .i64 0,.int .i64 1,.nils,.int .i64 1,.int .i64 256,.int .i64 4,.nils,.int .i64 1],[.int .i64 0,.slice true (.ro 0) 0 8,.nils,.int .i64 8188,.slice false (.ro 6) 0 1,.nils,.int .i64 0,.slice false (.ro 7) 0 1,.slice true (.ro 2) 0 512,.int .i64 0,.slice false (.ro 9) 0 1,.slice false (.ro 10) 0 1,.int .i64 256,.slice false (.ro 11) 0 2,.nils],[.int .i64 2048,.int .i64 4,.nils,.int .i64 1],[.int .i64 7936,.int .i64 4,.nils,.int .i64 257],[.int .i64 0,.int .i64 4,.slice false (.ro 4) 0 8192,.int .i64 0],[.int .i64 2048,.bool false],[.int .u8 0,.int .u8 0],[.int .i64 0,.int .i64 4,.slice false (.ro 17) 0 2,.int .i64 0],[.int .i64 0,.bool false],[.int .i64 0,.int .i64 1,.nils,.int .i64 1,.int .i64 256,.int .i64 4,.nils,.int .i64 1],[.int .i64 0,.int .i64 8,.nils,.int .i64 1],[.int .u8 0,.int .u8 0,.int .u8 0,.int .u8 0,.int .u8 0,.int .u8 0,.int .u8 0,.int .u8 0,.int .u8 0],[.int .i64 0,.int .i64 4,.slice false (.ro 22) 0 9,.int .i64 (-1)],[.int .i64 128,.int .i64 4,.nils,.int .i64 999],[.int .i64 0,.int .i64 4,.nils,.int .i64 256,.int .i64 256,.int .i64 4,.nils,.int .i64 1,.int .i64 256,.int .i64 4,.nils,.int .i64 1],[.int .i64 0,.int .i64 4,.nils,.int .i64 257,.int .i64 256,.int .i64 4,.nils,.int .i64 1],[.int .i64 0,.int .i64 4,.nils,.int .i64 256],[.int .u8 0,.int .u8 0,.int .u8 0,.int .u8 0,.int .u8 0,.int .u8 0,.int .u8 0,.int .u8 0,.int .u8 0],[.int .i64 0,.int .i64 4,.slice false (.ro 28) 0 9,.int .i64 9223372036854775807],[.int .u8 0,.int .u8 0,.int .u8 0,.int .u8 0,.int .u8 0,.int .u8 0,.int .u8 0,.int .u8 0],[.int .i64 0,.int .i64 4,.slice false (.ro 30) 0 8,.int .i64 0],[.int .i64 0,.bool false,.int .i64 2,.bool true],[.int .i64 0,.slice true (.ro 1) 0 9,.nils,.int .i64 7936,.slice false (.ro 14) 0 1,.nils,.int .i64 0,.slice false (.ro 15) 0 1,.slice true (.ro 3) 0 513,.int .i64 0,.slice false (.ro 18) 0 1,.slice false (.ro 19) 0 1,.int .i64 0,.slice false (.ro 20) 0 2,.nils,.int .i64 0,.slice false (.ro 21) 0 1,.nils,.int .i64 0,.slice false (.ro 23) 0 1,.nils,.int .i64 128,.slice false (.ro 24) 0 1,.nils,.int .i64 0,.slice false (.ro 25) 0 3,.nils,.int .i64 0,.slice false (.ro 26) 0 2,.nils,.int .i64 256,.slice false (.ro 27) 0 1,.nils,.int .i64 0,.slice false (.ro 29) 0 1,.nils,.int .i64 0,.slice false (.ro 31) 0 1,.slice false (.ro 32) 0 2]]
def G5:Nat→List AV
 | 0=>X3 8
 | 1=>X3 8++[.int .i64 2048,.int .i64 4,.nils,.int .i64 1]
 | 2=>P2 512
 | 3=>P2 512++[.int .i64 2048,.bool false]
 | 4=>[]
 | k+5=>(gl5[k]?).getD []
end Go.Am
namespace Go.Am
open Go.Proofs Go.Proofs.Ythejjolnlngahaa
set_option maxRecDepth 100000
def D6:List AV:=[.slice true (.rw 1) 0 8,.agg [.int .i64 0,.slice true (.rw 1) 0 8,.nils],.agg [.int .i64 7936,.int .i64 7,.nils,.int .i64 256],.slice false (.rw 3) 0 1,.agg [.int .i64 8188,.slice false (.rw 3) 0 1,.nils],.slice false (.rw 4) 0 8192,.agg [.int .i64 0,.int .i64 4,.slice false (.rw 4) 0 8192,.int .i64 0],.slice false (.rw 5) 0 1,.slice true (.rw 2) 0 512,.agg [.int .i64 0,.slice false (.rw 5) 0 1,.slice true (.rw 2) 0 512],.slice false (.rw 6) 0 2,.agg [.int .i64 0,.int .i64 4,.slice false (.rw 6) 0 2,.int .i64 0],.slice false (.rw 7) 0 1,.agg [.int .i64 0,.bool true],.slice false (.rw 8) 0 1,.agg [.int .i64 0,.slice false (.rw 7) 0 1,.slice false (.rw 8) 0 1],.agg [.int .i64 0,.int .i64 1,.nils,.int .i64 1],.agg [.int .i64 256,.int .i64 4,.nils,.int .i64 1],.slice false (.rw 9) 0 2,.agg [.int .i64 256,.slice false (.rw 9) 0 2,.nils],.slice false (.rw 10) 0 5,.slice false (.rw 10) 0 5]
def I4:List (Nat×Blk):=[(3,⟨4,[.int .i64 7936,.int .i64 7,.nils,.int .i64 256]⟩),(5,⟨1,(List.replicate 8192 [.int .u8 0]).flatten⟩),(7,⟨4,[.int .i64 0,.int .i64 4,.slice false (.rw 4) 0 8192,.int .i64 0]⟩),(10,⟨1,[.int .u8 0,.int .u8 0]⟩),(12,⟨4,[.int .i64 0,.int .i64 4,.slice false (.rw 6) 0 2,.int .i64 0]⟩),(14,⟨2,[.int .i64 0,.bool true]⟩),(18,⟨4,[.int .i64 0,.int .i64 1,.nils,.int .i64 1,.int .i64 256,.int .i64 4,.nils,.int .i64 1]⟩),(20,⟨3,[.int .i64 0,.slice true (.rw 1) 0 8,.nils,.int .i64 8188,.slice false (.rw 3) 0 1,.nils,.int .i64 0,.slice false (.rw 5) 0 1,.slice true (.rw 2) 0 512,.int .i64 0,.slice false (.rw 7) 0 1,.slice false (.rw 8) 0 1,.int .i64 256,.slice false (.rw 9) 0 2,.nils]⟩)]
def A4:List AV:=[.slice true (.rw 1) 0 8,.agg [.int .i64 2048,.int .i64 4,.nils,.int .i64 1],.slice false (.rw 11) 0 1,.slice true (.ro 1) 0 9,.agg [.int .i64 0,.slice true (.ro 1) 0 9,.nils],.agg [.int .i64 7936,.int .i64 4,.nils,.int .i64 257],.slice false (.rw 12) 0 1,.agg [.int .i64 7936,.slice false (.rw 12) 0 1,.nils],.slice false (.rw 13) 0 8192,.agg [.int .i64 0,.int .i64 4,.slice false (.rw 13) 0 8192,.int .i64 0],.slice false (.rw 14) 0 1,.slice true (.rw 2) 0 512,.agg [.int .i64 2048,.bool false],.slice false (.rw 15) 0 1,.slice true (.ro 3) 0 513,.agg [.int .i64 0,.slice false (.rw 14) 0 1,.slice true (.ro 3) 0 513],.slice false (.rw 16) 0 2,.agg [.int .i64 0,.int .i64 4,.slice false (.rw 16) 0 2,.int .i64 0],.slice false (.rw 17) 0 1,.agg [.int .i64 0,.bool false],.slice false (.rw 18) 0 1,.agg [.int .i64 0,.slice false (.rw 17) 0 1,.slice false (.rw 18) 0 1],.agg [.int .i64 0,.int .i64 1,.nils,.int .i64 1],.agg [.int .i64 256,.int .i64 4,.nils,.int .i64 1],.slice false (.rw 19) 0 2,.agg [.int .i64 0,.slice false (.rw 19) 0 2,.nils],.agg [.int .i64 0,.int .i64 8,.nils,.int .i64 1],.slice false (.rw 20) 0 1,.agg [.int .i64 0,.slice false (.rw 20) 0 1,.nils],.slice false (.rw 21) 0 9,.agg [.int .i64 0,.int .i64 4,.slice false (.rw 21) 0 9,.int .i64 (-1)],.slice false (.rw 22) 0 1,.agg [.int .i64 0,.slice false (.rw 22) 0 1,.nils],.agg [.int .i64 128,.int .i64 4,.nils,.int .i64 999],.slice false (.rw 23) 0 1,.agg [.int .i64 128,.slice false (.rw 23) 0 1,.nils],.agg [.int .i64 0,.int .i64 4,.nils,.int .i64 256],.agg [.int .i64 256,.int .i64 4,.nils,.int .i64 1],.agg [.int .i64 256,.int .i64 4,.nils,.int .i64 1],.slice false (.rw 24) 0 3,.agg [.int .i64 0,.slice false (.rw 24) 0 3,.nils],.agg [.int .i64 0,.int .i64 4,.nils,.int .i64 257],.agg [.int .i64 256,.int .i64 4,.nils,.int .i64 1],.slice false (.rw 25) 0 2,.agg [.int .i64 0,.slice false (.rw 25) 0 2,.nils],.agg [.int .i64 0,.int .i64 4,.nils,.int .i64 256],.slice false (.rw 26) 0 1,.agg [.int .i64 256,.slice false (.rw 26) 0 1,.nils],.slice false (.rw 27) 0 9,.agg [.int .i64 0,.int .i64 4,.slice false (.rw 27) 0 9,.int .i64 9223372036854775807],.slice false (.rw 28) 0 1,.agg [.int .i64 0,.slice false (.rw 28) 0 1,.nils],.slice false (.rw 29) 0 8,.agg [.int .i64 0,.int .i64 4,.slice false (.rw 29) 0 8,.int .i64 0],.slice false (.rw 30) 0 1,.agg [.int .i64 0,.bool false],.agg [.int .i64 2,.bool true],.slice false (.rw 31) 0 2,.agg [.int .i64 0,.slice false (.rw 30) 0 1,.slice false (.rw 31) 0 2],.slice false (.rw 32) 0 13,.slice false (.rw 32) 0 13]
def B5:List (Nat×Blk):=[(2,⟨4,[.int .i64 2048,.int .i64 4,.nils,.int .i64 1]⟩),(6,⟨4,[.int .i64 7936,.int .i64 4,.nils,.int .i64 257]⟩),(8,⟨1,(List.replicate 8192 [.int .u8 0]).flatten⟩),(10,⟨4,[.int .i64 0,.int .i64 4,.slice false (.rw 13) 0 8192,.int .i64 0]⟩),(13,⟨2,[.int .i64 2048,.bool false]⟩),(16,⟨1,[.int .u8 0,.int .u8 0]⟩),(18,⟨4,[.int .i64 0,.int .i64 4,.slice false (.rw 16) 0 2,.int .i64 0]⟩),(20,⟨2,[.int .i64 0,.bool false]⟩),(24,⟨4,[.int .i64 0,.int .i64 1,.nils,.int .i64 1,.int .i64 256,.int .i64 4,.nils,.int .i64 1]⟩),(27,⟨4,[.int .i64 0,.int .i64 8,.nils,.int .i64 1]⟩),(29,⟨1,[.int .u8 0,.int .u8 0,.int .u8 0,.int .u8 0,.int .u8 0,.int .u8 0,.int .u8 0,.int .u8 0,.int .u8 0]⟩),(31,⟨4,[.int .i64 0,.int .i64 4,.slice false (.rw 21) 0 9,.int .i64 (-1)]⟩),(34,⟨4,[.int .i64 128,.int .i64 4,.nils,.int .i64 999]⟩),(39,⟨4,[.int .i64 0,.int .i64 4,.nils,.int .i64 256,.int .i64 256,.int .i64 4,.nils,.int .i64 1,.int .i64 256,.int .i64 4,.nils,.int .i64 1]⟩),(43,⟨4,[.int .i64 0,.int .i64 4,.nils,.int .i64 257,.int .i64 256,.int .i64 4,.nils,.int .i64 1]⟩),(46,⟨4,[.int .i64 0,.int .i64 4,.nils,.int .i64 256]⟩),(48,⟨1,[.int .u8 0,.int .u8 0,.int .u8 0,.int .u8 0,.int .u8 0,.int .u8 0,.int .u8 0,.int .u8 0,.int .u8 0]⟩),(50,⟨4,[.int .i64 0,.int .i64 4,.slice false (.rw 27) 0 9,.int .i64 9223372036854775807]⟩),(52,⟨1,[.int .u8 0,.int .u8 0,.int .u8 0,.int .u8 0,.int .u8 0,.int .u8 0,.int .u8 0,.int .u8 0]⟩),(54,⟨4,[.int .i64 0,.int .i64 4,.slice false (.rw 29) 0 8,.int .i64 0]⟩),(57,⟨2,[.int .i64 0,.bool false,.int .i64 2,.bool true]⟩),(59,⟨3,[.int .i64 0,.slice true (.ro 1) 0 9,.nils,.int .i64 7936,.slice false (.rw 12) 0 1,.nils,.int .i64 0,.slice false (.rw 14) 0 1,.slice true (.ro 3) 0 513,.int .i64 0,.slice false (.rw 17) 0 1,.slice false (.rw 18) 0 1,.int .i64 0,.slice false (.rw 19) 0 2,.nils,.int .i64 0,.slice false (.rw 20) 0 1,.nils,.int .i64 0,.slice false (.rw 22) 0 1,.nils,.int .i64 128,.slice false (.rw 23) 0 1,.nils,.int .i64 0,.slice false (.rw 24) 0 3,.nils,.int .i64 0,.slice false (.rw 25) 0 2,.nils,.int .i64 256,.slice false (.rw 26) 0 1,.nils,.int .i64 0,.slice false (.rw 28) 0 1,.nils,.int .i64 0,.slice false (.rw 30) 0 1,.slice false (.rw 31) 0 2]⟩)]
def fz13:List (Nat×Nat):=[(0,5),(3,6),(4,4),(5,7),(6,8),(7,9),(8,10),(9,11),(10,12),(11,13),(12,14),(13,4),(14,15),(15,16),(16,17),(17,18),(18,19),(19,20),(20,21),(21,22),(22,23),(23,24),(24,25),(25,26),(26,27),(27,28),(28,29),(29,30),(30,31),(31,32),(32,33)]
def tk13:List Tk:=[⟨3,1,0,1,4,8⟩,⟨14,2,2,3,2,512⟩]
def K8:Hp:=[some ⟨1,[.int .i64 0,.int .i64 4,.nils,.int .i64 256]⟩,some ⟨4,X3 8⟩,some ⟨2,P2 512⟩]
def dV:Hp:=HB K8 I4 fun _=>true
def L5:Fr:=fl 139 [1,2,4] [.ptr (.rw 0) 0,.slice true (.rw 1) 0 8,.slice true (.rw 2) 0 512]
def B9:Fr:=fl 139 [1,2,4,6] [.ptr (.rw 0) 0,.slice true (.rw 1) 0 8,.slice true (.rw 2) 0 512,.slice false (.rw 10) 0 5]
theorem aV {bl:List (Nat×Blk)} {l:List Nat} (h:bl.map Prod.fst=l) {j:Nat} (hj:l.all (fun x=>!Nat.beq x j)=true):∀ p∈bl,p.1≠j:=fun p hp e=>by
 rw [←h,List.all_eq_true] at hj
 have:=hj p.1 (List.mem_map.2 ⟨p,hp,rfl⟩)
 rw [e] at this;simp at this
theorem Wl {bl:List (Nat×Blk)} {l:List Nat} (h:bl.map Prod.fst=l) (hn:l.Nodup) {q j:Nat} (hq:l[q]?=some j):∀ (q':Nat) p',q'≠q→bl[q']?=some p'→p'.1≠j:=fun q' p' hne hp e=>by
 have h1:l[q']?=some j:=by rw [←h,List.getElem?_map,hp,←e];rfl
 have l1:=(List.getElem?_eq_some_iff.1 h1).1;exact hne ((List.getElem?_inj l1 hn).1 (h1.trans hq.symm))
def ow12:List Nat:=[3,5,7,10,12,14,18,20]
theorem eZ:I4.map Prod.fst=ow12:=rfl
theorem N3 (j:Nat) (h:ow12.all (fun x=>!Nat.beq x j)=true):∀ p∈I4,p.1≠j:=aV eZ h
theorem W5 (q:Nat) {j:Nat} (h:ow12[q]?=some j):∀ (q':Nat) p',q'≠q→I4[q']?=some p'→p'.1≠j:=Wl eZ (by decide) h
def ow13:List Nat:=[2,6,8,10,13,16,18,20,24,27,29,31,34,39,43,46,48,50,52,54,57,59]
theorem eY:B5.map Prod.fst=ow13:=rfl
theorem C4 (j:Nat) (h:ow13.all (fun x=>!Nat.beq x j)=true):∀ p∈B5,p.1≠j:=aV eY h
theorem E5 (q:Nat) {j:Nat} (h:ow13[q]?=some j):∀ (q':Nat) p',q'≠q→B5[q']?=some p'→p'.1≠j:=Wl eY (by decide) h
theorem B1 (j:Nat) (h:tk13.all (fun t=>!Nat.beq t.op j)=true):∀ t∈tk13,t.op≠j:=fun t ht e=>by
 rw [List.all_eq_true] at h
 have:=h t ht
 rw [e] at this;simp at this
noncomputable def A7:List Oper:=(eW (Hd (T5 6))).toList
noncomputable def A0:List Oper:=(eW (Hd (T5 7))).toList
def A9:Hp:=Dg (tk13.map fun t=>(t.m,t.k)) dV
def C0 : Oper := ⟨none, .assign (.const (.bool false)), 0, "", #[], none⟩
theorem bH {C:Ctx} {all:List Oper} {H1:Hp} {bl:List (Nat×Blk)} {tks:List Tk} {vs:List AV} {F0:Fr} {n:Nat} (hl:all.length=n) (hv:vs.length=n) (h:∀ j,j<n→B2 C all H1 bl tks j (all.getD j C0) (FSel (A1 j) 0 all vs F0) (vs.getD j .undef)) (j:Nat) (o:Oper) (ho:all[j]?=some o):∃ v,vs[j]?=some v∧B2 C all H1 bl tks j o (FSel (A1 j) 0 all vs F0) v:=by
 have hj:j<n:=by rw [←hl];exact (List.getElem?_eq_some_iff.1 ho).1
 have h1:=h j hj;rw [List.getD_eq_getElem?_getD,ho,Option.getD_some] at h1;have hv:vs[j]?=some vs[j]:=List.getElem?_eq_getElem (by omega);rw [List.getD_eq_getElem?_getD,hv,Option.getD_some] at h1;exact ⟨_,hv,h1⟩
def fJ (P:Program) (t u et:TypeId) (z n:Nat):Bool:=match P.underlying t,P.underlying u,P.info? et,I2 P et with
 | some (.slice e),some (.slice _),some i,some zv=>Nat.beq e et&&(Nat.beq i.size z&&(Nat.beq (A3 zv).length i.size&&(Nat.ble (n*i.bytes) 140737488355328&&Nat.ble 1 i.bytes)))
 | _,_,_,_=>false
theorem appB {C:Ctx} {all:List Oper} {H1:Hp} {bl:List (Nat×Blk)} {tks:List Tk} {j:Nat} {o:Oper} {F:Fr} {tk:Tk} {b:Blk} {mb:Bool} {q j2 mm:Nat} {s x:Operand} {t u et:TypeId} (hg:o.guard=none) (hl:∀ p∈bl,p.1≠j) (htk:tk∈tks) (hj:tk.op=j) (hu:∀ t'∈tks,t'≠tk→t'.op≠j∧t'.k≠tk.k∧t'.k≠tk.k2)
   (ho:o.op=.call { callee:=.builtin .append,args:=#[s,x],argTypes:=#[t,u] }) (hs:ev F s=.slice mb (.rw tk.m) 0 tk.n) (hx:ev F x=.slice false (.rw (H1.length+q)) 0 mm) (hq:bl[q]?=some (j2,b)) (hj2:((O5 all []).getD j 0).testBit j2=true) (hr:isRec b=false)
   (hcs:b.cells.length=mm*tk.z) (hcell:b.cells.all isCell=true) (hnw:E2 b.cells=true) (hn:1≤tk.n) (hz1:1≤tk.z) (hG:C.G tk.k2=C.G tk.k++b.cells) (h:fJ C.P t u et tk.z (tk.n+mm)=true):B2 C all H1 bl tks j o F (.slice true (.ro tk.k2) 0 (tk.n+mm)):=by
 unfold fJ at h;split at h
 ·rename_i e e' i zv h1 h2 h3 h4;simp only [Bool.and_eq_true] at h;obtain ⟨g1,g2,g3,g4,g5⟩:=h;rw [Nat.eq_of_beq_eq_true g1] at h1;exact .app hg hl htk hj hu ho hs hx hq hj2 hr hcs hcell hnw h1 h2 (.inl ⟨_,rfl⟩) h3 (Nat.eq_of_beq_eq_true g2) h4 (Nat.eq_of_beq_eq_true g3) hn hz1 hG (Nat.le_of_ble_eq_true g4) (Nat.le_of_ble_eq_true g5)
 ·cases h
section
variable (B:Nat)
noncomputable def C5:Ctx:=⟨Try.prog,G5,B⟩
theorem s12_0:B2 (C5 B) A7 K8 I4 [] 0 (A7.getD 0 C0) (FSel (A1 0) 0 A7 D6 L5) (D6.getD 0 .undef):=.pure (by kernel_rfl) (N3 0 rfl) (fun t ht=>by simp at ht) (by kernel_rfl)
theorem s12_1:B2 (C5 B) A7 K8 I4 [] 1 (A7.getD 1 C0) (FSel (A1 1) 0 A7 D6 L5) (D6.getD 1 .undef):=.pure (by kernel_rfl) (N3 1 rfl) (fun t ht=>by simp at ht) (by kernel_rfl)
theorem s12_2:B2 (C5 B) A7 K8 I4 [] 2 (A7.getD 2 C0) (FSel (A1 2) 0 A7 D6 L5) (D6.getD 2 .undef):=.pure (by kernel_rfl) (N3 2 rfl) (fun t ht=>by simp at ht) (by kernel_rfl)
theorem s12_3:B2 (C5 B) A7 K8 I4 [] 3 (A7.getD 3 C0) (FSel (A1 3) 0 A7 D6 L5) (D6.getD 3 .undef):=.bld (q:=0) (by kernel_rfl) (by kernel_rfl) rfl (W5 0 rfl) (fun t ht=>by simp at ht) (by kernel_rfl)
theorem s12_4:B2 (C5 B) A7 K8 I4 [] 4 (A7.getD 4 C0) (FSel (A1 4) 0 A7 D6 L5) (D6.getD 4 .undef):=.pure (by kernel_rfl) (N3 4 rfl) (fun t ht=>by simp at ht) (by kernel_rfl)
theorem s12_5:B2 (C5 B) A7 K8 I4 [] 5 (A7.getD 5 C0) (FSel (A1 5) 0 A7 D6 L5) (D6.getD 5 .undef):=.bld (q:=1) (by kernel_rfl) (by kernel_rfl) rfl (W5 1 rfl) (fun t ht=>by simp at ht) (by kernel_rfl)
theorem s12_6:B2 (C5 B) A7 K8 I4 [] 6 (A7.getD 6 C0) (FSel (A1 6) 0 A7 D6 L5) (D6.getD 6 .undef):=.pure (by kernel_rfl) (N3 6 rfl) (fun t ht=>by simp at ht) (by kernel_rfl)
theorem s12_7:B2 (C5 B) A7 K8 I4 [] 7 (A7.getD 7 C0) (FSel (A1 7) 0 A7 D6 L5) (D6.getD 7 .undef):=.bld (q:=2) (by kernel_rfl) (by kernel_rfl) rfl (W5 2 rfl) (fun t ht=>by simp at ht) (by kernel_rfl)
theorem s12_8:B2 (C5 B) A7 K8 I4 [] 8 (A7.getD 8 C0) (FSel (A1 8) 0 A7 D6 L5) (D6.getD 8 .undef):=.pure (by kernel_rfl) (N3 8 rfl) (fun t ht=>by simp at ht) (by kernel_rfl)
theorem s12_9:B2 (C5 B) A7 K8 I4 [] 9 (A7.getD 9 C0) (FSel (A1 9) 0 A7 D6 L5) (D6.getD 9 .undef):=.pure (by kernel_rfl) (N3 9 rfl) (fun t ht=>by simp at ht) (by kernel_rfl)
theorem kF:B2 (C5 B) A7 K8 I4 [] 10 (A7.getD 10 C0) (FSel (A1 10) 0 A7 D6 L5) (D6.getD 10 .undef):=.bld (q:=3) (by kernel_rfl) (by kernel_rfl) rfl (W5 3 rfl) (fun t ht=>by simp at ht) (by kernel_rfl)
theorem kE:B2 (C5 B) A7 K8 I4 [] 11 (A7.getD 11 C0) (FSel (A1 11) 0 A7 D6 L5) (D6.getD 11 .undef):=.pure (by kernel_rfl) (N3 11 rfl) (fun t ht=>by simp at ht) (by kernel_rfl)
theorem kD:B2 (C5 B) A7 K8 I4 [] 12 (A7.getD 12 C0) (FSel (A1 12) 0 A7 D6 L5) (D6.getD 12 .undef):=.bld (q:=4) (by kernel_rfl) (by kernel_rfl) rfl (W5 4 rfl) (fun t ht=>by simp at ht) (by kernel_rfl)
theorem kC:B2 (C5 B) A7 K8 I4 [] 13 (A7.getD 13 C0) (FSel (A1 13) 0 A7 D6 L5) (D6.getD 13 .undef):=.pure (by kernel_rfl) (N3 13 rfl) (fun t ht=>by simp at ht) (by kernel_rfl)
theorem kB:B2 (C5 B) A7 K8 I4 [] 14 (A7.getD 14 C0) (FSel (A1 14) 0 A7 D6 L5) (D6.getD 14 .undef):=.bld (q:=5) (by kernel_rfl) (by kernel_rfl) rfl (W5 5 rfl) (fun t ht=>by simp at ht) (by kernel_rfl)
theorem kA:B2 (C5 B) A7 K8 I4 [] 15 (A7.getD 15 C0) (FSel (A1 15) 0 A7 D6 L5) (D6.getD 15 .undef):=.pure (by kernel_rfl) (N3 15 rfl) (fun t ht=>by simp at ht) (by kernel_rfl)
theorem jZ:B2 (C5 B) A7 K8 I4 [] 16 (A7.getD 16 C0) (FSel (A1 16) 0 A7 D6 L5) (D6.getD 16 .undef):=.pure (by kernel_rfl) (N3 16 rfl) (fun t ht=>by simp at ht) (by kernel_rfl)
theorem jY:B2 (C5 B) A7 K8 I4 [] 17 (A7.getD 17 C0) (FSel (A1 17) 0 A7 D6 L5) (D6.getD 17 .undef):=.pure (by kernel_rfl) (N3 17 rfl) (fun t ht=>by simp at ht) (by kernel_rfl)
theorem jX:B2 (C5 B) A7 K8 I4 [] 18 (A7.getD 18 C0) (FSel (A1 18) 0 A7 D6 L5) (D6.getD 18 .undef):=.bld (q:=6) (by kernel_rfl) (by kernel_rfl) rfl (W5 6 rfl) (fun t ht=>by simp at ht) (by kernel_rfl)
theorem jW:B2 (C5 B) A7 K8 I4 [] 19 (A7.getD 19 C0) (FSel (A1 19) 0 A7 D6 L5) (D6.getD 19 .undef):=.pure (by kernel_rfl) (N3 19 rfl) (fun t ht=>by simp at ht) (by kernel_rfl)
theorem jV:B2 (C5 B) A7 K8 I4 [] 20 (A7.getD 20 C0) (FSel (A1 20) 0 A7 D6 L5) (D6.getD 20 .undef):=.bld (q:=7) (by kernel_rfl) (by kernel_rfl) rfl (W5 7 rfl) (fun t ht=>by simp at ht) (by kernel_rfl)
theorem jU:B2 (C5 B) A7 K8 I4 [] 21 (A7.getD 21 C0) (FSel (A1 21) 0 A7 D6 L5) (D6.getD 21 .undef):=.pure (by kernel_rfl) (N3 21 rfl) (fun t ht=>by simp at ht) (by kernel_rfl)
theorem st_12:∀ (j:Nat) o,A7[j]?=some o→∃ v,D6[j]?=some v∧B2 (C5 B) A7 K8 I4 [] j o (FSel (A1 j) 0 A7 D6 L5) v:=bH (n:=22) (by kernel_rfl) rfl fun j hj=>match j,hj with
 | 0,_=>s12_0 B
 | 1,_=>s12_1 B
 | 2,_=>s12_2 B
 | 3,_=>s12_3 B
 | 4,_=>s12_4 B
 | 5,_=>s12_5 B
 | 6,_=>s12_6 B
 | 7,_=>s12_7 B
 | 8,_=>s12_8 B
 | 9,_=>s12_9 B
 | 10,_=>kF B
 | 11,_=>kE B
 | 12,_=>kD B
 | 13,_=>kC B
 | 14,_=>kB B
 | 15,_=>kA B
 | 16,_=>jZ B
 | 17,_=>jY B
 | 18,_=>jX B
 | 19,_=>jW B
 | 20,_=>jV B
 | 21,_=>jU B
 | n+22,h=>absurd h (by omega)
theorem cR {t':Tk} (h:t'∈tk13) {t:Tk} (h2:t'≠t) (k:tk13.all (fun x=>(Nat.beq x.op t.op&&Nat.beq x.m t.m)||(!Nat.beq x.op t.op&&(!Nat.beq x.k t.k&&!Nat.beq x.k t.k2)))=true):(t'.op≠t.op∧t'.k≠t.k∧t'.k≠t.k2)∨(t'.op=t.op∧t'.m=t.m):=by
 rw [List.all_eq_true] at k
 have:=k t' h
 simp only [Bool.or_eq_true,Bool.and_eq_true,Bool.not_eq_true'] at this;rcases this with ⟨a,b⟩ | ⟨a,b,c⟩
 ·exact .inr ⟨Nat.eq_of_beq_eq_true a,Nat.eq_of_beq_eq_true b⟩
 ·exact .inl ⟨Nat.ne_of_beq_eq_false a,Nat.ne_of_beq_eq_false b,Nat.ne_of_beq_eq_false c⟩
theorem tk_u (i:Nat) {t:Tk} (ht:tk13[i]?=some t) (k:tk13.all (fun x=>(Nat.beq x.op t.op&&Nat.beq x.m t.m)||(!Nat.beq x.op t.op&&(!Nat.beq x.k t.k&&!Nat.beq x.k t.k2)))=true):∀ t'∈tk13,t'≠t→t'.op≠t.op∧t'.k≠t.k∧t'.k≠t.k2:=fun t' h hne=>by
 rcases cR h hne k with g | ⟨g1,g2⟩
 ·exact g
 ·have h1:∀ t'∈tk13,∀ u∈tk13,t'.m=u.m→t'=u:=La (by decide);exact absurd (h1 t' h t (List.mem_of_getElem? ht) g2) hne
theorem s13_0:B2 (C5 B) A0 A9 B5 tk13 0 (A0.getD 0 C0) (FSel (A1 0) 0 A0 A4 B9) (A4.getD 0 .undef):=.pure (by kernel_rfl) (C4 0 rfl) (B1 0 rfl) (by kernel_rfl)
theorem s13_1:B2 (C5 B) A0 A9 B5 tk13 1 (A0.getD 1 C0) (FSel (A1 1) 0 A0 A4 B9) (A4.getD 1 .undef):=.pure (by kernel_rfl) (C4 1 rfl) (B1 1 rfl) (by kernel_rfl)
theorem s13_2:B2 (C5 B) A0 A9 B5 tk13 2 (A0.getD 2 C0) (FSel (A1 2) 0 A0 A4 B9) (A4.getD 2 .undef):=.bld (q:=0) (by kernel_rfl) (by kernel_rfl) rfl (E5 0 rfl) (B1 2 rfl) (by kernel_rfl)
theorem s13_3:B2 (C5 B) A0 A9 B5 tk13 3 (A0.getD 3 C0) (FSel (A1 3) 0 A0 A4 B9) (A4.getD 3 .undef):=appB (tk:=⟨3,1,0,1,4,8⟩) (b:=⟨4,[.int .i64 2048,.int .i64 4,.nils,.int .i64 1]⟩) (mb:=true) (q:=0) (j2:=2) (mm:=1) (s:=.tmp 52) (x:=.tmp 54) (t:=22) (u:=22) (et:=45) (by kernel_rfl) (C4 3 rfl) (List.mem_of_getElem? (i:=0) rfl) rfl (tk_u 0 rfl (by decide)) (by kernel_rfl) (by kernel_rfl) (by kernel_rfl) rfl (by kernel_rfl) rfl rfl rfl rfl (by decide) (by decide) rfl (by kernel_rfl)
theorem s13_4:B2 (C5 B) A0 A9 B5 tk13 4 (A0.getD 4 C0) (FSel (A1 4) 0 A0 A4 B9) (A4.getD 4 .undef):=.pure (by kernel_rfl) (C4 4 rfl) (B1 4 rfl) (by kernel_rfl)
theorem s13_5:B2 (C5 B) A0 A9 B5 tk13 5 (A0.getD 5 C0) (FSel (A1 5) 0 A0 A4 B9) (A4.getD 5 .undef):=.pure (by kernel_rfl) (C4 5 rfl) (B1 5 rfl) (by kernel_rfl)
theorem s13_6:B2 (C5 B) A0 A9 B5 tk13 6 (A0.getD 6 C0) (FSel (A1 6) 0 A0 A4 B9) (A4.getD 6 .undef):=.bld (q:=1) (by kernel_rfl) (by kernel_rfl) rfl (E5 1 rfl) (B1 6 rfl) (by kernel_rfl)
theorem s13_7:B2 (C5 B) A0 A9 B5 tk13 7 (A0.getD 7 C0) (FSel (A1 7) 0 A0 A4 B9) (A4.getD 7 .undef):=.pure (by kernel_rfl) (C4 7 rfl) (B1 7 rfl) (by kernel_rfl)
theorem s13_8:B2 (C5 B) A0 A9 B5 tk13 8 (A0.getD 8 C0) (FSel (A1 8) 0 A0 A4 B9) (A4.getD 8 .undef):=.bld (q:=2) (by kernel_rfl) (by kernel_rfl) rfl (E5 2 rfl) (B1 8 rfl) (by kernel_rfl)
theorem s13_9:B2 (C5 B) A0 A9 B5 tk13 9 (A0.getD 9 C0) (FSel (A1 9) 0 A0 A4 B9) (A4.getD 9 .undef):=.pure (by kernel_rfl) (C4 9 rfl) (B1 9 rfl) (by kernel_rfl)
theorem jT:B2 (C5 B) A0 A9 B5 tk13 10 (A0.getD 10 C0) (FSel (A1 10) 0 A0 A4 B9) (A4.getD 10 .undef):=.bld (q:=3) (by kernel_rfl) (by kernel_rfl) rfl (E5 3 rfl) (B1 10 rfl) (by kernel_rfl)
theorem jS:B2 (C5 B) A0 A9 B5 tk13 11 (A0.getD 11 C0) (FSel (A1 11) 0 A0 A4 B9) (A4.getD 11 .undef):=.pure (by kernel_rfl) (C4 11 rfl) (B1 11 rfl) (by kernel_rfl)
theorem jR:B2 (C5 B) A0 A9 B5 tk13 12 (A0.getD 12 C0) (FSel (A1 12) 0 A0 A4 B9) (A4.getD 12 .undef):=.pure (by kernel_rfl) (C4 12 rfl) (B1 12 rfl) (by kernel_rfl)
theorem jQ:B2 (C5 B) A0 A9 B5 tk13 13 (A0.getD 13 C0) (FSel (A1 13) 0 A0 A4 B9) (A4.getD 13 .undef):=.bld (q:=4) (by kernel_rfl) (by kernel_rfl) rfl (E5 4 rfl) (B1 13 rfl) (by kernel_rfl)
theorem jP:B2 (C5 B) A0 A9 B5 tk13 14 (A0.getD 14 C0) (FSel (A1 14) 0 A0 A4 B9) (A4.getD 14 .undef):=appB (tk:=⟨14,2,2,3,2,512⟩) (b:=⟨2,[.int .i64 2048,.bool false]⟩) (mb:=true) (q:=4) (j2:=13) (mm:=1) (s:=.tmp 63) (x:=.tmp 65) (t:=23) (u:=23) (et:=40) (by kernel_rfl) (C4 14 rfl) (List.mem_of_getElem? (i:=1) rfl) rfl (tk_u 1 rfl (by decide)) (by kernel_rfl) (by kernel_rfl) (by kernel_rfl) rfl (by kernel_rfl) rfl rfl rfl rfl (by decide) (by decide) rfl (by kernel_rfl)
theorem jO:B2 (C5 B) A0 A9 B5 tk13 15 (A0.getD 15 C0) (FSel (A1 15) 0 A0 A4 B9) (A4.getD 15 .undef):=.pure (by kernel_rfl) (C4 15 rfl) (B1 15 rfl) (by kernel_rfl)
theorem jN:B2 (C5 B) A0 A9 B5 tk13 16 (A0.getD 16 C0) (FSel (A1 16) 0 A0 A4 B9) (A4.getD 16 .undef):=.bld (q:=5) (by kernel_rfl) (by kernel_rfl) rfl (E5 5 rfl) (B1 16 rfl) (by kernel_rfl)
theorem jM:B2 (C5 B) A0 A9 B5 tk13 17 (A0.getD 17 C0) (FSel (A1 17) 0 A0 A4 B9) (A4.getD 17 .undef):=.pure (by kernel_rfl) (C4 17 rfl) (B1 17 rfl) (by kernel_rfl)
theorem jL:B2 (C5 B) A0 A9 B5 tk13 18 (A0.getD 18 C0) (FSel (A1 18) 0 A0 A4 B9) (A4.getD 18 .undef):=.bld (q:=6) (by kernel_rfl) (by kernel_rfl) rfl (E5 6 rfl) (B1 18 rfl) (by kernel_rfl)
theorem jK:B2 (C5 B) A0 A9 B5 tk13 19 (A0.getD 19 C0) (FSel (A1 19) 0 A0 A4 B9) (A4.getD 19 .undef):=.pure (by kernel_rfl) (C4 19 rfl) (B1 19 rfl) (by kernel_rfl)
theorem jJ:B2 (C5 B) A0 A9 B5 tk13 20 (A0.getD 20 C0) (FSel (A1 20) 0 A0 A4 B9) (A4.getD 20 .undef):=.bld (q:=7) (by kernel_rfl) (by kernel_rfl) rfl (E5 7 rfl) (B1 20 rfl) (by kernel_rfl)
theorem jI:B2 (C5 B) A0 A9 B5 tk13 21 (A0.getD 21 C0) (FSel (A1 21) 0 A0 A4 B9) (A4.getD 21 .undef):=.pure (by kernel_rfl) (C4 21 rfl) (B1 21 rfl) (by kernel_rfl)
theorem jH:B2 (C5 B) A0 A9 B5 tk13 22 (A0.getD 22 C0) (FSel (A1 22) 0 A0 A4 B9) (A4.getD 22 .undef):=.pure (by kernel_rfl) (C4 22 rfl) (B1 22 rfl) (by kernel_rfl)
theorem jG:B2 (C5 B) A0 A9 B5 tk13 23 (A0.getD 23 C0) (FSel (A1 23) 0 A0 A4 B9) (A4.getD 23 .undef):=.pure (by kernel_rfl) (C4 23 rfl) (B1 23 rfl) (by kernel_rfl)
theorem jF:B2 (C5 B) A0 A9 B5 tk13 24 (A0.getD 24 C0) (FSel (A1 24) 0 A0 A4 B9) (A4.getD 24 .undef):=.bld (q:=8) (by kernel_rfl) (by kernel_rfl) rfl (E5 8 rfl) (B1 24 rfl) (by kernel_rfl)
theorem jE:B2 (C5 B) A0 A9 B5 tk13 25 (A0.getD 25 C0) (FSel (A1 25) 0 A0 A4 B9) (A4.getD 25 .undef):=.pure (by kernel_rfl) (C4 25 rfl) (B1 25 rfl) (by kernel_rfl)
theorem jD:B2 (C5 B) A0 A9 B5 tk13 26 (A0.getD 26 C0) (FSel (A1 26) 0 A0 A4 B9) (A4.getD 26 .undef):=.pure (by kernel_rfl) (C4 26 rfl) (B1 26 rfl) (by kernel_rfl)
theorem jC:B2 (C5 B) A0 A9 B5 tk13 27 (A0.getD 27 C0) (FSel (A1 27) 0 A0 A4 B9) (A4.getD 27 .undef):=.bld (q:=9) (by kernel_rfl) (by kernel_rfl) rfl (E5 9 rfl) (B1 27 rfl) (by kernel_rfl)
theorem jB:B2 (C5 B) A0 A9 B5 tk13 28 (A0.getD 28 C0) (FSel (A1 28) 0 A0 A4 B9) (A4.getD 28 .undef):=.pure (by kernel_rfl) (C4 28 rfl) (B1 28 rfl) (by kernel_rfl)
theorem jA:B2 (C5 B) A0 A9 B5 tk13 29 (A0.getD 29 C0) (FSel (A1 29) 0 A0 A4 B9) (A4.getD 29 .undef):=.bld (q:=10) (by kernel_rfl) (by kernel_rfl) rfl (E5 10 rfl) (B1 29 rfl) (by kernel_rfl)
theorem iZ:B2 (C5 B) A0 A9 B5 tk13 30 (A0.getD 30 C0) (FSel (A1 30) 0 A0 A4 B9) (A4.getD 30 .undef):=.pure (by kernel_rfl) (C4 30 rfl) (B1 30 rfl) (by kernel_rfl)
theorem iY:B2 (C5 B) A0 A9 B5 tk13 31 (A0.getD 31 C0) (FSel (A1 31) 0 A0 A4 B9) (A4.getD 31 .undef):=.bld (q:=11) (by kernel_rfl) (by kernel_rfl) rfl (E5 11 rfl) (B1 31 rfl) (by kernel_rfl)
theorem iX:B2 (C5 B) A0 A9 B5 tk13 32 (A0.getD 32 C0) (FSel (A1 32) 0 A0 A4 B9) (A4.getD 32 .undef):=.pure (by kernel_rfl) (C4 32 rfl) (B1 32 rfl) (by kernel_rfl)
theorem iW:B2 (C5 B) A0 A9 B5 tk13 33 (A0.getD 33 C0) (FSel (A1 33) 0 A0 A4 B9) (A4.getD 33 .undef):=.pure (by kernel_rfl) (C4 33 rfl) (B1 33 rfl) (by kernel_rfl)
theorem iV:B2 (C5 B) A0 A9 B5 tk13 34 (A0.getD 34 C0) (FSel (A1 34) 0 A0 A4 B9) (A4.getD 34 .undef):=.bld (q:=12) (by kernel_rfl) (by kernel_rfl) rfl (E5 12 rfl) (B1 34 rfl) (by kernel_rfl)
theorem iU:B2 (C5 B) A0 A9 B5 tk13 35 (A0.getD 35 C0) (FSel (A1 35) 0 A0 A4 B9) (A4.getD 35 .undef):=.pure (by kernel_rfl) (C4 35 rfl) (B1 35 rfl) (by kernel_rfl)
theorem iT:B2 (C5 B) A0 A9 B5 tk13 36 (A0.getD 36 C0) (FSel (A1 36) 0 A0 A4 B9) (A4.getD 36 .undef):=.load (i:=0) (by kernel_rfl) (C4 36 rfl) (B1 36 rfl) (by kernel_rfl) (by kernel_rfl) (by decide)
theorem iS:B2 (C5 B) A0 A9 B5 tk13 37 (A0.getD 37 C0) (FSel (A1 37) 0 A0 A4 B9) (A4.getD 37 .undef):=.pure (by kernel_rfl) (C4 37 rfl) (B1 37 rfl) (by kernel_rfl)
theorem iR:B2 (C5 B) A0 A9 B5 tk13 38 (A0.getD 38 C0) (FSel (A1 38) 0 A0 A4 B9) (A4.getD 38 .undef):=.pure (by kernel_rfl) (C4 38 rfl) (B1 38 rfl) (by kernel_rfl)
theorem iQ:B2 (C5 B) A0 A9 B5 tk13 39 (A0.getD 39 C0) (FSel (A1 39) 0 A0 A4 B9) (A4.getD 39 .undef):=.bld (q:=13) (by kernel_rfl) (by kernel_rfl) rfl (E5 13 rfl) (B1 39 rfl) (by kernel_rfl)
theorem iP:B2 (C5 B) A0 A9 B5 tk13 40 (A0.getD 40 C0) (FSel (A1 40) 0 A0 A4 B9) (A4.getD 40 .undef):=.pure (by kernel_rfl) (C4 40 rfl) (B1 40 rfl) (by kernel_rfl)
theorem iO:B2 (C5 B) A0 A9 B5 tk13 41 (A0.getD 41 C0) (FSel (A1 41) 0 A0 A4 B9) (A4.getD 41 .undef):=.pure (by kernel_rfl) (C4 41 rfl) (B1 41 rfl) (by kernel_rfl)
theorem iN:B2 (C5 B) A0 A9 B5 tk13 42 (A0.getD 42 C0) (FSel (A1 42) 0 A0 A4 B9) (A4.getD 42 .undef):=.pure (by kernel_rfl) (C4 42 rfl) (B1 42 rfl) (by kernel_rfl)
theorem iM:B2 (C5 B) A0 A9 B5 tk13 43 (A0.getD 43 C0) (FSel (A1 43) 0 A0 A4 B9) (A4.getD 43 .undef):=.bld (q:=14) (by kernel_rfl) (by kernel_rfl) rfl (E5 14 rfl) (B1 43 rfl) (by kernel_rfl)
theorem iL:B2 (C5 B) A0 A9 B5 tk13 44 (A0.getD 44 C0) (FSel (A1 44) 0 A0 A4 B9) (A4.getD 44 .undef):=.pure (by kernel_rfl) (C4 44 rfl) (B1 44 rfl) (by kernel_rfl)
theorem iK:B2 (C5 B) A0 A9 B5 tk13 45 (A0.getD 45 C0) (FSel (A1 45) 0 A0 A4 B9) (A4.getD 45 .undef):=.load (i:=0) (by kernel_rfl) (C4 45 rfl) (B1 45 rfl) (by kernel_rfl) (by kernel_rfl) (by decide)
theorem iJ:B2 (C5 B) A0 A9 B5 tk13 46 (A0.getD 46 C0) (FSel (A1 46) 0 A0 A4 B9) (A4.getD 46 .undef):=.bld (q:=15) (by kernel_rfl) (by kernel_rfl) rfl (E5 15 rfl) (B1 46 rfl) (by kernel_rfl)
theorem iI:B2 (C5 B) A0 A9 B5 tk13 47 (A0.getD 47 C0) (FSel (A1 47) 0 A0 A4 B9) (A4.getD 47 .undef):=.pure (by kernel_rfl) (C4 47 rfl) (B1 47 rfl) (by kernel_rfl)
theorem iH:B2 (C5 B) A0 A9 B5 tk13 48 (A0.getD 48 C0) (FSel (A1 48) 0 A0 A4 B9) (A4.getD 48 .undef):=.bld (q:=16) (by kernel_rfl) (by kernel_rfl) rfl (E5 16 rfl) (B1 48 rfl) (by kernel_rfl)
theorem iG:B2 (C5 B) A0 A9 B5 tk13 49 (A0.getD 49 C0) (FSel (A1 49) 0 A0 A4 B9) (A4.getD 49 .undef):=.pure (by kernel_rfl) (C4 49 rfl) (B1 49 rfl) (by kernel_rfl)
theorem iF:B2 (C5 B) A0 A9 B5 tk13 50 (A0.getD 50 C0) (FSel (A1 50) 0 A0 A4 B9) (A4.getD 50 .undef):=.bld (q:=17) (by kernel_rfl) (by kernel_rfl) rfl (E5 17 rfl) (B1 50 rfl) (by kernel_rfl)
theorem iE:B2 (C5 B) A0 A9 B5 tk13 51 (A0.getD 51 C0) (FSel (A1 51) 0 A0 A4 B9) (A4.getD 51 .undef):=.pure (by kernel_rfl) (C4 51 rfl) (B1 51 rfl) (by kernel_rfl)
theorem iD:B2 (C5 B) A0 A9 B5 tk13 52 (A0.getD 52 C0) (FSel (A1 52) 0 A0 A4 B9) (A4.getD 52 .undef):=.bld (q:=18) (by kernel_rfl) (by kernel_rfl) rfl (E5 18 rfl) (B1 52 rfl) (by kernel_rfl)
theorem iC:B2 (C5 B) A0 A9 B5 tk13 53 (A0.getD 53 C0) (FSel (A1 53) 0 A0 A4 B9) (A4.getD 53 .undef):=.pure (by kernel_rfl) (C4 53 rfl) (B1 53 rfl) (by kernel_rfl)
theorem iB:B2 (C5 B) A0 A9 B5 tk13 54 (A0.getD 54 C0) (FSel (A1 54) 0 A0 A4 B9) (A4.getD 54 .undef):=.bld (q:=19) (by kernel_rfl) (by kernel_rfl) rfl (E5 19 rfl) (B1 54 rfl) (by kernel_rfl)
theorem iA:B2 (C5 B) A0 A9 B5 tk13 55 (A0.getD 55 C0) (FSel (A1 55) 0 A0 A4 B9) (A4.getD 55 .undef):=.pure (by kernel_rfl) (C4 55 rfl) (B1 55 rfl) (by kernel_rfl)
theorem hZ:B2 (C5 B) A0 A9 B5 tk13 56 (A0.getD 56 C0) (FSel (A1 56) 0 A0 A4 B9) (A4.getD 56 .undef):=.pure (by kernel_rfl) (C4 56 rfl) (B1 56 rfl) (by kernel_rfl)
theorem hY:B2 (C5 B) A0 A9 B5 tk13 57 (A0.getD 57 C0) (FSel (A1 57) 0 A0 A4 B9) (A4.getD 57 .undef):=.bld (q:=20) (by kernel_rfl) (by kernel_rfl) rfl (E5 20 rfl) (B1 57 rfl) (by kernel_rfl)
theorem hX:B2 (C5 B) A0 A9 B5 tk13 58 (A0.getD 58 C0) (FSel (A1 58) 0 A0 A4 B9) (A4.getD 58 .undef):=.pure (by kernel_rfl) (C4 58 rfl) (B1 58 rfl) (by kernel_rfl)
theorem hU:B2 (C5 B) A0 A9 B5 tk13 59 (A0.getD 59 C0) (FSel (A1 59) 0 A0 A4 B9) (A4.getD 59 .undef):=.bld (q:=21) (by kernel_rfl) (by kernel_rfl) rfl (E5 21 rfl) (B1 59 rfl) (by kernel_rfl)
theorem hT:B2 (C5 B) A0 A9 B5 tk13 60 (A0.getD 60 C0) (FSel (A1 60) 0 A0 A4 B9) (A4.getD 60 .undef):=.pure (by kernel_rfl) (C4 60 rfl) (B1 60 rfl) (by kernel_rfl)
theorem st_13:∀ (j:Nat) o,A0[j]?=some o→∃ v,A4[j]?=some v∧B2 (C5 B) A0 A9 B5 tk13 j o (FSel (A1 j) 0 A0 A4 B9) v:=bH (n:=61) (by kernel_rfl) rfl fun j hj=>match j,hj with
 | 0,_=>s13_0 B
 | 1,_=>s13_1 B
 | 2,_=>s13_2 B
 | 3,_=>s13_3 B
 | 4,_=>s13_4 B
 | 5,_=>s13_5 B
 | 6,_=>s13_6 B
 | 7,_=>s13_7 B
 | 8,_=>s13_8 B
 | 9,_=>s13_9 B
 | 10,_=>jT B
 | 11,_=>jS B
 | 12,_=>jR B
 | 13,_=>jQ B
 | 14,_=>jP B
 | 15,_=>jO B
 | 16,_=>jN B
 | 17,_=>jM B
 | 18,_=>jL B
 | 19,_=>jK B
 | 20,_=>jJ B
 | 21,_=>jI B
 | 22,_=>jH B
 | 23,_=>jG B
 | 24,_=>jF B
 | 25,_=>jE B
 | 26,_=>jD B
 | 27,_=>jC B
 | 28,_=>jB B
 | 29,_=>jA B
 | 30,_=>iZ B
 | 31,_=>iY B
 | 32,_=>iX B
 | 33,_=>iW B
 | 34,_=>iV B
 | 35,_=>iU B
 | 36,_=>iT B
 | 37,_=>iS B
 | 38,_=>iR B
 | 39,_=>iQ B
 | 40,_=>iP B
 | 41,_=>iO B
 | 42,_=>iN B
 | 43,_=>iM B
 | 44,_=>iL B
 | 45,_=>iK B
 | 46,_=>iJ B
 | 47,_=>iI B
 | 48,_=>iH B
 | 49,_=>iG B
 | 50,_=>iF B
 | 51,_=>iE B
 | 52,_=>iD B
 | 53,_=>iC B
 | 54,_=>iB B
 | 55,_=>iA B
 | 56,_=>hZ B
 | 57,_=>hY B
 | 58,_=>hX B
 | 59,_=>hU B
 | 60,_=>hT B
 | n+61,h=>absurd h (by omega)
end
end Go.Am
