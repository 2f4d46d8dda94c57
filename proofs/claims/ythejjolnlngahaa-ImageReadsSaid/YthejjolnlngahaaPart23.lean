/-
  The document's reader over bytes that stand four places further. The document's reading of an image: a number, a flag: trees.
-/
import Derived.Test.YthejjolnlngahaaPart22
namespace Go.Am
open Go.Proofs
open IntKind renaming wrap → wS
open Int renaming toNat → wZ
set_option maxRecDepth 100000
section
variable (G:Nat→List AV) (B:Nat)
def fP (k n:Nat) (a:Nat):Option Blk:=some ⟨1,[.slice true (.ro k) 4 n,.int .i64 (a:Int)]⟩
theorem dg01 :DGood (za G B) (Dc Try.prog [] [] [] 1) []:=C7 (mix G B) (by kernel_rfl) .nil .nil
theorem qM {l:List AV} {n i:Nat} (h:i<(A0 l 4 n).length):isI .u8 l (i+4)=isI .u8 (A0 l 4 n) i∧A2 l (i+4)=A2 (A0 l 4 n) i:=by
 have e:(A0 l 4 n)[i]?=l[i+4]?:=by
  unfold A0 at h ⊢;rw [List.length_take] at h;rw [zA4,if_pos (by omega),List.getElem?_drop,Nat.add_comm]
 unfold isI A2;rw [e];exact ⟨rfl,rfl⟩
theorem rd_pos {l:List AV} {n:Nat} {k:IntKind} {a:Int} (h:D8 l n a) (h0:C0 [.agg l,.int k a]=0):0<n:=by
 rcases Nat.eq_zero_or_pos n with rfl | h1
 ·have:l=[]:=List.length_eq_zero_iff.1 h.len
  subst this;simp [C0,wrd,Au] at h0
 ·exact h1
theorem aG3 {l:List AV} {n x v:Nat} (h:x+v≤n):A0 l (x+4) v=A0 (A0 l 4 n) x v:=by
 unfold A0;rw [List.drop_take,List.take_take,List.drop_drop,Nat.add_comm 4 x,Nat.min_eq_left (by omega)]
theorem dl94 (k n a:Nat) (hb:E4 (A0 (G k) 4 n)=true) (hn:(A0 (G k) 4 n).length=n) (h62:n≤4611686018427387904) (ha:a≤n) :
  AWp (za G B) 1 (.loop (A5 Try.f94 0)) (fl 72 [0,2,3,4,5] [.ptr (.rw 0) 0,.int .u64 0,.int .i64 0,.int .u64 0,.int .i64 0]) [fP k n a]
   (lv 72 [0,2,3,4,5] fun e vs H=>(e=.exit 0∧wrd (A0 (G k) 4 n) a=none∧wk [.ptr (.rw 0) 0,.int .u64 0,.int .i64 0,.undef,.undef] vs∧H=[fP k n a])
    ∨ (e=.ret∧wrd (A0 (G k) 4 n) a=none∧wk [.ptr (.rw 0) 0,.int .u64 0,.int .i64 4,.undef,.undef] vs∧H=[fP k n a])
    ∨ (e=.ret∧∃ v j,wrd (A0 (G k) 4 n) a=some (v,j)∧wk [.ptr (.rw 0) 0,.int .u64 (v:Int),.int .i64 0,.undef,.undef] vs∧H=[fP k n (a+j)])):=by
 refine X5 (fun j vs H=>∃ i acc:Nat,i≤9∧j=9 - i∧acc<128^i∧wrd (A0 (G k) 4 n) a=(Au (A0 (G k) 4 n) a (10 - i) i).map (upd acc i)∧vs=[.ptr (.rw 0) 0,.int .u64 0,.int .i64 0,.int .u64 (acc:Int),.int .i64 (i:Int)]∧H=[fP k n a]) 9
  ⟨0,0,by omega,rfl,by simp,by rw [show upd 0 0=id from by funext p;simp [upd]];simp [wrd],rfl,rfl⟩ ?_
 rintro j vs H ⟨i,acc,hk,rfl,hacc,hs,rfl,rfl⟩
 refine D3 (C:=(za G B)) (dg01 G B) (fuel:=200) (n0:=10) (m:=1) (c:=A5 Try.f94 0) (vs:=[.ptr (.rw 0) (.lit 0),.int .u64 (.lit 0),.int .i64 (.lit 0),.int .u64 (.var 1 (acc:Int)),.int .i64 (.var 2 (i:Int))])
  (H:=[some ⟨1,.of [.slice true (.ro (.var 6 k)) (.lit 4) (.var 4 n),.int .i64 (.var 5 (a:Int))]⟩]) (by simp) ?_
 rw [rb94];have w1:wS .i64 ((a:Int)+(i:Int))=((a+i:Nat):Int):=by rw [B5 (by omega)];omega
 have w2:wS .i64 (7*(i:Int))=((7*i:Nat):Int):=by rw [B5 (by omega)];omega
 have w3:wS .i64 ((i:Int)+1)=((i+1:Nat):Int):=by rw [B5 (by omega)];omega
 have w4:wS .i64 (((a+i:Nat):Int)+1)=((a+(i+1):Nat):Int):=by rw [B5 (by omega)];omega
 rw [w1,w2,w3,w4,Int.toNat_natCast];refine ⟨fun _=>⟨fun hl=>?_,fun hl=>?_⟩,fun h=>absurd (sJ h) (by omega)⟩
 ·have hl0:=zR hl;clear hl;have hl:a+i<(A0 (G k) 4 n).length:=by omega
  obtain ⟨s1,s2⟩:=qM hl;rw [s1,s2];obtain ⟨g1,g2,g3⟩:=Xq hb hl;have g0:decide ((0:Int)≤((a+i:Nat):Int))=true:=yI (by omega);have g7:decide ((0:Int)≤((7*i:Nat):Int))=true:=yI (by omega);have hc:A2 (A0 (G k) 4 n) (a+i)=((A2 (A0 (G k) 4 n) (a+i)).toNat:Int):=by omega
  have hd:(A2 (A0 (G k) 4 n) (a+i)).toNat % 128<128:=Nat.mod_lt _ (by omega)
  have tm:wS .u64 (Int.tmod (A2 (A0 (G k) 4 n) (a+i)) 128)=(((A2 (A0 (G k) 4 n) (a+i)).toNat % 128:Nat):Int):=by
   rw [Int.tmod_eq_emod_of_nonneg g2,Bj (by omega)];omega
  rw [tm]
  have vals:¬Hm (A0 (G k) 4 n) a i→wS .u64 ((acc:Int)+V7 .u64 (((A2 (A0 (G k) 4 n) (a+i)).toNat % 128:Nat):Int) ((7*i:Nat):Int))=((acc+(A2 (A0 (G k) 4 n) (a+i)).toNat % 128*128^i:Nat):Int):=fun hb=>by
   have h9:i=9→(A2 (A0 (G k) 4 n) (a+i)).toNat % 128≤1:=fun h=>by
    have:¬1<(A2 (A0 (G k) 4 n) (a+i)).toNat:=fun h1=>hb (.inl ⟨h,h1⟩)
    omega
   have hf:=fQ hk hd h9;have hp:=pow9 hk;rw [qQ hk hd h9,Bj (by omega)];omega
  have ret:¬Hm (A0 (G k) 4 n) a i→(A2 (A0 (G k) 4 n) (a+i)).toNat<128→wrd (A0 (G k) 4 n) a=some (acc+(A2 (A0 (G k) 4 n) (a+i)).toNat % 128*128^i,i+1):=fun hb hc=>by
   have:=kT hs hk hl hb hc
   rwa [Nat.mod_eq_of_lt hc]
  refine ⟨g0,yI (by omega),g1,fun h9=>⟨fun h=>?_,fun h=>⟨yI (by have:=eq_of_beq h9;omega),fun h0=>?_,fun h0=>?_⟩⟩,fun h9=>⟨fun hp=>⟨fun h0=>?_,fun h0=>⟨g7,fun hlt=>?_,fun hlt=>?_⟩⟩,fun hp=>⟨g7,fun hlt=>?_,fun hlt=>?_⟩⟩⟩
  all_goals try simp only [qC,decide_eq_false_iff_not,beq_iff_eq,beq_eq_false_iff_ne,ne_eq] at *
  ·exact .inr (.inl ⟨by trivial,Ck hs hk (.inr (.inl ⟨by omega,by omega⟩)),by simp [wk],rfl⟩)
  ·exact .inr (.inl ⟨by trivial,Ck hs hk (.inr (.inr ⟨by omega,by omega⟩)),by simp [wk],rfl⟩)
  ·have nb:¬Hm (A0 (G k) 4 n) a i:=by rintro (⟨_,h2⟩ | ⟨_,h2⟩)<;>omega
   rw [vals nb];exact ⟨by omega,by omega,.inr (.inr ⟨by trivial,_,_,ret nb (by omega),by simp [wk],rfl⟩)⟩
  ·exact .inr (.inl ⟨by trivial,Ck hs hk (.inr (.inr ⟨by omega,by omega⟩)),by simp [wk],rfl⟩)
  ·have nb:¬Hm (A0 (G k) 4 n) a i:=by rintro (⟨_,h2⟩ | ⟨_,h2⟩)<;>omega
   rw [vals nb];exact .inr (.inr ⟨by trivial,_,_,ret nb (by omega),by simp [wk],rfl⟩)
  ·have nb:¬Hm (A0 (G k) 4 n) a i:=by rintro (⟨_,h2⟩ | ⟨_,h2⟩)<;>omega
   rw [vals nb];obtain ⟨n1,n2⟩:=Qk hs hk hl nb (by omega);exact ⟨9 - (i+1),by omega,.inl ⟨i+1,_,by omega,rfl,Sg hacc hd,n2,rfl,rfl⟩⟩
  ·have nb:¬Hm (A0 (G k) 4 n) a i:=by rintro (⟨_,h2⟩ | ⟨_,h2⟩)<;>omega
   rw [vals nb];exact .inr (.inr ⟨by trivial,_,_,ret nb (by omega),by simp [wk],rfl⟩)
  ·have nb:¬Hm (A0 (G k) 4 n) a i:=by rintro (⟨_,h2⟩ | ⟨_,h2⟩)<;>omega
   rw [vals nb];obtain ⟨n1,n2⟩:=Qk hs hk hl nb (by omega);exact ⟨9 - (i+1),by omega,.inl ⟨i+1,_,by omega,rfl,Sg hacc hd,n2,rfl,rfl⟩⟩
 ·have hl:=sJ hl;exact .inl ⟨by trivial,Ck hs hk (.inl (by omega)),by simp [wk],rfl⟩
def dL94:DL:=⟨0,72,[0,2,3,4,5],fun vs H=>match vs,H with
 | [.ptr (.rw 0) (.lit 0),.int .u64 (.lit 0),.int .i64 (.lit 0),.int .u64 (.lit 0),.int .i64 (.lit 0)],[some ⟨1,.of [.slice true (.ro k) (.lit 4) n,.int .i64 a]⟩]=>
  some (.chk (.uf 1120 okRdU [.agg (.sub (.ro k) (.lit 4) n),.ptr (.rw 0) n,.int .i64 a])<|.tst (.uf 1121 Aw [.agg (.sub (.ro k) (.lit 4) n),.int .i64 a])
   (.one .ret [.ptr (.rw 0) (.lit 0),.int .u64 (.uf 1122 A7 [.agg (.sub (.ro k) (.lit 4) n),.int .i64 a]),.int .i64 (.lit 0),.undef,.undef] [some ⟨1,.of [.slice true (.ro k) (.lit 4) n,.int .i64 (.uf 1124 A3 [.agg (.sub (.ro k) (.lit 4) n),.int .i64 a])]⟩])
   (.allB fun b=>.tst b (.one (.exit 0) [.ptr (.rw 0) (.lit 0),.int .u64 (.lit 0),.int .i64 (.lit 0),.undef,.undef] [some ⟨1,.of [.slice true (.ro k) (.lit 4) n,.int .i64 a]⟩])
    (.one .ret [.ptr (.rw 0) (.lit 0),.int .u64 (.lit 0),.int .i64 (.lit 4),.undef,.undef] [some ⟨1,.of [.slice true (.ro k) (.lit 4) n,.int .i64 a]⟩])))
 | _,_=>none⟩
theorem bD3 :F5 (za G B) 1 (A5 Try.f94 0) dL94:=by
 refine .of fun vs H o ho n Q hQ=>?_;simp only [dL94] at ho;split at ho
 ·rename_i k n a;simp only [zN] at ho;subst ho;obtain ⟨h1,h3,h4⟩:=hQ;simp only [vB,vVs,vV,vR,vN,vL] at h1 h3 h4;have ok:=E0.1 h1;simp only [dL94,vVs,vV,vR,vN,vI,vL,B8,List.map_cons,List.map_nil,Option.map_some,C6];have key:=dl94 G B (vN G k) (vN G n) (vI G a).toNat ok.b ok.len ok.big ok.le;simp only [fP] at key;rw [←ok.pos] at key;refine key.lmono ?_;rintro e vs'' H'' (⟨rfl,g1,g2,rfl⟩ | ⟨rfl,g1,g2,rfl⟩ | ⟨rfl,v,j,g1,g2,rfl⟩)
  ·have:=(h4 (by simp [Aw,g1]) true).1 rfl
   refine .inl ⟨_,g2,?_⟩;simp only [J2,vVs,vV,vR,vN,vI,vB,vL,B8,List.map_cons,List.map_nil,Option.map_some,C6] at this;exact this
  ·have:=(h4 (by simp [Aw,g1]) false).2 rfl
   refine .inl ⟨_,g2,?_⟩;simp only [J2,vVs,vV,vR,vN,vI,vB,vL,B8,List.map_cons,List.map_nil,Option.map_some,C6] at this;exact this
  ·have:=h3 (by simp [Aw,g1])
   refine .inl ⟨_,g2,?_⟩;simp only [J2,vVs,vV,vR,vN,vI,vB,vL,B8,List.map_cons,List.map_nil,Option.map_some,C6,A7,A3,g1] at this;exact this
 ·simp at ho
theorem dgD94 :DGood (za G B) (Dc Try.prog [] [] [dL94] 1) (loopsOf (C3 Try.f94)):=C7 (mix G B) (by kernel_rfl) .nil (.cast (.cons (i:=0) (by kernel_rfl) rfl (bD3 G B) .nil) (by kernel_rfl))
theorem d94 (k n:Nat) (a:Int) (Q:Ex→List AV→Hp→Prop) (R:AV→Hp→Prop):vT G Q R (H5 (Dc Try.prog [] [] [dL94] 1) 200 10 Try.f94 [.ptr (.rw 0) (.lit 0)] [some ⟨1,.of [.slice true (.ro (.var 6 k)) (.lit 4) (.var 4 n),.int .i64 (.var 5 a)]⟩] 1)=(
  okRdU [.agg (A0 (G k) 4 n),.ptr (.rw 0) n,.int .i64 a]=true∧(Aw [.agg (A0 (G k) 4 n),.int .i64 a]=true→R (.tup [.int .u64 (A7 [.agg (A0 (G k) 4 n),.int .i64 a]),.int .i64 0]) [some ⟨1,([.slice true (.ro k) 4 n,.int .i64 (A3 [.agg (A0 (G k) 4 n),.int .i64 a])]:List AV)⟩])∧(Aw [.agg (A0 (G k) 4 n),.int .i64 a]=false→(∀ b10:Bool, (b10=true→R (.tup [.int .u64 0,.int .i64 4]) [some ⟨1,([.slice true (.ro k) 4 n,.int .i64 a]:List AV)⟩])∧(b10=false→R (.tup [.int .u64 0,.int .i64 4]) [some ⟨1,([.slice true (.ro k) 4 n,.int .i64 a]:List AV)⟩])))):=by kernel_rfl
theorem bD0 (k n:Nat) (a:Int) (h:okRdU [.agg (A0 (G k) 4 n),.ptr (.rw 0) n,.int .i64 a]=true):ACalls (za G B) 94 [.ptr (.rw 0) 0] [some ⟨1,[.slice true (.ro k) 4 n,.int .i64 a]⟩]
  fun v' H'=>v'=.tup [.int .u64 (A7 [.agg (A0 (G k) 4 n),.int .i64 a]),.int .i64 (C0 [.agg (A0 (G k) 4 n),.int .i64 a])]∧H'.take 1=[some ⟨1,[.slice true (.ro k) 4 n,.int .i64 (A3 [.agg (A0 (G k) 4 n),.int .i64 a])]⟩]:=by
 exact C8 (C:=(za G B)) (fn:=Try.f94) (f:=94) (R:=fun v' H'=>v'=.tup [.int .u64 (A7 [.agg (A0 (G k) 4 n),.int .i64 a]),.int .i64 (C0 [.agg (A0 (G k) 4 n),.int .i64 a])]∧H'=[some ⟨1,[.slice true (.ro k) 4 n,.int .i64 (A3 [.agg (A0 (G k) 4 n),.int .i64 a])]⟩])
  (dgD94 G B) (by kernel_rfl) (by kernel_rfl) (by kernel_rfl) (fuel:=200) (n0:=10) (keep:=1) (args:=[.ptr (.rw 0) (.lit 0)]) (H:=[some ⟨1,.of [.slice true (.ro (.var 6 k)) (.lit 4) (.var 4 n),.int .i64 (.var 5 a)]⟩]) (by
  rw [d94];obtain ⟨g1,g2⟩:=dH (l:=A0 (G k) 4 n) (k:=.i64) (a:=a);refine ⟨h,fun hk=>?_,fun hk=>?_⟩
  ·rw [g1 hk];exact ⟨rfl,rfl⟩
  ·obtain ⟨e1,e2,e3⟩:=g2 hk;rw [e1,e2,e3]
   exact fun b=>⟨fun _=>⟨rfl,rfl⟩,fun _=>⟨rfl,rfl⟩⟩)
def dreadS:DSum:=fun xs H=>match xs with
 | [.ptr (.rw i) (.lit 0)]=>match H[i]? with
  | some (some ⟨1,.of [.slice true (.ro k) (.lit 4) n,.int .i64 a]⟩)=>
   some (.chk (.uf 1120 okRdU [.agg (.sub (.ro k) (.lit 4) n),.ptr (.rw 0) n,.int .i64 a]) (.one (.tup [.int .u64 (.uf 1122 A7 [.agg (.sub (.ro k) (.lit 4) n),.int .i64 a]),.int .i64 (.uf 1123 C0 [.agg (.sub (.ro k) (.lit 4) n),.int .i64 a])]) [.set i ⟨1,.of [.slice true (.ro k) (.lit 4) n,.int .i64 (.uf 1124 A3 [.agg (.sub (.ro k) (.lit 4) n),.int .i64 a])]⟩]))
  | _=>none
 | _=>none
theorem Vg :DSumOk (za G B) 94 dreadS:=by
 intro xs H o ho;simp only [dreadS] at ho;split at ho
 ·rename_i i;split at ho
  ·rename_i k n a hi;simp only [zN] at ho;subst ho;intro h1;simp only [vB,vVs,vV,vR,vN,vL] at h1;refine E1.set1 (C:=(za G B)) (rest:=[]) hi ?_ (by simp [vL,vVs,vV,vR,vN,A6,B0]) (by simp [vL,vVs,vV,vR,vN,A6,B0]) rfl (by simp [vV,vVs,B0,A6]) (by simp [vV]);simp only [vVs,vV,vB,vI,vL,vR,vN];exact bD0 G B (vN G k) (vN G n) (vI G a) h1
  ·simp at ho
 ·simp at ho
def docQ:List (Nat×DSum):=[(94,dreadS)]
theorem fO :P8 (za G B) docQ:=.cons (Vg G B) .nil
theorem dgDQ :DGood (za G B) (Dc Try.prog [95] docQ [] 1) []:=C7 (mix G B) (by kernel_rfl) (fO G B) .nil
theorem d76 (k n:Nat) (a m:Int) (Q:Ex→List AV→Hp→Prop) (R:AV→Hp→Prop):vT G Q R (H5 (Dc Try.prog [95] docQ [] 1) 200 10 Try.f76 [.ptr (.rw 0) (.lit 0),.int .i64 (.var 7 m)] [some ⟨1,.of [.slice true (.ro (.var 6 k)) (.lit 4) (.var 4 n),.int .i64 (.var 5 a)]⟩] 2)=(
  okRdU [.agg (A0 (G k) 4 n),.ptr (.rw 0) n,.int .i64 a]=true∧(((C0 [.agg (A0 (G k) 4 n),.int .i64 a]:Int)==0)=true→(decide ((A7 [.agg (A0 (G k) 4 n),.int .i64 a]:Int)>wS .u64 m)=true→R (.tup [.nils,.int .i64 3]) [some ⟨1,([.slice true (.ro k) 4 n,.int .i64 a]:List AV)⟩])∧(decide ((A7 [.agg (A0 (G k) 4 n),.int .i64 a]:Int)>wS .u64 m)=false→((C0 [.agg (A0 (G k) 4 n),.int .i64 a]:Int)==0)=true∧(decide ((A7 [.agg (A0 (G k) 4 n),.int .i64 a]:Int)>wS .u64 (wS .i64 ((n:Int) - A3 [.agg (A0 (G k) 4 n),.int .i64 a])))=true→R (.tup [.nils,.int .i64 4]) [some ⟨1,([.slice true (.ro k) 4 n,.int .i64 a]:List AV)⟩])∧(decide ((A7 [.agg (A0 (G k) 4 n),.int .i64 a]:Int)>wS .u64 (wS .i64 ((n:Int) - A3 [.agg (A0 (G k) 4 n),.int .i64 a])))=false→((C0 [.agg (A0 (G k) 4 n),.int .i64 a]:Int)==0)=true∧decide ((0:Int)≤wS .i64 (wS .i64 (A3 [.agg (A0 (G k) 4 n),.int .i64 a]+wS .i64 (A7 [.agg (A0 (G k) 4 n),.int .i64 a])) - wS .i64 (A7 [.agg (A0 (G k) 4 n),.int .i64 a])))=true∧decide ((wS .i64 (wS .i64 (A3 [.agg (A0 (G k) 4 n),.int .i64 a]+wS .i64 (A7 [.agg (A0 (G k) 4 n),.int .i64 a])) - wS .i64 (A7 [.agg (A0 (G k) 4 n),.int .i64 a])):Int)≤wS .i64 (A3 [.agg (A0 (G k) 4 n),.int .i64 a]+wS .i64 (A7 [.agg (A0 (G k) 4 n),.int .i64 a])))=true∧
 decide ((wS .i64 (A3 [.agg (A0 (G k) 4 n),.int .i64 a]+wS .i64 (A7 [.agg (A0 (G k) 4 n),.int .i64 a])):Int)≤(n:Int))=true∧leB (wZ (wS .i64 (wS .i64 (A3 [.agg (A0 (G k) 4 n),.int .i64 a]+wS .i64 (A7 [.agg (A0 (G k) 4 n),.int .i64 a])) - wS .i64 (A7 [.agg (A0 (G k) 4 n),.int .i64 a])))+4+((wZ (wS .i64 (A3 [.agg (A0 (G k) 4 n),.int .i64 a]+wS .i64 (A7 [.agg (A0 (G k) 4 n),.int .i64 a])))) - (wZ (wS .i64 (wS .i64 (A3 [.agg (A0 (G k) 4 n),.int .i64 a]+wS .i64 (A7 [.agg (A0 (G k) 4 n),.int .i64 a])) - wS .i64 (A7 [.agg (A0 (G k) 4 n),.int .i64 a])))))) (List.length (G k))=true∧cellsB (A0 (G k) (wZ (wS .i64 (wS .i64 (A3 [.agg (A0 (G k) 4 n),.int .i64 a]+wS .i64 (A7 [.agg (A0 (G k) 4 n),.int .i64 a])) - wS .i64 (A7 [.agg (A0 (G k) 4 n),.int .i64 a])))+4) ((wZ (wS .i64 (A3 [.agg (A0 (G k) 4 n),.int .i64 a]+wS .i64 (A7 [.agg (A0 (G k) 4 n),.int .i64 a])))) - (wZ (wS .i64 (wS .i64 (A3 [.agg (A0 (G k) 4 n),.int .i64 a]+wS .i64 (A7 [.agg (A0 (G k) 4 n),.int .i64 a])) - wS .i64 (A7 [.agg (A0 (G k) 4 n),.int .i64 a]))))))=true∧
 leB ((wZ (wS .i64 (A3 [.agg (A0 (G k) 4 n),.int .i64 a]+wS .i64 (A7 [.agg (A0 (G k) 4 n),.int .i64 a])))) - (wZ (wS .i64 (wS .i64 (A3 [.agg (A0 (G k) 4 n),.int .i64 a]+wS .i64 (A7 [.agg (A0 (G k) 4 n),.int .i64 a])) - wS .i64 (A7 [.agg (A0 (G k) 4 n),.int .i64 a]))))) 140737488355328=true∧R (.tup [.slice true (.rw 1) 0 ((wZ (wS .i64 (A3 [.agg (A0 (G k) 4 n),.int .i64 a]+wS .i64 (A7 [.agg (A0 (G k) 4 n),.int .i64 a])))) - (wZ (wS .i64 (wS .i64 (A3 [.agg (A0 (G k) 4 n),.int .i64 a]+wS .i64 (A7 [.agg (A0 (G k) 4 n),.int .i64 a])) - wS .i64 (A7 [.agg (A0 (G k) 4 n),.int .i64 a]))))),.int .i64 0]) [some ⟨1,([.slice true (.ro k) 4 n,.int .i64 (wS .i64 (A3 [.agg (A0 (G k) 4 n),.int .i64 a]+wS .i64 (A7 [.agg (A0 (G k) 4 n),.int .i64 a])))]:List AV)⟩,some ⟨1,(A0 (G k) (wZ (wS .i64 (wS .i64 (A3 [.agg (A0 (G k) 4 n),.int .i64 a]+wS .i64 (A7 [.agg (A0 (G k) 4 n),.int .i64 a])) - wS .i64 (A7 [.agg (A0 (G k) 4 n),.int .i64 a])))+4) ((wZ (wS .i64 (A3 [.agg (A0 (G k) 4 n),.int .i64 a]+wS .i64 (A7 [.agg (A0 (G k) 4 n),.int .i64 a])))) - (wZ (wS .i64 (wS .i64 (A3 [.agg (A0 (G k) 4 n),.int .i64 a]+wS .i64 (A7 [.agg (A0 (G k) 4 n),.int .i64 a])) - wS .i64 (A7 [.agg (A0 (G k) 4 n),.int .i64 a]))))))⟩])))∧
 (((C0 [.agg (A0 (G k) 4 n),.int .i64 a]:Int)==0)=false→(!(((C0 [.agg (A0 (G k) 4 n),.int .i64 a]:Int)==0)))=true∧(!(((C0 [.agg (A0 (G k) 4 n),.int .i64 a]:Int)==0)))=true∧R (.tup [.nils,.int .i64 (C0 [.agg (A0 (G k) 4 n),.int .i64 a])]) [some ⟨1,([.slice true (.ro k) 4 n,.int .i64 a]:List AV)⟩])):=by kernel_rfl
theorem aB9 (k n:Nat) (a m:Int) (h:okRdU [.agg (A0 (G k) 4 n),.ptr (.rw 0) n,.int .i64 a]=true) (h40:n≤1099511627776) (hm:0≤m∧m≤9223372036854775807):ACalls (za G B) 76 [.ptr (.rw 0) 0,.int .i64 m] [some ⟨1,[.slice true (.ro k) 4 n,.int .i64 a]⟩]
  fun v' H'=>(M6 (A0 (G k) 4 n) n a m=false∧v'=.tup [.nils,.int .i64 (L7 [.agg (A0 (G k) 4 n),.ptr (.rw 0) n,.int .i64 a,.int .i64 m])]∧H'.take 2=[some ⟨1,[.slice true (.ro k) 4 n,.int .i64 a]⟩])∨
   (M6 (A0 (G k) 4 n) n a m=true∧v'=.tup [.slice true (.rw 1) 0 (I4 [.agg (A0 (G k) 4 n),.ptr (.rw 0) n,.int .i64 a,.int .i64 m]),.int .i64 0]∧H'.take 2=[some ⟨1,[.slice true (.ro k) 4 n,.int .i64 (D5 [.agg (A0 (G k) 4 n),.ptr (.rw 0) n,.int .i64 a,.int .i64 m])]⟩,some ⟨1,J9 [.agg (A0 (G k) 4 n),.ptr (.rw 0) n,.int .i64 a,.int .i64 m]⟩]):=by
 have ok:=E0.1 h;have hp:=ok.pos;have hle:=ok.le;have hlen:=ok.len
 exact C8 (C:=(za G B)) (fn:=Try.f76) (f:=76) (R:=fun v' H'=>(M6 (A0 (G k) 4 n) n a m=false∧v'=.tup [.nils,.int .i64 (L7 [.agg (A0 (G k) 4 n),.ptr (.rw 0) n,.int .i64 a,.int .i64 m])]∧H'=[some ⟨1,[.slice true (.ro k) 4 n,.int .i64 a]⟩])∨
   (M6 (A0 (G k) 4 n) n a m=true∧v'=.tup [.slice true (.rw 1) 0 (I4 [.agg (A0 (G k) 4 n),.ptr (.rw 0) n,.int .i64 a,.int .i64 m]),.int .i64 0]∧H'=[some ⟨1,[.slice true (.ro k) 4 n,.int .i64 (D5 [.agg (A0 (G k) 4 n),.ptr (.rw 0) n,.int .i64 a,.int .i64 m])]⟩,some ⟨1,J9 [.agg (A0 (G k) 4 n),.ptr (.rw 0) n,.int .i64 a,.int .i64 m]⟩]))
  (dgDQ G B) (by kernel_rfl) (by kernel_rfl) (by kernel_rfl) (fuel:=200) (n0:=10) (keep:=2) (args:=[.ptr (.rw 0) (.lit 0),.int .i64 (.var 7 m)]) (H:=[some ⟨1,.of [.slice true (.ro (.var 6 k)) (.lit 4) (.var 4 n),.int .i64 (.var 5 a)]⟩]) (by
  rw [d76];dsimp only;have wm:wS .u64 m=m:=Bj (by omega);rw [wm];refine ⟨h,fun he=>?_,fun he=>?_⟩
  ·have he:=eq_of_beq he;obtain ⟨b1,b2,b3⟩:=Hx (k:=.i64) ok he;refine ⟨fun hv=>?_,fun hv=>⟨by rw [he];rfl,?_⟩⟩
   ·have hv:=zR hv;exact .inl ⟨by simp [M6];omega,by simp only [L7,he,if_true];rw [if_neg (by omega)],rfl⟩
   ·have hv:=sJ hv;have w1:wS .i64 (A7 [.agg (A0 (G k) 4 n),.int .i64 a])=A7 [.agg (A0 (G k) 4 n),.int .i64 a]:=B5 (by omega);have w2:wS .u64 (wS .i64 ((n:Int) - A3 [.agg (A0 (G k) 4 n),.int .i64 a]))=(n:Int) - A3 [.agg (A0 (G k) 4 n),.int .i64 a]:=by rw [B5 (by omega),Bj (by omega)]
    rw [w1,w2];refine ⟨fun hc=>?_,fun hc=>?_⟩
    ·have hc:=zR hc;exact .inl ⟨by simp [M6];omega,by simp only [L7,he,if_true];rw [if_pos (by omega),if_neg (by omega)],rfl⟩
    ·have hc:=sJ hc;have w3:wS .i64 (A3 [.agg (A0 (G k) 4 n),.int .i64 a]+A7 [.agg (A0 (G k) 4 n),.int .i64 a])=A3 [.agg (A0 (G k) 4 n),.int .i64 a]+A7 [.agg (A0 (G k) 4 n),.int .i64 a]:=B5 (by omega);have w4:wS .i64 (A3 [.agg (A0 (G k) 4 n),.int .i64 a]+A7 [.agg (A0 (G k) 4 n),.int .i64 a] - A7 [.agg (A0 (G k) 4 n),.int .i64 a])=A3 [.agg (A0 (G k) 4 n),.int .i64 a]:=by rw [B5 (by omega)];omega
     have w5:(A3 [.agg (A0 (G k) 4 n),.int .i64 a]+A7 [.agg (A0 (G k) 4 n),.int .i64 a]).toNat - (A3 [.agg (A0 (G k) 4 n),.int .i64 a]).toNat=(A7 [.agg (A0 (G k) 4 n),.int .i64 a]).toNat:=by omega
     have hok:M6 (A0 (G k) 4 n) n a m=true:=by simp [M6,he];omega
     have hlk:n+4≤(G k).length:=by
      have:=hlen
      unfold A0 at this;rw [List.length_take,List.length_drop] at this
      have:=rd_pos ok he
      omega
     rw [w3,w4,w5,aG3 (n:=n) (x:=(A3 [.agg (A0 (G k) 4 n),.int .i64 a]).toNat) (v:=(A7 [.agg (A0 (G k) 4 n),.int .i64 a]).toNat) (by omega)];exact ⟨by rw [he];rfl,yI (by omega),yI (by omega),yI (by omega),A8.2 (by omega),F9 (by have:=G9 ok.b;simp only [u8s,qD] at this ⊢;exact fun v hv=>this v (List.mem_of_mem_drop (List.mem_of_mem_take hv))),A8.2 (by omega),.inr ⟨hok,by simp [I4,hok],by simp [D5,J9,hok]⟩⟩
  ·have he:=ne_of_beq_false he;have hb:(C0 [.agg (A0 (G k) 4 n),.int .i64 a]==0)=false:=by simp [he]
   rw [hb]
   exact ⟨rfl,rfl,.inl ⟨by simp [M6,he],by simp [L7,he],rfl⟩⟩)
theorem zT {C:A1} {f:FuncId} {args:List AV} {H0 H1 H2:Hp} {k:Nat} {ok:Bool} {N:Nat} {E:Int} {cs:List AV} {mb:Bool} (h:ACalls C f args H0 fun v' H'=>(ok=false∧v'=.tup [.nils,.int .i64 E]∧∃ r,H'.take k=H1++r)∨(ok=true∧v'=.tup [.slice mb (.rw H2.length) 0 N,.int .i64 0]∧H'.take k=H2++[some ⟨1,cs⟩]))
  (h1:H0.length≤H1.length) (b1:I1 H1.length H1=true) (h2:H0.length≤H2.length+1) (b2:I1 (H2.length+1) (H2++[some ⟨1,cs⟩])=true) (hE:ok=true→E=0) (hN:ok=false→N=0∧cs=[]∧H2=H1) :
  ACalls C f args H0 fun v' H'=>v'=.tup [.slice true (.rw H2.length) 0 N,.int .i64 E]∧H'=H2++[some ⟨1,cs⟩]:=by
 have g1:=h.view (K':=fun v' H'=>(ok=false∧v'=.tup [.nils,.int .i64 E]∧H'=H1)∨(ok=true∧v'=.tup [.slice mb (.rw H2.length) 0 N,.int .i64 0]∧H'=H2++[some ⟨1,cs⟩])) (fun v H' hk=>by
  rcases hk with ⟨g1,rfl,r,g3⟩ | ⟨g1,rfl,g3⟩
  ·refine ⟨_,_,.inl ⟨g1,rfl,rfl⟩,?_⟩;have e:H'=H1++(r++H'.drop k):=by rw [←List.append_assoc,←g3,List.take_append_drop]
   rw [e];exact C5.same h1 b1 ⟨⟨by simp [B0,A6],rfl⟩,trivial⟩
  ·refine ⟨_,_,.inr ⟨g1,rfl,rfl⟩,?_⟩;have e:H'=(H2++[some ⟨1,cs⟩])++H'.drop k:=by rw [←g3,List.take_append_drop]
   rw [e]
   exact C5.same (by simpa using h2) (by simpa using b2) ⟨⟨by simp [B0,A6],rfl⟩,trivial⟩)
 have g2:=g1.nil (K':=fun v' H'=>∃ b,v'=.tup [.slice b (.rw H2.length) 0 N,.int .i64 E]∧H'=H2++[some ⟨1,cs⟩]) 1 (fun v H' hk=>by
  rcases hk with ⟨q1,rfl,q3⟩ | ⟨q1,rfl,q3⟩
  ·obtain ⟨e1,e2,e3⟩:=hN q1;refine .inr ⟨_,⟨true,rfl,by rw [e2,e3,q3]⟩,Jm _,?_⟩;rw [e1,e3,q3];exact ⟨.inr ⟨rfl,rfl⟩,.inl rfl,trivial⟩
  ·exact .inl ⟨mb,by rw [hE q1],q3⟩)
 refine g2.conv fun v H' hk=>?_;obtain ⟨b,rfl,rfl⟩:=hk;refine ⟨_,⟨rfl,rfl⟩,fun ρ cv hv=>?_⟩;simp only [VR] at hv;obtain ⟨vs,e,hs⟩:=hv;simp only [VRs] at hs;obtain ⟨x,ys,e1,e2,e3⟩:=hs;simp only [VR,VRs];exact ⟨vs,e,x,ys,e1,by have:=Dj (ρ:=ρ) (v:=x) (mb:=b) (by simpa only [VR] using e2);simpa only [VR] using this,e3⟩
theorem rb_E {s:List AV} {n:Nat} {a m:Int} (h:M6 s n a m=true):L7 [.agg s,.ptr (.rw 0) n,.int .i64 a,.int .i64 m]=0:=by
 simp only [M6,zO,qC] at h;simp only [L7,h.1,if_true];rw [if_pos h.2.1,if_pos h.2.2]
theorem aP1 (k n:Nat) (a m:Int) (h:okRdU [.agg (A0 (G k) 4 n),.ptr (.rw 0) n,.int .i64 a]=true) (h40:n≤1099511627776) (hm:0≤m∧m≤9223372036854775807):ACalls (za G B) 76 [.ptr (.rw 0) 0,.int .i64 m] [some ⟨1,[.slice true (.ro k) 4 n,.int .i64 a]⟩]
  fun v' H'=>v'=.tup [.slice true (.rw 1) 0 (I4 [.agg (A0 (G k) 4 n),.ptr (.rw 0) n,.int .i64 a,.int .i64 m]),.int .i64 (L7 [.agg (A0 (G k) 4 n),.ptr (.rw 0) n,.int .i64 a,.int .i64 m])]∧H'=[some ⟨1,[.slice true (.ro k) 4 n,.int .i64 (D5 [.agg (A0 (G k) 4 n),.ptr (.rw 0) n,.int .i64 a,.int .i64 m])]⟩]++[some ⟨1,J9 [.agg (A0 (G k) 4 n),.ptr (.rw 0) n,.int .i64 a,.int .i64 m]⟩]:=by
 have hs:=G9 (E0.1 h).b;have hc:∀ j,A6 j (J9 [.agg (A0 (G k) 4 n),.ptr (.rw 0) n,.int .i64 a,.int .i64 m])=true:=fun j=>Rb (fun l r n' k a' k' m' he=>by simp at he;rw [←he.1];exact hs) j
 exact zT (ok:=M6 (A0 (G k) 4 n) n a m) (H1:=[some ⟨1,[.slice true (.ro k) 4 n,.int .i64 a]⟩]) (H2:=[some ⟨1,[.slice true (.ro k) 4 n,.int .i64 (D5 [.agg (A0 (G k) 4 n),.ptr (.rw 0) n,.int .i64 a,.int .i64 m])]⟩]) (k:=2) (mb:=true) ((aB9 G B k n a m h h40 hm).mono fun v H' hk=>hk.imp (fun ⟨q1,q2,q3⟩=>⟨q1,q2,[],by rw [q3,List.append_nil]⟩) id)
  (by simp) (by simp [I1,A6,B0]) (by simp) (by simp [I1,A6,B0,hc]) rb_E (fun h=>by simp [I4,J9,D5,h])
def dbytesR:DSum:=fun xs H=>match xs with
 | [.ptr (.rw i) (.lit 0),.int .i64 m']=>match H[i]? with
  | some (some ⟨1,.of [.slice true (.ro k) (.lit 4) n,.int .i64 a]⟩)=>
   some (.chk (.uf 1120 okRdU [.agg (.sub (.ro k) (.lit 4) n),.ptr (.rw 0) n,.int .i64 a]) (.chk (.leN n (.lit 1099511627776)) (.chk (.cmp .leq (.lit 0) m') (.chk (.cmp .leq m' (.lit 9223372036854775807))
     (.one (.tup [.slice true (.rw H.length) (.lit 0) (.uf 1129 I4 [.agg (.sub (.ro k) (.lit 4) n),.ptr (.rw 0) n,.int .i64 a,.int .i64 m']),.int .i64 (.uf 1128 L7 [.agg (.sub (.ro k) (.lit 4) n),.ptr (.rw 0) n,.int .i64 a,.int .i64 m'])]) [.set i ⟨1,.of [.slice true (.ro k) (.lit 4) n,.int .i64 (.uf 1131 D5 [.agg (.sub (.ro k) (.lit 4) n),.ptr (.rw 0) n,.int .i64 a,.int .i64 m'])]⟩,.new ⟨1,.uf 1130 J9 [.agg (.sub (.ro k) (.lit 4) n),.ptr (.rw 0) n,.int .i64 a,.int .i64 m']⟩])))))
  | _=>none
 | _=>none
theorem bZ :DSumOk (za G B) 76 dbytesR:=by
 intro xs H o ho;simp only [dbytesR] at ho;split at ho
 ·rename_i i m';split at ho
  ·rename_i k n a hi;simp only [zN] at ho;subst ho;intro h1 h2 h3 h4;simp only [vB,vVs,vV,vR,vN,vL,Ov,qC,vI] at h1 h2 h3 h4;have hu:=G9 (E0.1 h1).b;have key:=aP1 G B (vN G k) (vN G n) (vI G a) (vI G m') h1 (A8.1 h2) ⟨zR h3,zR h4⟩;have hc:∀ j,A6 j (J9 [.agg (A0 (G (vN G k)) 4 (vN G n)),.ptr (.rw 0) (vN G n),.int .i64 (vI G a),.int .i64 (vI G m')])=true:=fun j=>Rb (fun l' r n' k a' k' m' he=>by simp at he;rw [←he.1];exact hu) j
   refine E1.fr (θ:=[i]) (by simp) rfl (fun k' b hk=>?_) (by simp [A6,B0]) (by simp [vVs,vV,vR,vN,rens,C2]) key (by simp) (by simp [B0,A6]) (by simp [I1,hc,A6,B0]) (by simp [vV,vVs,vR,vN,vI,vL,C2,rens,J5]) ?_
   ·match k' with
    | 0=>simp at hk;subst hk;exact ⟨_,rfl,by simp [A6,B0],by simpa [I7,C6,vL,vVs,vV,vR,vN,rens,C2] using G4 (G:=G) hi⟩
    | k'+1=>simp at hk
   ·simp only [List.map_cons,List.map_nil,acts,Hop.act,I6,C6,T6,lay,P9,I7,Option.map_some,B4 _ _ (hc 0),List.length_cons,List.length_nil,List.drop_succ_cons,List.drop_zero,vL,vVs,vV,vR,vN,vI,List.cons_append,List.nil_append];simp [rens,C2,J5]
  ·simp at ho
 ·simp at ho
end
theorem d75 (G:Nat→List AV) (k n:Nat) (a:Int) (w:Bool) (Q:Ex→List AV→Hp→Prop) (R:AV→Hp→Prop):vT G Q R (H5 (Dc Try.prog [] docQ [] 2) 300 20 Try.f75 [.ptr (.rw 1) (.lit 0)] [some ⟨1,.of [.slice true (.ro (.var 6 k)) (.lit 4) (.var 4 n),.int .i64 (.var 5 a)]⟩,some ⟨1,.of [.ptr (.rw 0) (.lit 0),.bool (.var 7 w)]⟩] 2)=(
  okRdU [.agg (A0 (G k) 4 n),.ptr (.rw 0) n,.int .i64 a]=true∧(((C0 [.agg (A0 (G k) 4 n),.int .i64 a]:Int)==0)=true→(decide ((A7 [.agg (A0 (G k) 4 n),.int .i64 a]:Int)>99999)=true→R (.int .i64 0) [some ⟨1,([.slice true (.ro k) 4 n,.int .i64 (A3 [.agg (A0 (G k) 4 n),.int .i64 a])]:List AV)⟩,some ⟨1,([.ptr (.rw 0) 0,.bool false]:List AV)⟩])∧(decide ((A7 [.agg (A0 (G k) 4 n),.int .i64 a]:Int)>99999)=false→R (.int .i64 (wS .i64 (A7 [.agg (A0 (G k) 4 n),.int .i64 a]))) [some ⟨1,([.slice true (.ro k) 4 n,.int .i64 (A3 [.agg (A0 (G k) 4 n),.int .i64 a])]:List AV)⟩,some ⟨1,([.ptr (.rw 0) 0,.bool w]:List AV)⟩]))∧(((C0 [.agg (A0 (G k) 4 n),.int .i64 a]:Int)==0)=false→R (.int .i64 0) [some ⟨1,([.slice true (.ro k) 4 n,.int .i64 (A3 [.agg (A0 (G k) 4 n),.int .i64 a])]:List AV)⟩,some ⟨1,([.ptr (.rw 0) 0,.bool false]:List AV)⟩])):=by kernel_rfl
theorem d77 (G:Nat→List AV) (k n:Nat) (a:Int) (Q:Ex→List AV→Hp→Prop) (R:AV→Hp→Prop):vT G Q R (H5 (Dc Try.prog [95] docQ [] 1) 300 20 Try.f77 [.ptr (.rw 0) (.lit 0)] [some ⟨1,.of [.slice true (.ro (.var 6 k)) (.lit 4) (.var 4 n),.int .i64 (.var 5 a)]⟩] 1)=(
  (((wS .i64 ((n:Int) - a):Int)==0)=true→R (.tup [.bool false,.int .i64 4]) [some ⟨1,([.slice true (.ro k) 4 n,.int .i64 a]:List AV)⟩])∧(((wS .i64 ((n:Int) - a):Int)==0)=false→decide ((0:Int)≤a)=true∧decide ((a:Int)<(n:Int))=true∧isI .u8 (G k) (Int.toNat a+4)=true∧(decide ((A2 (G k) (Int.toNat a+4):Int)>1)=true→R (.tup [.bool false,.int .i64 4]) [some ⟨1,([.slice true (.ro k) 4 n,.int .i64 a]:List AV)⟩])∧(decide ((A2 (G k) (Int.toNat a+4):Int)>1)=false→decide ((0:Int)≤wS .i64 (wS .i64 (a+1) - 1))=true∧decide ((wS .i64 (wS .i64 (a+1) - 1):Int)<(n:Int))=true∧isI .u8 (G k) (Int.toNat (wS .i64 (wS .i64 (a+1) - 1))+4)=true∧R (.tup [.bool (((A2 (G k) (Int.toNat (wS .i64 (wS .i64 (a+1) - 1))+4):Int)==1)),.int .i64 0]) [some ⟨1,([.slice true (.ro k) 4 n,.int .i64 (wS .i64 (a+1))]:List AV)⟩]))):=by kernel_rfl
open Go.RowKit
section
variable (G:Nat→List AV) (B:Nat)
def X9 (s:List AV) (a:Int):Bool:=(C0 [.agg s,.int .i64 a]==0)&&decide (A7 [.agg s,.int .i64 a]≤99999)
def L0 (s:List AV) (a:Int):Int:=if X9 s a then A7 [.agg s,.int .i64 a] else 0
def T0 (s:List AV) (a:Int):Int:=A3 [.agg s,.int .i64 a]
def Gr (xs:List AV):Bool:=match xs with
 | [.agg s,.int _ a]=>X9 s a
 | _=>false
def L2 (xs:List AV):Int:=match xs with
 | [.agg s,.int _ a]=>L0 s a
 | _=>0
theorem mS {s:List AV} {n:Nat} {a:Int} (h:D8 s n a):0≤L0 s a∧L0 s a≤99999:=by
 unfold L0;split
 ·rename_i hk;simp only [X9,zO,qC] at hk;exact ⟨(Hx h (eq_of_beq hk.1)).1,hk.2⟩
 ·omega
theorem Da {s:List AV} {n:Nat} {a:Int} (h:D8 s n a):D8 s n (T0 s a):=by
 unfold T0;obtain ⟨g1,g2⟩:=dH (l:=s) (k:=.i64) (a:=a);cases e:Aw [.agg s,.int .i64 a] with
 | true=>
  have h0:=g1 e;obtain ⟨_,b2,b3⟩:=Hx h h0
  have:=h.pos
  exact ⟨h.b,h.len,h.big,by omega,by omega⟩
 | false=>rw [(g2 e).2.2];exact h
theorem num75 (k n:Nat) (a:Int) (w:Bool) (h:D8 (A0 (G k) 4 n) n a):ACalls (za G B) 75 [.ptr (.rw 1) 0] [some ⟨1,[.slice true (.ro k) 4 n,.int .i64 a]⟩,some ⟨1,[.ptr (.rw 0) 0,.bool w]⟩]
  fun v H=>v=.int .i64 (L0 (A0 (G k) 4 n) a)∧H=[some ⟨1,[.slice true (.ro k) 4 n,.int .i64 (T0 (A0 (G k) 4 n) a)]⟩,some ⟨1,[.ptr (.rw 0) 0,.bool (w&&X9 (A0 (G k) 4 n) a)]⟩]:=by
 have key:=C8 (C:=(za G B)) (fn:=Try.f75) (f:=75) (R:=fun v H=>v=.int .i64 (L0 (A0 (G k) 4 n) a)∧H=[some ⟨1,[.slice true (.ro k) 4 n,.int .i64 (T0 (A0 (G k) 4 n) a)]⟩,some ⟨1,[.ptr (.rw 0) 0,.bool (w&&X9 (A0 (G k) 4 n) a)]⟩]) (K:=Dc Try.prog [] docQ [] 2)
  (by rw [show loopsOf (C3 Try.f75)=[] by kernel_rfl];exact C7 (mix G B) (by kernel_rfl) (fO G B) .nil) (by kernel_rfl) (by kernel_rfl) (by kernel_rfl) (fuel:=300) (n0:=20) (keep:=2) (args:=[.ptr (.rw 1) (.lit 0)]) (H:=[some ⟨1,.of [.slice true (.ro (.var 6 k)) (.lit 4) (.var 4 n),.int .i64 (.var 5 a)]⟩,some ⟨1,.of [.ptr (.rw 0) (.lit 0),.bool (.var 7 w)]⟩]) (by
  rw [d75];refine ⟨E0.2 h,fun e=>⟨fun c=>?_,fun c=>?_⟩,fun e=>?_⟩
  ·have c:A7 [.agg (A0 (G k) 4 n),.int .i64 a]>99999:=zR c
   have:X9 (A0 (G k) 4 n) a=false:=by unfold X9;rw [sL (by omega),Bool.and_false]
   unfold L0 T0;rw [this,Bool.and_false];exact ⟨rfl,rfl⟩
  ·have c:¬A7 [.agg (A0 (G k) 4 n),.int .i64 a]>99999:=sJ c;have hk:X9 (A0 (G k) 4 n) a=true:=by unfold X9;rw [e,yI (by omega)];rfl
   have:=(Hx h (eq_of_beq e)).1
   unfold L0 T0;rw [hk,Bool.and_true,B5 (n:=A7 [.agg (A0 (G k) 4 n),.int .i64 a]) (by omega)];exact ⟨rfl,rfl⟩
  ·have:X9 (A0 (G k) 4 n) a=false:=by unfold X9;rw [e,Bool.false_and]
   unfold L0 T0
   rw [this,Bool.and_false];exact ⟨rfl,rfl⟩)
 exact ACalls.keep key (by simp) (by simp [I1,A6,B0]) rfl (by simp)
theorem flag77 (k n:Nat) (a:Int) (h:D8 (A0 (G k) 4 n) n a):ACalls (za G B) 77 [.ptr (.rw 0) 0] [some ⟨1,[.slice true (.ro k) 4 n,.int .i64 a]⟩]
    fun v H=>v=.tup [.bool (R5 [.agg (A0 (G k) 4 n),.int .i64 a]),.int .i64 (W9 [.agg (A0 (G k) 4 n),.int .i64 a])]∧H.take 1=[some ⟨1,[.slice true (.ro k) 4 n,.int .i64 (V3 [.agg (A0 (G k) 4 n),.int .i64 a])]⟩]:=by
  have hp:=h.pos;have hl:=h.len;have hle:=h.le;have hbig:=h.big
  exact C8 (C:=(za G B)) (fn:=Try.f77) (f:=77) (R:=fun v H=>v=.tup [.bool (R5 [.agg (A0 (G k) 4 n),.int .i64 a]),.int .i64 (W9 [.agg (A0 (G k) 4 n),.int .i64 a])]∧H=[some ⟨1,[.slice true (.ro k) 4 n,.int .i64 (V3 [.agg (A0 (G k) 4 n),.int .i64 a])]⟩]) (K:=Dc Try.prog [95] docQ [] 1)
    (by rw [show loopsOf (C3     Try.f77) = [] by kernel_rfl]; exact C7    (mix G B) (by kernel_rfl) (fO      G B) .nil) (by kernel_rfl) (by kernel_rfl) (by kernel_rfl) (fuel := 300) (n0 := 20) (keep := 1) (args := [.ptr (.rw 0) (.lit 0)]) (H := [some ⟨1, .of [.slice true (.ro (.var 6 k)) (.lit 4) (.var 4 n), .int .i64 (.var 5 a)]⟩]) (by
    rw [d77,B5 (n:=(n:Int) - a) (by omega),B5 (n:=a+1) (by omega),B5 (n:=a+1 - 1) (by omega),show a+1 - 1=a by omega];simp only [R5,W9,V3];refine ⟨fun e=>?_,fun e=>?_⟩
    · have e:=eq_of_beq e
      have:Aj (A0 (G k) 4 n) a.toNat=false:=by unfold Aj;rw [sL (by omega),Bool.false_and]
      rw [this];exact ⟨rfl,rfl⟩
    · have e:=ne_of_beq_false e;have lt:a.toNat<((A0 (G k) 4 n)).length:=by omega
      obtain ⟨s1,s2⟩:=qM lt;rw [s1,s2];have i1:=(Xq h.b lt).1;refine ⟨yI (by omega),yI (by omega),i1,fun c=>?_,fun c=>⟨yI (by omega),yI (by omega),i1,?_⟩⟩
      · have c:=zR c
        have:Aj (A0 (G k) 4 n) a.toNat=false:=by unfold Aj;rw [sL (p:=A2 (A0 (G k) 4 n) a.toNat≤1) (by omega),Bool.and_false]
        rw [this];exact ⟨rfl,rfl⟩
      · have c:=sJ c
        have:Aj (A0 (G k) 4 n) a.toNat=true:=by unfold Aj;rw [yI lt,yI (by omega)];rfl
        rw [this];exact ⟨rfl,rfl⟩)
def dnumS:DSum:=fun xs H=>match xs with
 | [.ptr (.rw j) (.lit 0)]=>match H[j]? with
  | some (some ⟨1,.of [.ptr (.rw i) (.lit 0),.bool w]⟩)=>match H[i]? with
   | some (some ⟨1,.of [.slice true (.ro k) (.lit 4) n,.int .i64 a]⟩)=>match Nat.beq i j with
    | true=>none
    | false=>some (.chk (.uf 1120 okRdU [.agg (.sub (.ro k) (.lit 4) n),.ptr (.rw 0) n,.int .i64 a]) (.one (.int .i64 (.uf 2551 L2 [.agg (.sub (.ro k) (.lit 4) n),.int .i64 a])) [.set i ⟨1,.of [.slice true (.ro k) (.lit 4) n,.int .i64 (.uf 1124 A3 [.agg (.sub (.ro k) (.lit 4) n),.int .i64 a])]⟩,.set j ⟨1,.of [.ptr (.rw i) (.lit 0),.bool (.and w (.uf 2552 Gr [.agg (.sub (.ro k) (.lit 4) n),.int .i64 a]))]⟩]))
   | _=>none
  | _=>none
 | _=>none
theorem oJ :DSumOk (za G B) 75 dnumS:=by
 intro xs H o ho;simp only [dnumS] at ho;split at ho
 ·rename_i j;split at ho
  ·rename_i i w hj;split at ho
   ·rename_i k n a hi;split at ho
    ·simp at ho
    ·rename_i hij;have hij:=Nat.ne_of_beq_eq_false hij;simp only [zN] at ho;subst ho;intro h1;simp only [vB,vVs,vV,vR,vN,vL] at h1;have key:=num75 G B (vN G k) (vN G n) (vI G a) (vB G w) (E0.1 h1);refine E1.fr (θ:=[i,j]) (by simp [hij]) rfl (fun k' b hk=>?_) (by simp [A6,B0]) (by simp [vVs,vV,vR,vN,rens,C2]) key (by simp) (by simp [B0]) (by simp [I1,A6,B0]) (by simp [vV,vI,vVs,vL,vN,C2,L2]) ?_
     ·match k' with
      | 0=>simp at hk;subst hk;exact ⟨_,rfl,by simp [A6,B0],by simpa [I7,C6,vL,vVs,vV,vR,vN,rens,C2] using G4 (G:=G) hi⟩
      | 1=>simp at hk;subst hk;exact ⟨_,rfl,by simp [A6,B0],by simpa [I7,C6,vL,vVs,vV,vR,vN,rens,C2] using G4 (G:=G) hj⟩
      | k'+2=>simp at hk
     ·simp only [List.map_cons,List.map_nil,acts,Hop.act,I6,C6,T6,lay,P9,I7,Option.map_some,List.length_cons,List.length_nil,List.drop_succ_cons,List.drop_nil,List.append_nil,vL,vVs,vV,vR,vN,vI,vB];simp [rens,C2,J5,Gr,T0]
   ·simp at ho
  ·simp at ho
 ·simp at ho
def dflagS:DSum:=fun xs H=>match xs with
 | [.ptr (.rw i) (.lit 0)]=>match H[i]? with
  | some (some ⟨1,.of [.slice true (.ro k) (.lit 4) n,.int .i64 a]⟩)=>
   some (.chk (.uf 1120 okRdU [.agg (.sub (.ro k) (.lit 4) n),.ptr (.rw 0) n,.int .i64 a]) (.one (.tup [.bool (.uf 1125 R5 [.agg (.sub (.ro k) (.lit 4) n),.int .i64 a]),.int .i64 (.uf 1126 W9 [.agg (.sub (.ro k) (.lit 4) n),.int .i64 a])]) [.set i ⟨1,.of [.slice true (.ro k) (.lit 4) n,.int .i64 (.uf 1127 V3 [.agg (.sub (.ro k) (.lit 4) n),.int .i64 a])]⟩]))
  | _=>none
 | _=>none
theorem iQ :DSumOk (za G B) 77 dflagS:=by
 intro xs H o ho;simp only [dflagS] at ho;split at ho
 ·rename_i i;split at ho
  ·rename_i k n a hi;simp only [zN] at ho;subst ho;intro h1;simp only [vB,vVs,vV,vR,vN,vL] at h1;refine E1.set1 (C:=(za G B)) (rest:=[]) hi ?_ (by simp [vL,vVs,vV,vR,vN,A6,B0]) (by simp [vL,vVs,vV,vR,vN,A6,B0]) rfl (by simp [vV,vVs,B0,A6]) (by simp [vV]);simp only [vVs,vV,vB,vI,vL,vR,vN];exact flag77 G B (vN G k) (vN G n) (vI G a) (E0.1 h1)
  ·simp at ho
 ·simp at ho
def progD:List (Nat×DSum):=[(94,dreadS),(75,dnumS),(76,dbytesR),(77,dflagS)]
theorem Re :P8 (za G B) progD:=.cons (Vg G B) (.cons (oJ G B) (.cons (bZ G B) (.cons (iQ G B) .nil)))
end
end Go.Am
