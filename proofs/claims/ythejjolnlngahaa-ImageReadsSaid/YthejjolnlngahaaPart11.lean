/-
  Images: which may be: the other loops' laws, and both functions. Images: which are the same: the trees.
-/
import Derived.Test.YthejjolnlngahaaPart10
import Derived.Test.YthejjolnlngahaaBase5
namespace Go.Am
open Go.Proofs
open Try renaming prog → zM
set_option maxRecDepth 100000
section
variable (G:Nat→List AV) (B:Nat)
theorem maL_ok (ks n kp m:Nat) (s:Int):F5 (⟨zM,G,B⟩:A1) 1 (A5 Try.f21 0) (D4 1716 (maQ G ks n kp m s) 0 130 [1,2,3,4] (maO ks n kp m s)):=by
 refine Gf rfl fun hc=>?_;obtain ⟨hk,hn⟩:=R3.1 hc;refine W8 (L9 (fun j=>!Ac (G ks) j) n) (fun i=>[.ptr (.rw 0) 0,.bool false,.bool (Bp (G ks) s i),.int .i64 (i:Int)]) (fun _=>[some ⟨1,[.int .i64 s,.slice true (.ro ks) 0 n,.slice true (.ro kp) 0 m]⟩]) fun i hi=>?_;have hle:L9 (fun j=>!Ac (G ks) j) n≤n:=K2.1
 refine D3 (C:=(⟨zM,G,B⟩:A1)) (by rw [show loopsOf (A5 Try.f21 0)=[] by kernel_rfl];exact C7 (inl:=[]) (ls:=[]) (M:=1) (Bc G B) (by kernel_rfl) (Jl G B) .nil) (fuel:=300) (n0:=20) (m:=1) (c:=A5 Try.f21 0) (vs:=[.ptr (.rw 0) (.lit 0),.bool (.lit false),.bool (.var 9 (Bp (G ks) s i)),.int .i64 (.ofN (.var 8 i))]) (H:=[some ⟨1,.of [.int .i64 (.var 1 s),.slice true (.ro (.var 2 ks)) (.lit 0) (.var 3 n),.slice true (.ro (.var 4 kp)) (.lit 0) (.var 5 m)]⟩]) (by simp) ?_;rw [ma_b]
 have fb:I1 1 [some ⟨1,[.int .i64 s,.slice true (.ro ks) 0 n,.slice true (.ro kp) 0 m]⟩]=true:=by simp [I1,A6,B0]
 have hb:=bL hi;refine ⟨fun h1=>?_,fun h1=>?_⟩
 ·have h1':=zR h1;have hin:i<n:=by omega
  rw [B5 (n:=(i:Int)+1) (by omega),qT,dE]
  have nof:Ac (G ks) i=false→Dm [.agg (G ks),.int .i64 (n:Int)]=false:=fun h=>by
   rw [Et,Z9 hin h]
  refine ⟨yI (by omega),h1,S9 hk hin,fun h2=>?_,fun h2=>?_⟩
  ·have h2':Qu (G ks) i=true:=h2;have h2s:=Q6.1 h2';have e:=rszE h2';unfold sA sN sZ at e;rw [e];refine ⟨fun h3=>?_,fun h3=>?_⟩
   ·have h3:(i:Int)>0:=zR h3;obtain ⟨k,rfl⟩:∃ k,i=k+1:=⟨i - 1,by omega⟩;rw [B5 (n:=((k+1:Nat):Int) - 1) (by omega),show ((k+1:Nat):Int) - 1=(k:Int) by omega,M5,upU_eq];have hbk:=hb k (by omega);unfold Ac at hbk;rw [zO] at hbk;have hu:=up_val hbk.1;have hks:=Q6.1 hbk.1;simp only [sA,sR,sN,sZ] at hu hks;rw [hu];refine ⟨yI (by omega),yI (by omega),S9 hk (by omega),fun h4=>?_,fun h4=>?_⟩
    ·refine .inr ⟨nof ?_,rfl,.inr (C5.same (H:=[some ⟨1,[.int .i64 s,.slice true (.ro ks) 0 n,.slice true (.ro kp) 0 m]⟩]) (by simp) fb (by simp [fv,B0,vVs,vV,vB]))⟩;have h4:A2 (G ks) ((k+1)*4)<(A2 (G ks) (k*4)+(D1 (G ks) (k*4+2):Int)+A2 (G ks) (k*4+3)+255) / 256*256:=zR h4;unfold Ac;rw [h2',sL];rfl;unfold sA sN sZ at h2s;show ¬A2 (G ks) (k*4)+(D1 (G ks) (k*4+2):Int)+A2 (G ks) (k*4+3)≤A2 (G ks) ((k+1)*4);omega
    ·have h4:¬A2 (G ks) ((k+1)*4)<(A2 (G ks) (k*4)+(D1 (G ks) (k*4+2):Int)+A2 (G ks) (k*4+3)+255) / 256*256:=sJ h4
     have lt:=Jp hi hin (by
      unfold Ac;rw [h2',yI];rfl;show A2 (G ks) (k*4)+(D1 (G ks) (k*4+2):Int)+A2 (G ks) (k*4+3)≤A2 (G ks) ((k+1)*4)
      omega)
     refine ⟨fun w1=>?_,fun w1=>⟨fun g1=>?_,fun g1=>⟨fun g2=>?_,fun g2=>?_⟩⟩⟩
     ·exact ⟨lt,.inr (C5.same (H:=[some ⟨1,[.int .i64 s,.slice true (.ro ks) 0 n,.slice true (.ro kp) 0 m]⟩]) (by simp) fb (by simp [fv,B0,A6,vU w1]))⟩
     ·exact ⟨lt,.inr (C5.same (H:=[some ⟨1,[.int .i64 s,.slice true (.ro ks) 0 n,.slice true (.ro kp) 0 m]⟩]) (by simp) fb (by simp [fv,B0,A6,vQ w1 g1]))⟩
     ·exact ⟨lt,.inr (C5.same (H:=[some ⟨1,[.int .i64 s,.slice true (.ro ks) 0 n,.slice true (.ro kp) 0 m]⟩]) (by simp) fb (by simp [fv,B0,A6,vP w1 g1 g2]))⟩
     ·exact ⟨lt,.inr (C5.same (H:=[some ⟨1,[.int .i64 s,.slice true (.ro ks) 0 n,.slice true (.ro kp) 0 m]⟩]) (by simp) fb (by simp [fv,B0,A6,vO w1 g1 g2]))⟩
   ·have h3:¬(i:Int)>0:=sJ h3;obtain rfl:i=0:=by omega
    have lt:=Jp hi hin (by
     unfold Ac;rw [h2',yI];rfl;unfold sA at h2s;show (0:Int)≤sA (G ks) 0
     unfold sA;omega)
    refine ⟨fun w1=>?_,fun w1=>⟨fun g1=>?_,fun g1=>⟨fun g2=>?_,fun g2=>?_⟩⟩⟩
    ·exact ⟨lt,.inr (C5.same (H:=[some ⟨1,[.int .i64 s,.slice true (.ro ks) 0 n,.slice true (.ro kp) 0 m]⟩]) (by simp) fb (by simp [fv,B0,A6,vU w1]))⟩
    ·exact ⟨lt,.inr (C5.same (H:=[some ⟨1,[.int .i64 s,.slice true (.ro ks) 0 n,.slice true (.ro kp) 0 m]⟩]) (by simp) fb (by simp [fv,B0,A6,vQ w1 g1]))⟩
    ·exact ⟨lt,.inr (C5.same (H:=[some ⟨1,[.int .i64 s,.slice true (.ro ks) 0 n,.slice true (.ro kp) 0 m]⟩]) (by simp) fb (by simp [fv,B0,A6,vP w1 g1 g2]))⟩
    ·exact ⟨lt,.inr (C5.same (H:=[some ⟨1,[.int .i64 s,.slice true (.ro ks) 0 n,.slice true (.ro kp) 0 m]⟩]) (by simp) fb (by simp [fv,B0,A6,vO w1 g1 g2]))⟩
  ·refine .inr ⟨nof ?_,rfl,.inr (C5.same (H:=[some ⟨1,[.int .i64 s,.slice true (.ro ks) 0 n,.slice true (.ro kp) 0 m]⟩]) (by simp) fb (by simp [fv,B0,vVs,vV,vB]))⟩;have h2':Qu (G ks) i=false:=h2;unfold Ac;rw [h2'];rfl
 ·have h1':=sJ h1;have e:i=n:=by omega
  refine .inl ⟨?_,rfl,.inl ⟨?_,rfl⟩⟩
  ·show Dm [.agg (G ks),.int .i64 (n:Int)]=true;rw [Et];exact Lk hi (by omega)
  ·show wk [.ptr (.rw 0) 0,.bool false,.bool (Ej [.agg (G ks),.int .i64 (n:Int),.int .i64 s]),.undef] _;rw [bS,←e];simp [wk]
theorem Oa {cs ps:List AV} {n m:Nat}:kJ cs n ps m=true↔(P2 cs n=true∧n≤1000000)∧(Y7 ps m=true∧m≤1000000)∧J7 (Ac cs) n=true:=by
 unfold kJ;rw [zO,zO,R3,Hy]
theorem cdL_ok (ks n kp m:Nat) (s:Int):F5 (⟨zM,G,B⟩:A1) 1 (A5 Try.f20 1) (D4 1715 (cdQ G ks n kp m s) 2 98 [1,2,3,4,73,74,75] (cdO ks n kp m s)):=by
 refine Gf rfl fun hc=>?_;obtain ⟨hk,⟨hp,hm⟩,hs⟩:=Oa.1 hc;have hk':=R3.2 hk;refine W8 (L9 (fun j=>!Cz (G ks) n (G kp) j) m) (fun i=>[.ptr (.rw 0) 0,.int .i64 0,.bool (Ej [.agg (G ks),.int .i64 (n:Int),.int .i64 s]),.int .i64 (So (G kp) i),.slice true (.ro kp) 0 m,.int .i64 (m:Int),.int .i64 (i:Int)]) (fun _=>[some ⟨1,[.int .i64 s,.slice true (.ro ks) 0 n,.slice true (.ro kp) 0 m]⟩]) fun i hi=>?_;have hle:L9 (fun j=>!Cz (G ks) n (G kp) j) m≤m:=K2.1
 refine D3 (C:=(⟨zM,G,B⟩:A1)) (by rw [show loopsOf (A5 Try.f20 1)=[] by kernel_rfl];exact C7 (inl:=[]) (ls:=[]) (M:=1) (Bc G B) (by kernel_rfl) (Nm G B) .nil) (fuel:=300) (n0:=20) (m:=1) (c:=A5 Try.f20 1) (vs:=[.ptr (.rw 0) (.lit 0),.int .i64 (.lit 0),.bool (.var 9 (Ej [.agg (G ks),.int .i64 (n:Int),.int .i64 s])),.int .i64 (.var 10 (So (G kp) i)),.slice true (.ro (.var 4 kp)) (.lit 0) (.var 5 m),.int .i64 (.ofN (.var 5 m)),.int .i64 (.ofN (.var 8 i))]) (H:=[some ⟨1,.of [.int .i64 (.var 1 s),.slice true (.ro (.var 2 ks)) (.lit 0) (.var 3 n),.slice true (.ro (.var 4 kp)) (.lit 0) (.var 5 m)]⟩]) (by simp) ?_
 rw [ck_d];have fb:I1 1 [some ⟨1,[.int .i64 s,.slice true (.ro ks) 0 n,.slice true (.ro kp) 0 m]⟩]=true:=by simp [I1,A6,B0]
 have pv:=uL hs hp (by omega) (bL hi);refine ⟨fun h1=>?_,fun h1=>?_⟩
 ·have h1':=zR h1;have hin:i<m:=by omega
  have hx:=(S1 hp hin).2.2;rw [B5 (n:=(i:Int)+1) (by omega),Im]
  have nof:Cz (G ks) n (G kp) i=false→Ke [.agg (G ks),.int .i64 (n:Int),.agg (G kp),.int .i64 (m:Int)]=false:=fun h=>by
   rw [Ld,Z9 hin h]
  refine ⟨yI (by omega),h1,(S1 hp hin).1,fun h2=>?_,fun h2=>⟨hk',fun h3=>?_,fun h3=>?_⟩⟩
  ·refine .inr ⟨nof ?_,rfl,.inr (C5.same (H:=[some ⟨1,[.int .i64 s,.slice true (.ro ks) 0 n,.slice true (.ro kp) 0 m]⟩]) (by simp) fb (by simp [fv,B0,vVs,vV,vI]))⟩;have h2:A2 (G kp) (i*2)<So (G kp) i:=zR h2;unfold Cz;rw [sL (by unfold xP;omega)];rfl
  ·have h2:¬A2 (G kp) (i*2)<So (G kp) i:=sJ h2;have h3:((Z6 (G ks) n (xP (G kp) i) (hP (G kp) i):Nat):Int)<(n:Int):=zR h3;have lt:=Jp hi hin (by unfold Cz;rw [yI (by unfold xP;omega),yI (by omega)];rfl);have hx2:=oL (h:=hP (G kp) i) hs (x:=xP (G kp) i) (by unfold xP at hx ⊢;omega) (by omega);have hw:2≤Ar (hP (G kp) i)∧Ar (hP (G kp) i)≤4:=by unfold Ar;split<;>omega
   have e:IntKind.wrap .i64 (A2 (G kp) (i*2)+Sz [.bool (G8 (G kp) (i*2+1))])=So (G kp) (i+1):=by
    show IntKind.wrap .i64 (xP (G kp) i+Ar (hP (G kp) i))=xP (G kp) i+Ar (hP (G kp) i);exact B5 (by unfold xP at *;omega)
   rw [e];exact ⟨lt,.inr (C5.same (H:=[some ⟨1,[.int .i64 s,.slice true (.ro ks) 0 n,.slice true (.ro kp) 0 m]⟩]) (by simp) fb (by simp [fv,B0,A6]))⟩
  ·refine .inr ⟨nof ?_,rfl,.inr (C5.same (H:=[some ⟨1,[.int .i64 s,.slice true (.ro ks) 0 n,.slice true (.ro kp) 0 m]⟩]) (by simp) fb (by simp [fv,B0,vVs,vV,vI]))⟩;have h3:¬((Z6 (G ks) n (xP (G kp) i) (hP (G kp) i):Nat):Int)<(n:Int):=sJ h3;unfold Cz;rw [sL (p:=Z6 (G ks) n (xP (G kp) i) (hP (G kp) i)<n) (by omega),Bool.and_false]
 ·have h1':=sJ h1;refine .inl ⟨?_,rfl,.inl ⟨?_,rfl⟩⟩
  ·show Ke [.agg (G ks),.int .i64 (n:Int),.agg (G kp),.int .i64 (m:Int)]=true;rw [Ld];exact Lk hi (by omega)
  ·show wk [.ptr (.rw 0) 0,.int .i64 0,.bool (Ej [.agg (G ks),.int .i64 (n:Int),.int .i64 s]),.undef,.undef,.undef,.undef] _;simp [wk]
theorem mdL_ok (ks n kp m:Nat) (s:Int):F5 (⟨zM,G,B⟩:A1) 1 (A5 Try.f21 1) (D4 1717 (mdQ G ks n kp m s) 2 130 [1,2,3,6] (mdO ks n kp m s)):=by
 refine Gf rfl fun hc=>?_;obtain ⟨hk,⟨hp,hm⟩,hs⟩:=Oa.1 hc;have hk':=R3.2 hk;refine W8 (L9 (fun j=>!Cz (G ks) n (G kp) j) m) (fun i=>[.ptr (.rw 0) 0,.bool false,.bool (Ej [.agg (G ks),.int .i64 (n:Int),.int .i64 s]),.int .i64 (i:Int)]) (fun _=>[some ⟨1,[.int .i64 s,.slice true (.ro ks) 0 n,.slice true (.ro kp) 0 m]⟩]) fun i hi=>?_;have hle:L9 (fun j=>!Cz (G ks) n (G kp) j) m≤m:=K2.1
 refine D3 (C:=(⟨zM,G,B⟩:A1)) (by rw [show loopsOf (A5 Try.f21 1)=[] by kernel_rfl];exact C7 (inl:=[]) (ls:=[]) (M:=1) (Bc G B) (by kernel_rfl) (Nm G B) .nil) (fuel:=300) (n0:=20) (m:=1) (c:=A5 Try.f21 1) (vs:=[.ptr (.rw 0) (.lit 0),.bool (.lit false),.bool (.var 9 (Ej [.agg (G ks),.int .i64 (n:Int),.int .i64 s])),.int .i64 (.ofN (.var 8 i))]) (H:=[some ⟨1,.of [.int .i64 (.var 1 s),.slice true (.ro (.var 2 ks)) (.lit 0) (.var 3 n),.slice true (.ro (.var 4 kp)) (.lit 0) (.var 5 m)]⟩]) (by simp) ?_;rw [ma_d]
 have fb:I1 1 [some ⟨1,[.int .i64 s,.slice true (.ro ks) 0 n,.slice true (.ro kp) 0 m]⟩]=true:=by simp [I1,A6,B0]
 have pv:=uL hs hp (by omega) (bL hi);refine ⟨fun h1=>?_,fun h1=>?_⟩
 ·have h1':=zR h1;have hin:i<m:=by omega
  have hx:=(S1 hp hin).2.2;rw [B5 (n:=(i:Int)+1) (by omega),Pw]
  have nof:Cz (G ks) n (G kp) i=false→Ke [.agg (G ks),.int .i64 (n:Int),.agg (G kp),.int .i64 (m:Int)]=false:=fun h=>by
   rw [Ld,Z9 hin h]
  refine ⟨yI (by omega),h1,(S1 hp hin).1,fun h2=>?_,fun h2=>⟨hk',fun h3=>?_,fun h3=>?_⟩⟩
  ·refine .inr ⟨nof ?_,rfl,.inr (C5.same (H:=[some ⟨1,[.int .i64 s,.slice true (.ro ks) 0 n,.slice true (.ro kp) 0 m]⟩]) (by simp) fb (by simp [fv,B0,vVs,vV,vB]))⟩;have h2:A2 (G kp) (i*2)<0:=zR h2;unfold Cz;rw [sL (by unfold xP;omega)];rfl
  ·have h2:¬xP (G kp) i<0:=sJ h2;have h3:Uj (G ks) n (xP (G kp) i) (hP (G kp) i)<0:=zR h3;refine .inr ⟨nof ?_,rfl,.inr (C5.same (H:=[some ⟨1,[.int .i64 s,.slice true (.ro ks) 0 n,.slice true (.ro kp) 0 m]⟩]) (by simp) fb (by simp [fv,B0,vVs,vV,vB]))⟩;unfold Cz;rw [oM hs (by omega),sL (p:=inN (G ks) n (xP (G kp) i) (hP (G kp) i)<n) (by unfold Uj at h3;split at h3<;>omega),Bool.and_false]
  ·have h2:¬xP (G kp) i<0:=sJ h2;have h3:¬Uj (G ks) n (xP (G kp) i) (hP (G kp) i)<0:=sJ h3
   have hd:Z6 (G ks) n (xP (G kp) i) (hP (G kp) i)<n:=by
    rw [oM hs (by omega)];unfold Uj at h3;split at h3<;>omega
   refine ⟨fun h4=>?_,fun h4=>?_⟩
   ·have h4:(i:Int)>0:=zR h4;obtain ⟨k,rfl⟩:∃ k,i=k+1:=⟨i - 1,by omega⟩;rw [B5 (n:=((k+1:Nat):Int) - 1) (by omega),show ((k+1:Nat):Int) - 1=(k:Int) by omega,M5]
    have e:IntKind.wrap .i64 (A2 (G kp) (k*2)+Sz [.bool (G8 (G kp) (k*2+1))])=So (G kp) (k+1):=B5 (by
     have:So (G kp) (k+1)=A2 (G kp) (k*2)+Sz [.bool (G8 (G kp) (k*2+1))]:=rfl
     omega)
    rw [e];refine ⟨yI (by omega),yI (by omega),(S1 hp (by omega)).2.1,yI (by omega),yI (by omega),(S1 hp (by omega)).1,fun h5=>?_,fun h5=>?_⟩
    ·refine .inr ⟨nof ?_,rfl,.inr (C5.same (H:=[some ⟨1,[.int .i64 s,.slice true (.ro ks) 0 n,.slice true (.ro kp) 0 m]⟩]) (by simp) fb (by simp [fv,B0,vVs,vV,vB]))⟩;have h5:So (G kp) (k+1)>xP (G kp) (k+1):=zR h5;unfold Cz;rw [sL (by omega)];rfl
    ·have h5:¬So (G kp) (k+1)>xP (G kp) (k+1):=sJ h5;have lt:=Jp hi hin (by unfold Cz;rw [yI (by omega),yI hd];rfl);exact ⟨lt,.inr (C5.same (H:=[some ⟨1,[.int .i64 s,.slice true (.ro ks) 0 n,.slice true (.ro kp) 0 m]⟩]) (by simp) fb (by simp [fv,B0,A6]))⟩
   ·have h4:¬(i:Int)>0:=sJ h4;obtain rfl:i=0:=by omega
    have lt:=Jp hi hin (by unfold Cz;rw [yI (by show (0:Int)≤_;omega),yI hd];rfl);exact ⟨lt,.inr (C5.same (H:=[some ⟨1,[.int .i64 s,.slice true (.ro ks) 0 n,.slice true (.ro kp) 0 m]⟩]) (by simp) fb (by simp [fv,B0,A6]))⟩
 ·have h1':=sJ h1;refine .inl ⟨?_,rfl,.inl ⟨?_,rfl⟩⟩
  ·show Ke [.agg (G ks),.int .i64 (n:Int),.agg (G kp),.int .i64 (m:Int)]=true;rw [Ld];exact Lk hi (by omega)
  ·show wk [.ptr (.rw 0) 0,.bool false,.bool (Ej [.agg (G ks),.int .i64 (n:Int),.int .i64 s]),.undef] _;simp [wk]
def K1 (s:Int) (cs:List AV) (n:Nat) (ps:List AV) (m:Nat):Bool:=(decide (n≤8)&&decide (m≤512))&&((decide (0≤s)&&decide (s % 4=0))&&(J7 (Ac cs) n&&(J7 (Cz cs n ps) m&&Bp cs s n)))
def Fc (s:Int) (cs:List AV) (n:Nat) (ps:List AV) (m:Nat):Int:=if K1 s cs n ps m then 0 else 2
theorem jQ {a:Int} (h:0≤a):((Int.tmod a 4:Int)==0)=decide (a % 4=0):=by
 rw [Int.tmod_eq_emod_of_nonneg h,Bool.eq_iff_iff,beq_iff_eq,decide_eq_true_iff]
theorem cD (ks n kp m:Nat) (s:Int) (hk:U9 [.agg (G ks),.int .i64 (n:Int)]=true) (hp:Ol [.agg (G kp),.int .i64 (m:Int)]=true):ACalls (⟨zM,G,B⟩:A1) 20 [.agg [.int .i64 s,.slice true (.ro ks) 0 n,.slice true (.ro kp) 0 m]] [] fun v _=>v=.int .i64 (Fc s (G ks) n (G kp) m):=by
 have:=C8 (C:=(⟨zM,G,B⟩:A1)) (fuel:=300) (n0:=20) (f:=20) (fn:=Try.f20) (args:=[.agg (.of [.int .i64 (.var 1 s),.slice true (.ro (.var 2 ks)) (.lit 0) (.var 3 n),.slice true (.ro (.var 4 kp)) (.lit 0) (.var 5 m)])]) (H:=[]) (keep:=0)
  (R:=fun v _=>v=.int .i64 (Fc s (G ks) n (G kp) m)) (C7 (inl:=[]) (ls:=[(D4 1714 (ckQ G ks n kp m s) 0 98 [1,2,3,4,31,32,33] (ckO ks n kp m s)),(D4 1715 (cdQ G ks n kp m s) 2 98 [1,2,3,4,73,74,75] (cdO ks n kp m s))]) (M:=1) (Bc G B) (by kernel_rfl) (Nm G B) (.cast (.cons (i:=0) (by kernel_rfl) rfl (ckL_ok G B ks n kp m s) (.cons (i:=2) (by kernel_rfl) rfl (cdL_ok G B ks n kp m s) .nil)) (by kernel_rfl))) (by kernel_rfl) (by kernel_rfl) (by kernel_rfl) (by
  rw [t20,Et,Ld,bS];have no:K1 s (G ks) n (G kp) m=false→Fc s (G ks) n (G kp) m=2:=fun h=>by unfold Fc;rw [h];rfl
  refine ⟨fun h1=>?_,fun h1=>⟨fun h2=>?_,fun h2=>⟨fun h3=>?_,fun h3=>⟨fun h4=>?_,fun h4=>?_⟩⟩⟩⟩
  ·have h1:(n:Int)>8:=zR h1;rw [no (by unfold K1;rw [sL (p:=n≤8) (by omega)];rfl)]
  ·have h2:(m:Int)>512:=zR h2;rw [no (by unfold K1;rw [sL (p:=m≤512) (by omega),Bool.and_false];rfl)]
  ·have h3:s<0:=zR h3;rw [no (by unfold K1;rw [sL (p:=0≤s) (by omega),Bool.false_and,Bool.false_and,Bool.and_false])]
  ·have h1:¬(n:Int)>8:=sJ h1;have h2:¬(m:Int)>512:=sJ h2;have h3:¬s<0:=sJ h3;rw [jQ (by omega)] at h4;have h4:=zR h4
   have em:K1 s (G ks) n (G kp) m=(J7 (Ac (G ks)) n&&(J7 (Cz (G ks) n (G kp)) m&&Bp (G ks) s n)):=by
    unfold K1;rw [yI (p:=n≤8) (by omega),yI (p:=m≤512) (by omega),yI (p:=0≤s) (by omega),yI h4];rfl
   refine ⟨Cr hk rfl rfl,fun e1=>⟨Cr (by rw [Oa];exact ⟨R3.1 hk,Hy.1 hp,e1⟩) rfl rfl,fun e2=>⟨fun e3=>?_,fun e3=>?_⟩,fun e2=>?_⟩,fun e1=>?_⟩
   ·unfold Fc;rw [em,e1,e2,e3];rfl
   ·rw [no (by rw [em,e3,Bool.and_false,Bool.and_false])]
   ·rw [no (by rw [em,e2,Bool.false_and,Bool.and_false])]
   ·rw [no (by rw [em,e1,Bool.false_and])]
  ·have h3:¬s<0:=sJ h3;rw [jQ (by omega)] at h4
   rw [no (by unfold K1;rw [h4,Bool.and_false,Bool.false_and,Bool.and_false])])
 exact this.monoK fun v H h=>h
theorem aM8 (ks n kp m:Nat) (s:Int) (hk:U9 [.agg (G ks),.int .i64 (n:Int)]=true) (hp:Ol [.agg (G kp),.int .i64 (m:Int)]=true):ACalls (⟨zM,G,B⟩:A1) 21 [.agg [.int .i64 s,.slice true (.ro ks) 0 n,.slice true (.ro kp) 0 m]] [] fun v _=>v=.bool (K1 s (G ks) n (G kp) m):=by
 have:=C8 (C:=(⟨zM,G,B⟩:A1)) (fuel:=300) (n0:=20) (f:=21) (fn:=Try.f21) (args:=[.agg (.of [.int .i64 (.var 1 s),.slice true (.ro (.var 2 ks)) (.lit 0) (.var 3 n),.slice true (.ro (.var 4 kp)) (.lit 0) (.var 5 m)])]) (H:=[]) (keep:=0)
  (R:=fun v _=>v=.bool (K1 s (G ks) n (G kp) m)) (C7 (inl:=[]) (ls:=[(D4 1716 (maQ G ks n kp m s) 0 130 [1,2,3,4] (maO ks n kp m s)),(D4 1717 (mdQ G ks n kp m s) 2 130 [1,2,3,6] (mdO ks n kp m s))]) (M:=1) (Bc G B) (by kernel_rfl) (Nm G B) (.cast (.cons (i:=0) (by kernel_rfl) rfl (maL_ok G B ks n kp m s) (.cons (i:=2) (by kernel_rfl) rfl (mdL_ok G B ks n kp m s) .nil)) (by kernel_rfl))) (by kernel_rfl) (by kernel_rfl) (by kernel_rfl) (by
  rw [t21,Et,Ld,bS];refine ⟨fun h1=>?_,fun h1=>⟨fun h2=>?_,fun h2=>⟨fun h3=>?_,fun h3=>⟨fun h4=>?_,fun h4=>?_⟩⟩⟩⟩
  ·have h1:(n:Int)>8:=zR h1;rw [(by unfold K1;rw [sL (p:=n≤8) (by omega)];rfl:K1 s (G ks) n (G kp) m=false)]
  ·have h2:(m:Int)>512:=zR h2;rw [(by unfold K1;rw [sL (p:=m≤512) (by omega),Bool.and_false];rfl:K1 s (G ks) n (G kp) m=false)]
  ·have h3:s<0:=zR h3;rw [(by unfold K1;rw [sL (p:=0≤s) (by omega),Bool.false_and,Bool.false_and,Bool.and_false]:K1 s (G ks) n (G kp) m=false)]
  ·have h1:¬(n:Int)>8:=sJ h1;have h2:¬(m:Int)>512:=sJ h2;have h3:¬s<0:=sJ h3;rw [jQ (by omega)] at h4;have h4:=zR h4
   have em:K1 s (G ks) n (G kp) m=(J7 (Ac (G ks)) n&&(J7 (Cz (G ks) n (G kp)) m&&Bp (G ks) s n)):=by
    unfold K1;rw [yI (p:=n≤8) (by omega),yI (p:=m≤512) (by omega),yI (p:=0≤s) (by omega),yI h4];rfl
   refine ⟨Cr hk rfl rfl,fun e1=>⟨Cr (by rw [Oa];exact ⟨R3.1 hk,Hy.1 hp,e1⟩) rfl rfl,fun e2=>?_,fun e2=>?_⟩,fun e1=>?_⟩
   ·rw [em,e1,e2];rfl
   ·rw [em,e2,Bool.false_and,Bool.and_false]
   ·rw [em,e1,Bool.false_and]
  ·have h3:¬s<0:=sJ h3;rw [jQ (by omega)] at h4
   rw [(by unfold K1;rw [h4,Bool.and_false,Bool.false_and,Bool.and_false]:K1 s (G ks) n (G kp) m=false)])
 exact this.monoK fun v H h=>h
end
section
variable (G:Nat→List AV) (B:Nat)
def gI:Code→Code
 | .seq a _=>a
 | c=>c
def O4:Code→Code
 | .seq _ b=>b
 | c=>c
def oR:Code→Code
 | .block _ c=>c
 | c=>c
def rOps:Code→Array Oper
 | .region _ o _=>o
 | _=>#[]
def lX (c:Code):Array Oper:=rOps (gI (oR (gI (O4 c))))
theorem rx_a (s s2:Int) (k k2 n n2 kp kp2 m m2 i:Nat) (Q:Ex→List AV→Hp→Prop) (R:AV→Hp→Prop):vT G Q R (H4 (Dc Try.prog [] [] [] 2) 300 20 2 (gI (A5 Try.f15 0)) 95 [2,3,4,5] [.ptr (.rw 0) (.lit 0),.ptr (.rw 1) (.lit 0),.bool (.lit false),.int .i64 (.ofN (.var 8 i))] [some ⟨1,.of [.int .i64 (.var 4 s),.slice true (.ro (.var 1 k)) (.lit 0) (.var 2 n),.slice true (.ro (.var 5 kp)) (.lit 0) (.var 6 m)]⟩,some ⟨1,.of [.int .i64 (.var 10 s2),.slice true (.ro (.var 3 k2)) (.lit 0) (.var 9 n2),.slice true (.ro (.var 7 kp2)) (.lit 0) (.var 31 m2)]⟩])=(
  (decide (((i:Int):Int)<(n:Int))=true→Q .normal [.ptr (.rw 0) 0,.ptr (.rw 1) 0,.bool false,.int .i64 ((i:Int))] [some ⟨1,([.int .i64 s,.slice true (.ro k) 0 n,.slice true (.ro kp) 0 m]:List AV)⟩,some ⟨1,([.int .i64 s2,.slice true (.ro k2) 0 n2,.slice true (.ro kp2) 0 m2]:List AV)⟩])∧(decide (((i:Int):Int)<(n:Int))=false→Q (.exit 0) [.ptr (.rw 0) 0,.ptr (.rw 1) 0,.bool false,.int .i64 ((i:Int))] [some ⟨1,([.int .i64 s,.slice true (.ro k) 0 n,.slice true (.ro kp) 0 m]:List AV)⟩,some ⟨1,([.int .i64 s2,.slice true (.ro k2) 0 n2,.slice true (.ro kp2) 0 m2]:List AV)⟩])):=by kernel_rfl
theorem rx_1 (s s2:Int) (k k2 n n2 kp kp2 m m2 i:Nat) (Q:Ex→List AV→Hp→Prop) (R:AV→Hp→Prop):vT G Q R (H4 (Dc Try.prog [] [] [] 2) 301 20 2 (.region 6 (Yy (lX (A5 Try.f15 0)) 10 11).toArray true) 95 [2,3,4,5,6,7] [.ptr (.rw 0) (.lit 0),.ptr (.rw 1) (.lit 0),.bool (.lit false),.int .i64 (.ofN (.var 8 i)),.undef,.undef] [some ⟨1,.of [.int .i64 (.var 4 s),.slice true (.ro (.var 1 k)) (.lit 0) (.var 2 n),.slice true (.ro (.var 5 kp)) (.lit 0) (.var 6 m)]⟩,some ⟨1,.of [.int .i64 (.var 10 s2),.slice true (.ro (.var 3 k2)) (.lit 0) (.var 9 n2),.slice true (.ro (.var 7 kp2)) (.lit 0) (.var 31 m2)]⟩])=(
  decide ((0:Int)≤(i:Int))=true∧decide (((i:Int):Int)<(n:Int))=true∧G6 (G k) (i*4) [.int .i64,.int .i64,.sl,.int .i64]=true∧decide ((0:Int)≤(i:Int))=true∧decide (((i:Int):Int)<(n2:Int))=true∧G6 (G k2) (i*4) [.int .i64,.int .i64,.sl,.int .i64]=true∧Q .normal [.ptr (.rw 0) 0,.ptr (.rw 1) 0,.bool false,.int .i64 ((i:Int)),.ptr (.rw 2) 0,.ptr (.rw 3) 0] [some ⟨1,([.int .i64 s,.slice true (.ro k) 0 n,.slice true (.ro kp) 0 m]:List AV)⟩,some ⟨1,([.int .i64 s2,.slice true (.ro k2) 0 n2,.slice true (.ro kp2) 0 m2]:List AV)⟩,some ⟨1,([.int .i64 (A2 (G k) (i*4)),.int .i64 (A2 (G k) (i*4+1)),.slice true (.ro (G0 (G k) (i*4+2))) (H8 (G k) (i*4+2)) (D1 (G k) (i*4+2)),.int .i64 (A2 (G k) (i*4+3))]:List AV)⟩,some ⟨1,([.int .i64 (A2 (G k2) (i*4)),.int .i64 (A2 (G k2) (i*4+1)),.slice true (.ro (G0 (G k2) (i*4+2))) (H8 (G k2) (i*4+2)) (D1 (G k2) (i*4+2)),.int .i64 (A2 (G k2) (i*4+3))]:List AV)⟩]):=by kernel_rfl
theorem rx_2 (s s2:Int) (k k2 n n2 kp kp2 m m2 i:Nat) (Q:Ex→List AV→Hp→Prop) (R:AV→Hp→Prop):vT G Q R (H4 (Dc Try.prog [] [] [] 2) 301 20 2 (.region 6 (Yx (lX (A5 Try.f15 0)) 10 11).toArray true) 95 [2,3,4,5,6,7] [.ptr (.rw 0) (.lit 0),.ptr (.rw 1) (.lit 0),.bool (.lit false),.int .i64 (.ofN (.var 8 i)),.undef,.undef] [some ⟨1,.of [.int .i64 (.var 4 s),.slice true (.ro (.var 1 k)) (.lit 0) (.var 2 n),.slice true (.ro (.var 5 kp)) (.lit 0) (.var 6 m)]⟩,some ⟨1,.of [.int .i64 (.var 10 s2),.slice true (.ro (.var 3 k2)) (.lit 0) (.var 9 n2),.slice true (.ro (.var 7 kp2)) (.lit 0) (.var 31 m2)]⟩])=(
  decide ((0:Int)≤(i:Int))=true∧decide (((i:Int):Int)<(n:Int))=true∧G6 (G k) (i*4) [.int .i64,.int .i64,.sl,.int .i64]=true∧decide ((0:Int)≤(i:Int))=true∧decide (((i:Int):Int)<(n2:Int))=true∧G6 (G k2) (i*4) [.int .i64,.int .i64,.sl,.int .i64]=true∧Q .normal [.ptr (.rw 0) 0,.ptr (.rw 1) 0,.bool false,.int .i64 ((i:Int)),.ptr (.rw 3) 0,.ptr (.rw 2) 0] [some ⟨1,([.int .i64 s,.slice true (.ro k) 0 n,.slice true (.ro kp) 0 m]:List AV)⟩,some ⟨1,([.int .i64 s2,.slice true (.ro k2) 0 n2,.slice true (.ro kp2) 0 m2]:List AV)⟩,some ⟨1,([.int .i64 (A2 (G k2) (i*4)),.int .i64 (A2 (G k2) (i*4+1)),.slice true (.ro (G0 (G k2) (i*4+2))) (H8 (G k2) (i*4+2)) (D1 (G k2) (i*4+2)),.int .i64 (A2 (G k2) (i*4+3))]:List AV)⟩,some ⟨1,([.int .i64 (A2 (G k) (i*4)),.int .i64 (A2 (G k) (i*4+1)),.slice true (.ro (G0 (G k) (i*4+2))) (H8 (G k) (i*4+2)) (D1 (G k) (i*4+2)),.int .i64 (A2 (G k) (i*4+3))]:List AV)⟩]):=by kernel_rfl
def Tt (s:Int) (s2:Int) (k:Nat) (k2:Nat) (n:Nat) (n2:Nat) (kp:Nat) (kp2:Nat) (m:Nat) (m2:Nat) (a1:Int) (r1:Int) (z1:Int) (a2:Int) (r2:Int) (z2:Int) (d1:Nat) (o1:Nat) (e1:Nat) (d2:Nat) (o2:Nat) (e2:Nat):Hp:=[some ⟨1,([.int .i64 s,.slice true (.ro k) 0 n,.slice true (.ro kp) 0 m]:List AV)⟩,some ⟨1,([.int .i64 s2,.slice true (.ro k2) 0 n2,.slice true (.ro kp2) 0 m2]:List AV)⟩,some ⟨1,([.int .i64 a1,.int .i64 r1,.slice true (.ro d1) o1 e1,.int .i64 z1]:List AV)⟩,some ⟨1,([.int .i64 a2,.int .i64 r2,.slice true (.ro d2) o2 e2,.int .i64 z2]:List AV)⟩]
def Ts (i:Nat):List AV:=[.ptr (.rw 0) 0,.ptr (.rw 1) 0,.bool false,.int .i64 ((i:Int)),.ptr (.rw 2) 0,.ptr (.rw 3) 0]
theorem ry_1 (s s2:Int) (k k2 n n2 kp kp2 m m2 i:Nat) (a1 r1 z1 a2 r2 z2:Int) (d1 o1 e1 d2 o2 e2:Nat) (Q:Ex→List AV→Hp→Prop) (R:AV→Hp→Prop):vT G Q R (H4 (Dc Try.prog [] [] [] 2) 300 20 2 (O4 (oR (gI (O4 (A5 Try.f15 0))))) 95 [2,3,4,5,6,7] [.ptr (.rw 0) (.lit 0),.ptr (.rw 1) (.lit 0),.bool (.lit false),.int .i64 (.ofN (.var 8 i)),.ptr (.rw 2) (.lit 0),.ptr (.rw 3) (.lit 0)] [some ⟨1,.of [.int .i64 (.var 4 s),.slice true (.ro (.var 1 k)) (.lit 0) (.var 2 n),.slice true (.ro (.var 5 kp)) (.lit 0) (.var 6 m)]⟩,some ⟨1,.of [.int .i64 (.var 10 s2),.slice true (.ro (.var 3 k2)) (.lit 0) (.var 9 n2),.slice true (.ro (.var 7 kp2)) (.lit 0) (.var 31 m2)]⟩,some ⟨1,.of [.int .i64 (.var 11 a1),.int .i64 (.var 12 r1),.slice true (.ro (.var 13 d1)) (.var 14 o1) (.var 15 e1),.int .i64 (.var 16 z1)]⟩,some ⟨1,.of [.int .i64 (.var 21 a2),.int .i64 (.var 22 r2),.slice true (.ro (.var 23 d2)) (.var 24 o2) (.var 25 e2),.int .i64 (.var 26 z2)]⟩])=(
  (((a1:Int)==a2)=true→(((r1:Int)==r2)=true→leB (o1+e1) (List.length (G d1))=true∧u8s (A0 (G d1) o1 e1)=true∧leB (o2+e2) (List.length (G d2))=true∧u8s (A0 (G d2) o2 e2)=true∧((((F8 (A0 (G d1) o1 e1)):List UInt8)==(F8 (A0 (G d2) o2 e2)))=true→(((z1:Int)==z2)=true→Q .normal (Ts i) (Tt s s2 k k2 n n2 kp kp2 m m2 a1 r1 z1 a2 r2 z2 d1 o1 e1 d2 o2 e2))∧(((z1:Int)==z2)=false→Q .ret (Ts i) (Tt s s2 k k2 n n2 kp kp2 m m2 a1 r1 z1 a2 r2 z2 d1 o1 e1 d2 o2 e2)))∧((((F8 (A0 (G d1) o1 e1)):List UInt8)==(F8 (A0 (G d2) o2 e2)))=false→Q .ret (Ts i) (Tt s s2 k k2 n n2 kp kp2 m m2 a1 r1 z1 a2 r2 z2 d1 o1 e1 d2 o2 e2)))∧(((r1:Int)==r2)=false→Q .ret (Ts i) (Tt s s2 k k2 n n2 kp kp2 m m2 a1 r1 z1 a2 r2 z2 d1 o1 e1 d2 o2 e2)))∧(((a1:Int)==a2)=false→Q .ret (Ts i) (Tt s s2 k k2 n n2 kp kp2 m m2 a1 r1 z1 a2 r2 z2 d1 o1 e1 d2 o2 e2))):=by kernel_rfl
theorem rz_1 (s s2:Int) (k k2 n n2 kp kp2 m m2 i:Nat) (Q:Ex→List AV→Hp→Prop) (R:AV→Hp→Prop):vT G Q R (H4 (Dc Try.prog [] [] [] 2) 300 20 2 (O4 (O4 (A5 Try.f15 0))) 95 [2,3,4,5] [.ptr (.rw 0) (.lit 0),.ptr (.rw 1) (.lit 0),.bool (.lit false),.int .i64 (.ofN (.var 8 i))] [some ⟨1,.of [.int .i64 (.var 4 s),.slice true (.ro (.var 1 k)) (.lit 0) (.var 2 n),.slice true (.ro (.var 5 kp)) (.lit 0) (.var 6 m)]⟩,some ⟨1,.of [.int .i64 (.var 10 s2),.slice true (.ro (.var 3 k2)) (.lit 0) (.var 9 n2),.slice true (.ro (.var 7 kp2)) (.lit 0) (.var 31 m2)]⟩])=(
  Q .normal [.ptr (.rw 0) 0,.ptr (.rw 1) 0,.bool false,.int .i64 (IntKind.wrap .i64 ((i:Int)+1))] [some ⟨1,([.int .i64 s,.slice true (.ro k) 0 n,.slice true (.ro kp) 0 m]:List AV)⟩,some ⟨1,([.int .i64 s2,.slice true (.ro k2) 0 n2,.slice true (.ro kp2) 0 m2]:List AV)⟩]):=by kernel_rfl
end
section
variable (G:Nat→List AV) (B:Nat)
def F7 (G:Nat→List AV) (cs:List AV) (k:Nat):List AV:=A0 (G (G0 cs (k*4+2))) (H8 cs (k*4+2)) (D1 cs (k*4+2))
def Jb (G:Nat→List AV) (cs:List AV) (k:Nat):Bool:=leB (H8 cs (k*4+2)+D1 cs (k*4+2)) (List.length (G (G0 cs (k*4+2))))&&u8s (F7 G cs k)
def Cb (G:Nat→List AV) (cs cs2:List AV) (k:Nat):Bool:=(sA cs k==sA cs2 k)&&((sR cs k==sR cs2 k)&&((F8 (F7 G cs k)==F8 (F7 G cs2 k))&&(sZ cs k==sZ cs2 k)))
def Oh (G:Nat→List AV) (cs:List AV) (k:Nat):Blk:=⟨1,[.int .i64 (A2 cs (k*4)),.int .i64 (A2 cs (k*4+1)),.slice true (.ro (G0 cs (k*4+2))) (H8 cs (k*4+2)) (D1 cs (k*4+2)),.int .i64 (A2 cs (k*4+3))]⟩
theorem dgR {c:Code} (h:loopsOf c=[]):DGood (⟨zM,G,B⟩:A1) (Dc zM [] [] [] 2) (loopsOf c):=by rw [h];exact C7 (Bc G B) (by kernel_rfl) .nil .nil
theorem yU (s s2:Int) (k k2 n n2 kp kp2 m m2 i:Nat) (cs cs2:List AV) (d1:Jb G cs i=true) (d2:Jb G cs2 i=true):AWp (⟨zM,G,B⟩:A1) 2 (O4 (oR (gI (O4 (A5 Try.f15 0))))) (fl 95 [2,3,4,5,6,7] [.ptr (.rw 0) 0,.ptr (.rw 1) 0,.bool false,.int .i64 (i:Int),.ptr (.rw 2) 0,.ptr (.rw 3) 0]) [some ⟨1,[.int .i64 s,.slice true (.ro k) 0 n,.slice true (.ro kp) 0 m]⟩,some ⟨1,[.int .i64 s2,.slice true (.ro k2) 0 n2,.slice true (.ro kp2) 0 m2]⟩,some (Oh G cs i),some (Oh G cs2 i)] (lv 95 [2,3,4,5,6,7] fun e vs H=>((e=.normal∧Cb G cs cs2 i=true)∨(e=.ret∧Cb G cs cs2 i=false))∧(∃ x y,vs=[.ptr (.rw 0) 0,.ptr (.rw 1) 0,.bool false,.int .i64 (i:Int),x,y])∧∃ X,H=[some ⟨1,[.int .i64 s,.slice true (.ro k) 0 n,.slice true (.ro kp) 0 m]⟩,some ⟨1,[.int .i64 s2,.slice true (.ro k2) 0 n2,.slice true (.ro kp2) 0 m2]⟩]++X):=by
 unfold Jb at d1 d2;rw [zO] at d1 d2
 refine D3 (C:=(⟨zM,G,B⟩:A1)) (dgR G B (by kernel_rfl)) (fuel:=300) (n0:=20) (m:=2) (vs:=[.ptr (.rw 0) (.lit 0),.ptr (.rw 1) (.lit 0),.bool (.lit false),.int .i64 (.ofN (.var 8 i)),.ptr (.rw 2) (.lit 0),.ptr (.rw 3) (.lit 0)]) (H:=[some ⟨1,.of [.int .i64 (.var 4 s),.slice true (.ro (.var 1 k)) (.lit 0) (.var 2 n),.slice true (.ro (.var 5 kp)) (.lit 0) (.var 6 m)]⟩,some ⟨1,.of [.int .i64 (.var 10 s2),.slice true (.ro (.var 3 k2)) (.lit 0) (.var 9 n2),.slice true (.ro (.var 7 kp2)) (.lit 0) (.var 31 m2)]⟩,some ⟨1,.of [.int .i64 (.var 11 (A2 cs (i*4))),.int .i64 (.var 12 (A2 cs (i*4+1))),.slice true (.ro (.var 13 (G0 cs (i*4+2)))) (.var 14 (H8 cs (i*4+2))) (.var 15 (D1 cs (i*4+2))),.int .i64 (.var 16 (A2 cs (i*4+3)))]⟩,some ⟨1,.of [.int .i64 (.var 21 (A2 cs2 (i*4))),.int .i64 (.var 22 (A2 cs2 (i*4+1))),.slice true (.ro (.var 23 (G0 cs2 (i*4+2)))) (.var 24 (H8 cs2 (i*4+2))) (.var 25 (D1 cs2 (i*4+2))),.int .i64 (.var 26 (A2 cs2 (i*4+3)))]⟩]) (by simp) ?_
 rw [ry_1];have tl:(∃ x y,([.ptr (.rw 0) 0,.ptr (.rw 1) 0,.bool false,.int .i64 (i:Int),.ptr (.rw 2) 0,.ptr (.rw 3) 0]:List AV)=[.ptr (.rw 0) 0,.ptr (.rw 1) 0,.bool false,.int .i64 (i:Int),x,y])∧∃ X,([some ⟨1,[.int .i64 s,.slice true (.ro k) 0 n,.slice true (.ro kp) 0 m]⟩,some ⟨1,[.int .i64 s2,.slice true (.ro k2) 0 n2,.slice true (.ro kp2) 0 m2]⟩,some (Oh G cs i),some (Oh G cs2 i)]:Hp)=[some ⟨1,[.int .i64 s,.slice true (.ro k) 0 n,.slice true (.ro kp) 0 m]⟩,some ⟨1,[.int .i64 s2,.slice true (.ro k2) 0 n2,.slice true (.ro kp2) 0 m2]⟩]++X:=⟨⟨_,_,rfl⟩,_,rfl⟩
 refine ⟨fun h1=>⟨fun h2=>⟨d1.1,d1.2,d2.1,d2.2,fun h3=>⟨fun h4=>⟨.inl ⟨rfl,?_⟩,tl⟩,fun h4=>⟨.inr ⟨rfl,?_⟩,tl⟩⟩,fun h3=>⟨.inr ⟨rfl,?_⟩,tl⟩⟩,fun h2=>⟨.inr ⟨rfl,?_⟩,tl⟩⟩,fun h1=>⟨.inr ⟨rfl,?_⟩,tl⟩⟩
 all_goals unfold Cb sA sR sZ F7
 ·rw [h1,h2,h3,h4];rfl
 ·rw [h1,h2,h3,h4];rfl
 ·rw [h1,h2,h3];rfl
 ·rw [h1,h2];rfl
 ·rw [h1];rfl
theorem AWp.preJ {C:A1} {m:Nat} {c:Code} {N:Nat} {live:List Nat} {vs vs':List AV} {H H':Hp} {Q:Post} (h:AWp C m c (fl N live vs) H Q) (hr:Ce live (fl N live vs')=vs') (hv:C5 m vs H vs' H'):AWp C m c (fl N live vs') H' Q:=by
 intro r hr' ρ a w hH hF
 obtain ⟨ρ1,g1,g2,g3,g4⟩:=hv.live (N:=N) (live:=live) (a:=a) hH hF.nod (by rw [←hF.len,Vb]) (by rw [←hr];simp [Ce]) fun j i v q1 q2=>by
  rw [←hr] at q2;simp only [Ce,zA0,q1,Option.map_some,zN] at q2;subst q2;by_cases hi:i<(fl N live vs').length
  ·exact hF.val i _ (by simp [List.getD,hi])
  ·simp [List.getD,hi,VR]
 exact Code.wpIn_mono (fun e a w h=>AP.link g3 g4 h) (h r hr' ρ1 a w g1 g2)
theorem aY5:A5 Try.f15 0=.seq (gI (A5 Try.f15 0)) (.seq (.block 1 (.seq (.region 6 (lX (A5 Try.f15 0)) true) (O4 (oR (gI (O4 (A5 Try.f15 0))))))) (O4 (O4 (A5 Try.f15 0)))):=by kernel_rfl
theorem aJ2 (s s2:Int) (k k2 n n2 kp kp2 m m2 i:Nat) {Q:Ex→List AV→Hp→Prop} (hnn:n=n2) (hn:n≤1000000) (hk:P2 (G k) n=true) (hk2:P2 (G k2) n=true) (hd:i<n→Jb G (G k) i=true) (hd2:i<n→Jb G (G k2) i=true)
  (hA:i<n→Cb G (G k) (G k2) i=true→Q .normal [.ptr (.rw 0) 0,.ptr (.rw 1) 0,.bool false,.int .i64 ((i+1:Nat):Int)] [some ⟨1,[.int .i64 s,.slice true (.ro k) 0 n,.slice true (.ro kp) 0 m]⟩,some ⟨1,[.int .i64 s2,.slice true (.ro k2) 0 n2,.slice true (.ro kp2) 0 m2]⟩]) (hB:i<n→Cb G (G k) (G k2) i=false→∀ X,Q .ret [.ptr (.rw 0) 0,.ptr (.rw 1) 0,.bool false,.int .i64 (i:Int)] ([some ⟨1,[.int .i64 s,.slice true (.ro k) 0 n,.slice true (.ro kp) 0 m]⟩,some ⟨1,[.int .i64 s2,.slice true (.ro k2) 0 n2,.slice true (.ro kp2) 0 m2]⟩]++X)) (hC:¬i<n→Q (.exit 0) [.ptr (.rw 0) 0,.ptr (.rw 1) 0,.bool false,.int .i64 (i:Int)] [some ⟨1,[.int .i64 s,.slice true (.ro k) 0 n,.slice true (.ro kp) 0 m]⟩,some ⟨1,[.int .i64 s2,.slice true (.ro k2) 0 n2,.slice true (.ro kp2) 0 m2]⟩]) :
  AWp (⟨zM,G,B⟩:A1) 2 (A5 Try.f15 0) (fl 95 [2,3,4,5] [.ptr (.rw 0) 0,.ptr (.rw 1) 0,.bool false,.int .i64 (i:Int)]) [some ⟨1,[.int .i64 s,.slice true (.ro k) 0 n,.slice true (.ro kp) 0 m]⟩,some ⟨1,[.int .i64 s2,.slice true (.ro k2) 0 n2,.slice true (.ro kp2) 0 m2]⟩] (lv 95 [2,3,4,5] Q):=by
 rw [aY5];refine AWp.seq (by simp) ?_;refine AWp.lvd (live:=[2,3,4,5]) (N:=95) (Q:=fun e vs H=>((e=.normal∧i<n)∨(e=.exit 0∧¬i<n))∧vs=[.ptr (.rw 0) 0,.ptr (.rw 1) 0,.bool false,.int .i64 (i:Int)]∧H=[some ⟨1,[.int .i64 s,.slice true (.ro k) 0 n,.slice true (.ro kp) 0 m]⟩,some ⟨1,[.int .i64 s2,.slice true (.ro k2) 0 n2,.slice true (.ro kp2) 0 m2]⟩]) ?_ ?_
 ·refine D3 (C:=(⟨zM,G,B⟩:A1)) (dgR G B (by kernel_rfl)) (fuel:=300) (n0:=20) (m:=2) (vs:=[.ptr (.rw 0) (.lit 0),.ptr (.rw 1) (.lit 0),.bool (.lit false),.int .i64 (.ofN (.var 8 i))]) (H:=[some ⟨1,.of [.int .i64 (.var 4 s),.slice true (.ro (.var 1 k)) (.lit 0) (.var 2 n),.slice true (.ro (.var 5 kp)) (.lit 0) (.var 6 m)]⟩,some ⟨1,.of [.int .i64 (.var 10 s2),.slice true (.ro (.var 3 k2)) (.lit 0) (.var 9 n2),.slice true (.ro (.var 7 kp2)) (.lit 0) (.var 31 m2)]⟩]) (by simp) ?_;rw [rx_a]
  exact ⟨fun h=>⟨.inl ⟨rfl,by have:=zR h;omega⟩,rfl,rfl⟩,fun h=>⟨.inr ⟨rfl,by have:=sJ h;omega⟩,rfl,rfl⟩⟩
 ·rintro e vs H ⟨h1,rfl,rfl⟩;rcases h1 with ⟨rfl,hin⟩ | ⟨rfl,hin⟩
  ·have d1:=hd hin;have d2:=hd2 hin;show AWp (⟨zM,G,B⟩:A1) 2 (.seq (.block 1 (.seq (.region 6 (lX (A5 Try.f15 0)) true) (O4 (oR (gI (O4 (A5 Try.f15 0))))))) (O4 (O4 (A5 Try.f15 0)))) (fl 95 [2,3,4,5] [.ptr (.rw 0) 0,.ptr (.rw 1) 0,.bool false,.int .i64 (i:Int)]) [some ⟨1,[.int .i64 s,.slice true (.ro k) 0 n,.slice true (.ro kp) 0 m]⟩,some ⟨1,[.int .i64 s2,.slice true (.ro k2) 0 n2,.slice true (.ro kp2) 0 m2]⟩] (lv 95 [2,3,4,5] Q)
   have fin:∀ e vs H,((e=Ex.normal∧Cb G (G k) (G k2) i=true)∨(e=.ret∧Cb G (G k) (G k2) i=false))∧(∃ x y,vs=[.ptr (.rw 0) 0,.ptr (.rw 1) 0,.bool false,.int .i64 (i:Int),x,y])∧(∃ X,H=([some ⟨1,[.int .i64 s,.slice true (.ro k) 0 n,.slice true (.ro kp) 0 m]⟩,some ⟨1,[.int .i64 s2,.slice true (.ro k2) 0 n2,.slice true (.ro kp2) 0 m2]⟩]:Hp)++X)→Z3 1 (Nc (recW (⟨zM,G,B⟩:A1)) 2 (O4 (O4 (A5 Try.f15 0))) (lv 95 [2,3,4,5] Q)) e (fl 95 [2,3,4,5,6,7] vs) H:=by
    rintro e vs H ⟨h1,⟨x,y,rfl⟩,X,rfl⟩;rcases h1 with ⟨rfl,he⟩ | ⟨rfl,he⟩
    ·show AWp (⟨zM,G,B⟩:A1) 2 (O4 (O4 (A5 Try.f15 0))) (fl 95 [2,3,4,5,6,7] _) _ (lv 95 [2,3,4,5] Q);refine AWp.rd [2,3,4,5] Vb ?_;show AWp (⟨zM,G,B⟩:A1) 2 (O4 (O4 (A5 Try.f15 0))) (fl 95 [2,3,4,5] [.ptr (.rw 0) 0,.ptr (.rw 1) 0,.bool false,.int .i64 (i:Int)]) _ (lv 95 [2,3,4,5] Q);refine AWp.forget (by simp) (by simp [I1,A6,B0]) (by simp [A6,B0]) ?_
     refine D3 (C:=(⟨zM,G,B⟩:A1)) (dgR G B (by kernel_rfl)) (fuel:=300) (n0:=20) (m:=2) (vs:=[.ptr (.rw 0) (.lit 0),.ptr (.rw 1) (.lit 0),.bool (.lit false),.int .i64 (.ofN (.var 8 i))]) (H:=[some ⟨1,.of [.int .i64 (.var 4 s),.slice true (.ro (.var 1 k)) (.lit 0) (.var 2 n),.slice true (.ro (.var 5 kp)) (.lit 0) (.var 6 m)]⟩,some ⟨1,.of [.int .i64 (.var 10 s2),.slice true (.ro (.var 3 k2)) (.lit 0) (.var 9 n2),.slice true (.ro (.var 7 kp2)) (.lit 0) (.var 31 m2)]⟩]) (by simp) ?_;rw [rz_1,B5 (by omega)];exact hA hin he
    ·exact hB hin he X
   refine AWp.seq (by simp) (AWp.block (AWp.seq (by simp) ?_));show AWp (⟨zM,G,B⟩:A1) 2 (.region 6 (lX (A5 Try.f15 0)) true) (fl 95 [2,3,4,5,6,7] [.ptr (.rw 0) 0,.ptr (.rw 1) 0,.bool false,.int .i64 (i:Int),.undef,.undef]) [some ⟨1,[.int .i64 s,.slice true (.ro k) 0 n,.slice true (.ro kp) 0 m]⟩,some ⟨1,[.int .i64 s2,.slice true (.ro k2) 0 n2,.slice true (.ro kp2) 0 m2]⟩] _
   refine AWp.lvd (live:=[2,3,4,5,6,7]) (N:=95) (Q:=fun e vs H=>e=.normal∧((vs=[.ptr (.rw 0) 0,.ptr (.rw 1) 0,.bool false,.int .i64 (i:Int),.ptr (.rw 2) 0,.ptr (.rw 3) 0]∧H=[some ⟨1,[.int .i64 s,.slice true (.ro k) 0 n,.slice true (.ro kp) 0 m]⟩,some ⟨1,[.int .i64 s2,.slice true (.ro k2) 0 n2,.slice true (.ro kp2) 0 m2]⟩,some (Oh G (G k) i),some (Oh G (G k2) i)])∨(vs=[.ptr (.rw 0) 0,.ptr (.rw 1) 0,.bool false,.int .i64 (i:Int),.ptr (.rw 3) 0,.ptr (.rw 2) 0]∧H=[some ⟨1,[.int .i64 s,.slice true (.ro k) 0 n,.slice true (.ro kp) 0 m]⟩,some ⟨1,[.int .i64 s2,.slice true (.ro k2) 0 n2,.slice true (.ro kp2) 0 m2]⟩,some (Oh G (G k2) i),some (Oh G (G k) i)]))) ?_ ?_
   ·refine dtwo (C:=(⟨zM,G,B⟩:A1)) (K:=Dc zM [] [] [] 2) (C7 (inl:=[]) (ls:=[]) (M:=2) (Bc G B) (by kernel_rfl) .nil .nil) (fuel:=300) (n0:=20) (m:=2) (i:=10) (j:=11) (vs:=[.ptr (.rw 0) (.lit 0),.ptr (.rw 1) (.lit 0),.bool (.lit false),.int .i64 (.ofN (.var 8 i)),.undef,.undef]) (H:=[some ⟨1,.of [.int .i64 (.var 4 s),.slice true (.ro (.var 1 k)) (.lit 0) (.var 2 n),.slice true (.ro (.var 5 kp)) (.lit 0) (.var 6 m)]⟩,some ⟨1,.of [.int .i64 (.var 10 s2),.slice true (.ro (.var 3 k2)) (.lit 0) (.var 9 n2),.slice true (.ro (.var 7 kp2)) (.lit 0) (.var 31 m2)]⟩]) (by simp) rfl (by kernel_rfl) (by kernel_rfl) ?_ ?_
    ·rw [rx_1];exact ⟨yI (by omega),yI (by omega),S9 hk hin,yI (by omega),yI (by omega),S9 hk2 hin,rfl,.inl ⟨rfl,rfl⟩⟩
    ·rw [rx_2];exact ⟨yI (by omega),yI (by omega),S9 hk hin,yI (by omega),yI (by omega),S9 hk2 hin,rfl,.inr ⟨rfl,rfl⟩⟩
   ·rintro e vs H ⟨rfl,h⟩;rcases h with ⟨rfl,rfl⟩ | ⟨rfl,rfl⟩
    ·exact AWp.lvd (yU G B s s2 k k2 n n2 kp kp2 m m2 i (G k) (G k2) d1 d2) fin
    ·refine AWp.preJ (AWp.lvd (yU G B s s2 k k2 n n2 kp kp2 m m2 i (G k) (G k2) d1 d2) fin) rfl ?_;refine C5.renM (H:=[some ⟨1,[.int .i64 s,.slice true (.ro k) 0 n,.slice true (.ro kp) 0 m]⟩,some ⟨1,[.int .i64 s2,.slice true (.ro k2) 0 n2,.slice true (.ro kp2) 0 m2]⟩,some (Oh G (G k) i),some (Oh G (G k2) i)]) (θ:=[0,1,3,2]) (by simp) Vd (by decide) ⟨⟨rfl,rfl⟩,⟨rfl,rfl⟩,⟨rfl,rfl⟩,⟨rfl,rfl⟩,trivial⟩ rfl ⟨rfl,rfl,rfl,rfl,rfl,rfl,trivial⟩
  ·exact hC hin
end
def Js (G:Nat→List AV) (cs:List AV) (n:Nat):Bool:=J7 (Jb G cs) n
def Ev (ps ps2:List AV) (j:Nat):Bool:=(xP ps j==xP ps2 j)&&(hP ps j==hP ps2 j)
def Qv (G:Nat→List AV):List AV→Bool:=fun xs=>match xs with
 | [.agg cs,.agg cs2,.int _ n]=>J7 (Cb G cs cs2) n.toNat
 | _=>false
def Yw:List AV→Bool:=fun xs=>match xs with
 | [.agg ps,.agg ps2,.int _ m]=>J7 (Ev ps ps2) m.toNat
 | _=>false
theorem Yt {G:Nat→List AV} {cs cs2:List AV} {n:Nat}:Qv G [.agg cs,.agg cs2,.int .i64 (n:Int)]=J7 (Cb G cs cs2) n:=by simp only [Qv,M5]
theorem dU {cs cs2:List AV} {n:Nat}:Yw [.agg cs,.agg cs2,.int .i64 (n:Int)]=J7 (Ev cs cs2) n:=by simp only [Yw,M5]
def wC (G:Nat→List AV) (cs cs2:List AV) (n nv:Nat):Bool:=Nat.beq n nv&&(Nat.ble n 1000000&&((P2 cs n&&P2 cs2 n)&&(Js G cs n&&Js G cs2 n)))
def wD (ps ps2:List AV) (m m2:Nat):Bool:=Nat.beq m m2&&(Nat.ble m 1000000&&(Y7 ps m&&Y7 ps2 m))
theorem iR {G:Nat→List AV} {cs cs2:List AV} {n nv:Nat}:wC G cs cs2 n nv=true↔n=nv∧n≤1000000∧(P2 cs n=true∧P2 cs2 n=true)∧(Js G cs n=true∧Js G cs2 n=true):=by
 unfold wC;simp only [zO];exact ⟨fun ⟨h1,h2,h3⟩=>⟨rG h1,zA2 h2,h3⟩,fun ⟨h1,h2,h3⟩=>⟨by rw [h1];exact zA9 _,Nat.ble_eq_true_of_le h2,h3⟩⟩
theorem iS {ps ps2:List AV} {m m2:Nat}:wD ps ps2 m m2=true↔m=m2∧m≤1000000∧(Y7 ps m=true∧Y7 ps2 m=true):=by
 unfold wD;simp only [zO];exact ⟨fun ⟨h1,h2,h3⟩=>⟨rG h1,zA2 h2,h3⟩,fun ⟨h1,h2,h3⟩=>⟨by rw [h1];exact zA9 _,Nat.ble_eq_true_of_le h2,h3⟩⟩
def rsQ (G:Nat→List AV) (s sv:Int) (k k2 n nv kp kp2 m m2:Nat):List AV→Bool:=Sl (wC G (G k) (G k2) n nv) [.ptr (.rw 0) 0,.ptr (.rw 1) 0,.bool false,.int .i64 0] [some ⟨1,[.int .i64 s,.slice true (.ro k) 0 n,.slice true (.ro kp) 0 m]⟩,some ⟨1,[.int .i64 sv,.slice true (.ro k2) 0 nv,.slice true (.ro kp2) 0 m2]⟩]
def rsO (G:Nat→List AV) (s sv:Int) (k k2 n nv kp kp2 m m2:Nat):LOut:=.tst (.uf 1722 (Qv G) [.agg (.ro (.var 1 k)),.agg (.ro (.var 3 k2)),.int .i64 (.ofN (.var 2 n))]) (.one (.exit 0) [.ptr (.rw 0) (.lit 0),.ptr (.rw 1) (.lit 0),.undef,.undef] [some ⟨1,.of [.int .i64 (.var 4 s),.slice true (.ro (.var 1 k)) (.lit 0) (.var 2 n),.slice true (.ro (.var 5 kp)) (.lit 0) (.var 6 m)]⟩,some ⟨1,.of [.int .i64 (.var 10 sv),.slice true (.ro (.var 3 k2)) (.lit 0) (.var 9 nv),.slice true (.ro (.var 7 kp2)) (.lit 0) (.var 31 m2)]⟩]) (.one .ret [.undef,.undef,.bool (.lit false),.undef] [some ⟨1,.of [.int .i64 (.var 4 s),.slice true (.ro (.var 1 k)) (.lit 0) (.var 2 n),.slice true (.ro (.var 5 kp)) (.lit 0) (.var 6 m)]⟩,some ⟨1,.of [.int .i64 (.var 10 sv),.slice true (.ro (.var 3 k2)) (.lit 0) (.var 9 nv),.slice true (.ro (.var 7 kp2)) (.lit 0) (.var 31 m2)]⟩])
def rdQ (G:Nat→List AV) (s sv:Int) (k k2 n nv kp kp2 m m2:Nat):List AV→Bool:=Sl (wD (G kp) (G kp2) m m2) [.ptr (.rw 0) 0,.ptr (.rw 1) 0,.undef,.int .i64 0] [some ⟨1,[.int .i64 s,.slice true (.ro k) 0 n,.slice true (.ro kp) 0 m]⟩,some ⟨1,[.int .i64 sv,.slice true (.ro k2) 0 nv,.slice true (.ro kp2) 0 m2]⟩]
def rdO (s sv:Int) (k k2 n nv kp kp2 m m2:Nat):LOut:=.tst (.uf 1721 Yw [.agg (.ro (.var 5 kp)),.agg (.ro (.var 7 kp2)),.int .i64 (.ofN (.var 6 m))]) (.one (.exit 2) [.undef,.undef,.undef,.undef] [some ⟨1,.of [.int .i64 (.var 4 s),.slice true (.ro (.var 1 k)) (.lit 0) (.var 2 n),.slice true (.ro (.var 5 kp)) (.lit 0) (.var 6 m)]⟩,some ⟨1,.of [.int .i64 (.var 10 sv),.slice true (.ro (.var 3 k2)) (.lit 0) (.var 9 nv),.slice true (.ro (.var 7 kp2)) (.lit 0) (.var 31 m2)]⟩]) (.one .ret [.undef,.undef,.bool (.lit false),.undef] [some ⟨1,.of [.int .i64 (.var 4 s),.slice true (.ro (.var 1 k)) (.lit 0) (.var 2 n),.slice true (.ro (.var 5 kp)) (.lit 0) (.var 6 m)]⟩,some ⟨1,.of [.int .i64 (.var 10 sv),.slice true (.ro (.var 3 k2)) (.lit 0) (.var 9 nv),.slice true (.ro (.var 7 kp2)) (.lit 0) (.var 31 m2)]⟩])
theorem t15 (G:Nat→List AV) (s sv:Int) (k k2 n nv kp kp2 m m2:Nat) (Q:Ex→List AV→Hp→Prop) (R:AV→Hp→Prop):vT G Q R (H5 (Dc Try.prog [] [] [(D4 1723 (rsQ G s sv k k2 n nv kp kp2 m m2) 0 95 [2,3,4,5] (rsO G s sv k k2 n nv kp kp2 m m2)),(D4 1724 (rdQ G s sv k k2 n nv kp kp2 m m2) 2 95 [2,3,4,8] (rdO s sv k k2 n nv kp kp2 m m2))] 2) 300 20 Try.f15 [.agg (.of [.int .i64 (.var 4 s),.slice true (.ro (.var 1 k)) (.lit 0) (.var 2 n),.slice true (.ro (.var 5 kp)) (.lit 0) (.var 6 m)]),.agg (.of [.int .i64 (.var 10 sv),.slice true (.ro (.var 3 k2)) (.lit 0) (.var 9 nv),.slice true (.ro (.var 7 kp2)) (.lit 0) (.var 31 m2)])] [] 0)=(
  (((s:Int)==sv)=true→((((n:Int):Int)==(nv:Int))=true→((((m:Int):Int)==(m2:Int))=true→(rsQ G s sv k k2 n nv kp kp2 m m2) [.agg ([.ptr (.rw 0) 0,.ptr (.rw 1) 0,.bool false,.int .i64 0]:List AV),.agg ([.tup [.int .i64 1,.agg ([.int .i64 s,.slice true (.ro k) 0 n,.slice true (.ro kp) 0 m]:List AV)],.tup [.int .i64 1,.agg ([.int .i64 sv,.slice true (.ro k2) 0 nv,.slice true (.ro kp2) 0 m2]:List AV)]]:List AV)]=true∧((Qv G) [.agg (G k),.agg (G k2),.int .i64 ((n:Int))]=true→(rdQ G s sv k k2 n nv kp kp2 m m2) [.agg ([.ptr (.rw 0) 0,.ptr (.rw 1) 0,.undef,.int .i64 0]:List AV),.agg ([.tup [.int .i64 1,.agg ([.int .i64 s,.slice true (.ro k) 0 n,.slice true (.ro kp) 0 m]:List AV)],.tup [.int .i64 1,.agg ([.int .i64 sv,.slice true (.ro k2) 0 nv,.slice true (.ro kp2) 0 m2]:List AV)]]:List AV)]=true∧(Yw [.agg (G kp),.agg (G kp2),.int .i64 ((m:Int))]=true→R (.bool true) [])∧(Yw [.agg (G kp),.agg (G kp2),.int .i64 ((m:Int))]=false→R (.bool false) []))∧((Qv G) [.agg (G k),.agg (G k2),.int .i64 ((n:Int))]=false→R (.bool false) []))∧((((m:Int):Int)==(m2:Int))=false→R (.bool false) []))∧((((n:Int):Int)==(nv:Int))=false→R (.bool false) []))∧(((s:Int)==sv)=false→R (.bool false) [])):=by kernel_rfl
end Go.Am
