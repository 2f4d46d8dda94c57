/-
  Images: which may be: the other loops' laws, and both functions. Images: which are the same: the trees.
-/
import Derived.Test.YthejjolnlngahaaPart10
import Derived.Test.YthejjolnlngahaaBase5
namespace Go.Am
open Go.Proofs
set_option maxRecDepth 100000
theorem maL_ok (G:Nat→List AV) (B:Nat) (ks n kp m:Nat) (s:Int):H5 (⟨Try.prog,G,B⟩:A2) 1 (A5 Try.f21 0) (F9 1716 (maQ G ks n kp m s) 0 130 [1,2,3,4] (maO ks n kp m s)):=by
 refine Bj rfl fun hc=>?_;obtain ⟨hk,hn⟩:=M6.1 hc;refine Bl (K5 (fun j=>!V4 (G ks) j) n) (fun i=>[.ptr (.rw 0) 0,.bool false,.bool (Y6 (G ks) s i),.int .i64 (i:Int)]) (fun _=>[some ⟨1,[.int .i64 s,.slice true (.ro ks) 0 n,.slice true (.ro kp) 0 m]⟩]) fun i hi=>?_;have hle:K5 (fun j=>!V4 (G ks) j) n≤n:=L1.1
 refine D4 (C:=(⟨Try.prog,G,B⟩:A2)) (by rw [show loopsOf (A5 Try.f21 0)=[] by kernel_rfl];exact D3 (inl:=[]) (ls:=[]) (M:=1) (O1 G B) (by kernel_rfl) (Ga G B) .nil) (fuel:=300) (n0:=20) (m:=1) (c:=A5 Try.f21 0) (vs:=[.ptr (.rw 0) (.lit 0),.bool (.lit false),.bool (.var 9 (Y6 (G ks) s i)),.int .i64 (.ofN (.var 8 i))]) (H:=[some ⟨1,.of [.int .i64 (.var 1 s),.slice true (.ro (.var 2 ks)) (.lit 0) (.var 3 n),.slice true (.ro (.var 4 kp)) (.lit 0) (.var 5 m)]⟩]) (by simp) ?_;rw [ma_b]
 have fb:J5 1 [some ⟨1,[.int .i64 s,.slice true (.ro ks) 0 n,.slice true (.ro kp) 0 m]⟩]=true:=by simp [J5,A4,A8]
 have hb:=Vs hi;refine ⟨fun h1=>?_,fun h1=>?_⟩
 ·have h1':=of_decide_eq_true h1;have hin:i<n:=by omega
  rw [C4 (n:=(i:Int)+1) (by omega),iF,Xh]
  have nof:V4 (G ks) i=false→Az [.agg (G ks),.int .i64 (n:Int)]=false:=fun h=>by
   rw [Cg,U9 hin h]
  refine ⟨decide_eq_true (by omega),h1,M7 hk hin,fun h2=>?_,fun h2=>?_⟩
  ·have h2':Mk (G ks) i=true:=h2;have h2s:=N7.1 h2';have e:=rszE h2';unfold sA sN sZ at e;rw [e];refine ⟨fun h3=>?_,fun h3=>?_⟩
   ·have h3:(i:Int)>0:=of_decide_eq_true h3;obtain ⟨k,rfl⟩:∃ k,i=k+1:=⟨i - 1,by omega⟩;rw [C4 (n:=((k+1:Nat):Int) - 1) (by omega),show ((k+1:Nat):Int) - 1=(k:Int) by omega,G5,zI];have hbk:=hb k (by omega);unfold V4 at hbk;rw [Bool.and_eq_true] at hbk;have hu:=zH hbk.1;have hks:=N7.1 hbk.1;simp only [sA,sR,sN,sZ] at hu hks;rw [hu];refine ⟨decide_eq_true (by omega),decide_eq_true (by omega),M7 hk (by omega),fun h4=>?_,fun h4=>?_⟩
    ·refine .inr ⟨nof ?_,rfl,.inr (C2.same (H:=[some ⟨1,[.int .i64 s,.slice true (.ro ks) 0 n,.slice true (.ro kp) 0 m]⟩]) (by simp) fb (by simp [fv,A8,vVs,vV,vB]))⟩;have h4:A0 (G ks) ((k+1)*4)<(A0 (G ks) (k*4)+(B9 (G ks) (k*4+2):Int)+A0 (G ks) (k*4+3)+255) / 256*256:=of_decide_eq_true h4;unfold V4;rw [h2',decide_eq_false];rfl;unfold sA sN sZ at h2s;show ¬A0 (G ks) (k*4)+(B9 (G ks) (k*4+2):Int)+A0 (G ks) (k*4+3)≤A0 (G ks) ((k+1)*4);omega
    ·have h4:¬A0 (G ks) ((k+1)*4)<(A0 (G ks) (k*4)+(B9 (G ks) (k*4+2):Int)+A0 (G ks) (k*4+3)+255) / 256*256:=of_decide_eq_false h4
     have lt:=Ge hi hin (by
      unfold V4;rw [h2',decide_eq_true];rfl;show A0 (G ks) (k*4)+(B9 (G ks) (k*4+2):Int)+A0 (G ks) (k*4+3)≤A0 (G ks) ((k+1)*4)
      omega)
     refine ⟨fun w1=>?_,fun w1=>⟨fun g1=>?_,fun g1=>⟨fun g2=>?_,fun g2=>?_⟩⟩⟩
     ·exact ⟨lt,.inr (C2.same (H:=[some ⟨1,[.int .i64 s,.slice true (.ro ks) 0 n,.slice true (.ro kp) 0 m]⟩]) (by simp) fb (by simp [fv,A8,A4,lR w1]))⟩
     ·exact ⟨lt,.inr (C2.same (H:=[some ⟨1,[.int .i64 s,.slice true (.ro ks) 0 n,.slice true (.ro kp) 0 m]⟩]) (by simp) fb (by simp [fv,A8,A4,lQ w1 g1]))⟩
     ·exact ⟨lt,.inr (C2.same (H:=[some ⟨1,[.int .i64 s,.slice true (.ro ks) 0 n,.slice true (.ro kp) 0 m]⟩]) (by simp) fb (by simp [fv,A8,A4,lP w1 g1 g2]))⟩
     ·exact ⟨lt,.inr (C2.same (H:=[some ⟨1,[.int .i64 s,.slice true (.ro ks) 0 n,.slice true (.ro kp) 0 m]⟩]) (by simp) fb (by simp [fv,A8,A4,lO w1 g1 g2]))⟩
   ·have h3:¬(i:Int)>0:=of_decide_eq_false h3;obtain rfl:i=0:=by omega
    have lt:=Ge hi hin (by
     unfold V4;rw [h2',decide_eq_true];rfl;unfold sA at h2s;show (0:Int)≤sA (G ks) 0
     unfold sA;omega)
    refine ⟨fun w1=>?_,fun w1=>⟨fun g1=>?_,fun g1=>⟨fun g2=>?_,fun g2=>?_⟩⟩⟩
    ·exact ⟨lt,.inr (C2.same (H:=[some ⟨1,[.int .i64 s,.slice true (.ro ks) 0 n,.slice true (.ro kp) 0 m]⟩]) (by simp) fb (by simp [fv,A8,A4,lR w1]))⟩
    ·exact ⟨lt,.inr (C2.same (H:=[some ⟨1,[.int .i64 s,.slice true (.ro ks) 0 n,.slice true (.ro kp) 0 m]⟩]) (by simp) fb (by simp [fv,A8,A4,lQ w1 g1]))⟩
    ·exact ⟨lt,.inr (C2.same (H:=[some ⟨1,[.int .i64 s,.slice true (.ro ks) 0 n,.slice true (.ro kp) 0 m]⟩]) (by simp) fb (by simp [fv,A8,A4,lP w1 g1 g2]))⟩
    ·exact ⟨lt,.inr (C2.same (H:=[some ⟨1,[.int .i64 s,.slice true (.ro ks) 0 n,.slice true (.ro kp) 0 m]⟩]) (by simp) fb (by simp [fv,A8,A4,lO w1 g1 g2]))⟩
  ·refine .inr ⟨nof ?_,rfl,.inr (C2.same (H:=[some ⟨1,[.int .i64 s,.slice true (.ro ks) 0 n,.slice true (.ro kp) 0 m]⟩]) (by simp) fb (by simp [fv,A8,vVs,vV,vB]))⟩;have h2':Mk (G ks) i=false:=h2;unfold V4;rw [h2'];rfl
 ·have h1':=of_decide_eq_false h1;have e:i=n:=by omega
  refine .inl ⟨?_,rfl,.inl ⟨?_,rfl⟩⟩
  ·show Az [.agg (G ks),.int .i64 (n:Int)]=true;rw [Cg];exact Hr hi (by omega)
  ·show wk [.ptr (.rw 0) 0,.bool false,.bool (By [.agg (G ks),.int .i64 (n:Int),.int .i64 s]),.undef] _;rw [Wf,←e];simp [wk]
theorem Jv {cs ps:List AV} {n m:Nat}:bQ cs n ps m=true↔(K1 cs n=true∧n≤1000000)∧(V6 ps m=true∧m≤1000000)∧G9 (V4 cs) n=true:=by
 unfold bQ;rw [Bool.and_eq_true,Bool.and_eq_true,M6,Et]
theorem cdL_ok (G:Nat→List AV) (B:Nat) (ks n kp m:Nat) (s:Int):H5 (⟨Try.prog,G,B⟩:A2) 1 (A5 Try.f20 1) (F9 1715 (cdQ G ks n kp m s) 2 98 [1,2,3,4,73,74,75] (cdO ks n kp m s)):=by
 refine Bj rfl fun hc=>?_;obtain ⟨hk,⟨hp,hm⟩,hs⟩:=Jv.1 hc;have hk':=M6.2 hk;refine Bl (K5 (fun j=>!Aq (G ks) n (G kp) j) m) (fun i=>[.ptr (.rw 0) 0,.int .i64 0,.bool (By [.agg (G ks),.int .i64 (n:Int),.int .i64 s]),.int .i64 (Nx (G kp) i),.slice true (.ro kp) 0 m,.int .i64 (m:Int),.int .i64 (i:Int)]) (fun _=>[some ⟨1,[.int .i64 s,.slice true (.ro ks) 0 n,.slice true (.ro kp) 0 m]⟩]) fun i hi=>?_;have hle:K5 (fun j=>!Aq (G ks) n (G kp) j) m≤m:=L1.1
 refine D4 (C:=(⟨Try.prog,G,B⟩:A2)) (by rw [show loopsOf (A5 Try.f20 1)=[] by kernel_rfl];exact D3 (inl:=[]) (ls:=[]) (M:=1) (O1 G B) (by kernel_rfl) (Jj G B) .nil) (fuel:=300) (n0:=20) (m:=1) (c:=A5 Try.f20 1) (vs:=[.ptr (.rw 0) (.lit 0),.int .i64 (.lit 0),.bool (.var 9 (By [.agg (G ks),.int .i64 (n:Int),.int .i64 s])),.int .i64 (.var 10 (Nx (G kp) i)),.slice true (.ro (.var 4 kp)) (.lit 0) (.var 5 m),.int .i64 (.ofN (.var 5 m)),.int .i64 (.ofN (.var 8 i))]) (H:=[some ⟨1,.of [.int .i64 (.var 1 s),.slice true (.ro (.var 2 ks)) (.lit 0) (.var 3 n),.slice true (.ro (.var 4 kp)) (.lit 0) (.var 5 m)]⟩]) (by simp) ?_
 rw [ck_d];have fb:J5 1 [some ⟨1,[.int .i64 s,.slice true (.ro ks) 0 n,.slice true (.ro kp) 0 m]⟩]=true:=by simp [J5,A4,A8]
 have pv:=kQ hs hp (by omega) (Vs hi);refine ⟨fun h1=>?_,fun h1=>?_⟩
 ·have h1':=of_decide_eq_true h1;have hin:i<m:=by omega
  have hx:=(N9 hp hin).2.2;rw [C4 (n:=(i:Int)+1) (by omega),Fd]
  have nof:Aq (G ks) n (G kp) i=false→Gs [.agg (G ks),.int .i64 (n:Int),.agg (G kp),.int .i64 (m:Int)]=false:=fun h=>by
   rw [Hl,U9 hin h]
  refine ⟨decide_eq_true (by omega),h1,(N9 hp hin).1,fun h2=>?_,fun h2=>⟨hk',fun h3=>?_,fun h3=>?_⟩⟩
  ·refine .inr ⟨nof ?_,rfl,.inr (C2.same (H:=[some ⟨1,[.int .i64 s,.slice true (.ro ks) 0 n,.slice true (.ro kp) 0 m]⟩]) (by simp) fb (by simp [fv,A8,vVs,vV,vI]))⟩;have h2:A0 (G kp) (i*2)<Nx (G kp) i:=of_decide_eq_true h2;unfold Aq;rw [decide_eq_false (by unfold xP;omega)];rfl
  ·have h2:¬A0 (G kp) (i*2)<Nx (G kp) i:=of_decide_eq_false h2;have h3:((U5 (G ks) n (xP (G kp) i) (hP (G kp) i):Nat):Int)<(n:Int):=of_decide_eq_true h3;have lt:=Ge hi hin (by unfold Aq;rw [decide_eq_true (by unfold xP;omega),decide_eq_true (by omega)];rfl);have hx2:=fK (h:=hP (G kp) i) hs (x:=xP (G kp) i) (by unfold xP at hx ⊢;omega) (by omega);have hw:2≤W9 (hP (G kp) i)∧W9 (hP (G kp) i)≤4:=by unfold W9;split<;>omega
   have e:IntKind.wrap .i64 (A0 (G kp) (i*2)+Od [.bool (E7 (G kp) (i*2+1))])=Nx (G kp) (i+1):=by
    show IntKind.wrap .i64 (xP (G kp) i+W9 (hP (G kp) i))=xP (G kp) i+W9 (hP (G kp) i);exact C4 (by unfold xP at *;omega)
   rw [e];exact ⟨lt,.inr (C2.same (H:=[some ⟨1,[.int .i64 s,.slice true (.ro ks) 0 n,.slice true (.ro kp) 0 m]⟩]) (by simp) fb (by simp [fv,A8,A4]))⟩
  ·refine .inr ⟨nof ?_,rfl,.inr (C2.same (H:=[some ⟨1,[.int .i64 s,.slice true (.ro ks) 0 n,.slice true (.ro kp) 0 m]⟩]) (by simp) fb (by simp [fv,A8,vVs,vV,vI]))⟩;have h3:¬((U5 (G ks) n (xP (G kp) i) (hP (G kp) i):Nat):Int)<(n:Int):=of_decide_eq_false h3;unfold Aq;rw [decide_eq_false (p:=U5 (G ks) n (xP (G kp) i) (hP (G kp) i)<n) (by omega),Bool.and_false]
 ·have h1':=of_decide_eq_false h1;refine .inl ⟨?_,rfl,.inl ⟨?_,rfl⟩⟩
  ·show Gs [.agg (G ks),.int .i64 (n:Int),.agg (G kp),.int .i64 (m:Int)]=true;rw [Hl];exact Hr hi (by omega)
  ·show wk [.ptr (.rw 0) 0,.int .i64 0,.bool (By [.agg (G ks),.int .i64 (n:Int),.int .i64 s]),.undef,.undef,.undef,.undef] _;simp [wk]
theorem mdL_ok (G:Nat→List AV) (B:Nat) (ks n kp m:Nat) (s:Int):H5 (⟨Try.prog,G,B⟩:A2) 1 (A5 Try.f21 1) (F9 1717 (mdQ G ks n kp m s) 2 130 [1,2,3,6] (mdO ks n kp m s)):=by
 refine Bj rfl fun hc=>?_;obtain ⟨hk,⟨hp,hm⟩,hs⟩:=Jv.1 hc;have hk':=M6.2 hk;refine Bl (K5 (fun j=>!Aq (G ks) n (G kp) j) m) (fun i=>[.ptr (.rw 0) 0,.bool false,.bool (By [.agg (G ks),.int .i64 (n:Int),.int .i64 s]),.int .i64 (i:Int)]) (fun _=>[some ⟨1,[.int .i64 s,.slice true (.ro ks) 0 n,.slice true (.ro kp) 0 m]⟩]) fun i hi=>?_;have hle:K5 (fun j=>!Aq (G ks) n (G kp) j) m≤m:=L1.1
 refine D4 (C:=(⟨Try.prog,G,B⟩:A2)) (by rw [show loopsOf (A5 Try.f21 1)=[] by kernel_rfl];exact D3 (inl:=[]) (ls:=[]) (M:=1) (O1 G B) (by kernel_rfl) (Jj G B) .nil) (fuel:=300) (n0:=20) (m:=1) (c:=A5 Try.f21 1) (vs:=[.ptr (.rw 0) (.lit 0),.bool (.lit false),.bool (.var 9 (By [.agg (G ks),.int .i64 (n:Int),.int .i64 s])),.int .i64 (.ofN (.var 8 i))]) (H:=[some ⟨1,.of [.int .i64 (.var 1 s),.slice true (.ro (.var 2 ks)) (.lit 0) (.var 3 n),.slice true (.ro (.var 4 kp)) (.lit 0) (.var 5 m)]⟩]) (by simp) ?_;rw [ma_d]
 have fb:J5 1 [some ⟨1,[.int .i64 s,.slice true (.ro ks) 0 n,.slice true (.ro kp) 0 m]⟩]=true:=by simp [J5,A4,A8]
 have pv:=kQ hs hp (by omega) (Vs hi);refine ⟨fun h1=>?_,fun h1=>?_⟩
 ·have h1':=of_decide_eq_true h1;have hin:i<m:=by omega
  have hx:=(N9 hp hin).2.2;rw [C4 (n:=(i:Int)+1) (by omega),Ln]
  have nof:Aq (G ks) n (G kp) i=false→Gs [.agg (G ks),.int .i64 (n:Int),.agg (G kp),.int .i64 (m:Int)]=false:=fun h=>by
   rw [Hl,U9 hin h]
  refine ⟨decide_eq_true (by omega),h1,(N9 hp hin).1,fun h2=>?_,fun h2=>⟨hk',fun h3=>?_,fun h3=>?_⟩⟩
  ·refine .inr ⟨nof ?_,rfl,.inr (C2.same (H:=[some ⟨1,[.int .i64 s,.slice true (.ro ks) 0 n,.slice true (.ro kp) 0 m]⟩]) (by simp) fb (by simp [fv,A8,vVs,vV,vB]))⟩;have h2:A0 (G kp) (i*2)<0:=of_decide_eq_true h2;unfold Aq;rw [decide_eq_false (by unfold xP;omega)];rfl
  ·have h2:¬xP (G kp) i<0:=of_decide_eq_false h2;have h3:Pm (G ks) n (xP (G kp) i) (hP (G kp) i)<0:=of_decide_eq_true h3;refine .inr ⟨nof ?_,rfl,.inr (C2.same (H:=[some ⟨1,[.int .i64 s,.slice true (.ro ks) 0 n,.slice true (.ro kp) 0 m]⟩]) (by simp) fb (by simp [fv,A8,vVs,vV,vB]))⟩;unfold Aq;rw [fL hs (by omega),decide_eq_false (p:=inN (G ks) n (xP (G kp) i) (hP (G kp) i)<n) (by unfold Pm at h3;split at h3<;>omega),Bool.and_false]
  ·have h2:¬xP (G kp) i<0:=of_decide_eq_false h2;have h3:¬Pm (G ks) n (xP (G kp) i) (hP (G kp) i)<0:=of_decide_eq_false h3
   have hd:U5 (G ks) n (xP (G kp) i) (hP (G kp) i)<n:=by
    rw [fL hs (by omega)];unfold Pm at h3;split at h3<;>omega
   refine ⟨fun h4=>?_,fun h4=>?_⟩
   ·have h4:(i:Int)>0:=of_decide_eq_true h4;obtain ⟨k,rfl⟩:∃ k,i=k+1:=⟨i - 1,by omega⟩;rw [C4 (n:=((k+1:Nat):Int) - 1) (by omega),show ((k+1:Nat):Int) - 1=(k:Int) by omega,G5]
    have e:IntKind.wrap .i64 (A0 (G kp) (k*2)+Od [.bool (E7 (G kp) (k*2+1))])=Nx (G kp) (k+1):=C4 (by
     have:Nx (G kp) (k+1)=A0 (G kp) (k*2)+Od [.bool (E7 (G kp) (k*2+1))]:=rfl
     omega)
    rw [e];refine ⟨decide_eq_true (by omega),decide_eq_true (by omega),(N9 hp (by omega)).2.1,decide_eq_true (by omega),decide_eq_true (by omega),(N9 hp (by omega)).1,fun h5=>?_,fun h5=>?_⟩
    ·refine .inr ⟨nof ?_,rfl,.inr (C2.same (H:=[some ⟨1,[.int .i64 s,.slice true (.ro ks) 0 n,.slice true (.ro kp) 0 m]⟩]) (by simp) fb (by simp [fv,A8,vVs,vV,vB]))⟩;have h5:Nx (G kp) (k+1)>xP (G kp) (k+1):=of_decide_eq_true h5;unfold Aq;rw [decide_eq_false (by omega)];rfl
    ·have h5:¬Nx (G kp) (k+1)>xP (G kp) (k+1):=of_decide_eq_false h5;have lt:=Ge hi hin (by unfold Aq;rw [decide_eq_true (by omega),decide_eq_true hd];rfl);exact ⟨lt,.inr (C2.same (H:=[some ⟨1,[.int .i64 s,.slice true (.ro ks) 0 n,.slice true (.ro kp) 0 m]⟩]) (by simp) fb (by simp [fv,A8,A4]))⟩
   ·have h4:¬(i:Int)>0:=of_decide_eq_false h4;obtain rfl:i=0:=by omega
    have lt:=Ge hi hin (by unfold Aq;rw [decide_eq_true (by show (0:Int)≤_;omega),decide_eq_true hd];rfl);exact ⟨lt,.inr (C2.same (H:=[some ⟨1,[.int .i64 s,.slice true (.ro ks) 0 n,.slice true (.ro kp) 0 m]⟩]) (by simp) fb (by simp [fv,A8,A4]))⟩
 ·have h1':=of_decide_eq_false h1;refine .inl ⟨?_,rfl,.inl ⟨?_,rfl⟩⟩
  ·show Gs [.agg (G ks),.int .i64 (n:Int),.agg (G kp),.int .i64 (m:Int)]=true;rw [Hl];exact Hr hi (by omega)
  ·show wk [.ptr (.rw 0) 0,.bool false,.bool (By [.agg (G ks),.int .i64 (n:Int),.int .i64 s]),.undef] _;simp [wk]
def I7 (s:Int) (cs:List AV) (n:Nat) (ps:List AV) (m:Nat):Bool:=(decide (n≤8)&&decide (m≤512))&&((decide (0≤s)&&decide (s % 4=0))&&(G9 (V4 cs) n&&(G9 (Aq cs n ps) m&&Y6 cs s n)))
def S5 (s:Int) (cs:List AV) (n:Nat) (ps:List AV) (m:Nat):Int:=if I7 s cs n ps m then 0 else 2
theorem aX {a:Int} (h:0≤a):((Int.tmod a 4:Int)==0)=decide (a % 4=0):=by
 rw [Int.tmod_eq_emod_of_nonneg h,Bool.eq_iff_iff,beq_iff_eq,decide_eq_true_iff]
theorem No (G:Nat→List AV) (B:Nat) (ks n kp m:Nat) (s:Int) (hk:T6 [.agg (G ks),.int .i64 (n:Int)]=true) (hp:Ov [.agg (G kp),.int .i64 (m:Int)]=true):ACalls (⟨Try.prog,G,B⟩:A2) 20 [.agg [.int .i64 s,.slice true (.ro ks) 0 n,.slice true (.ro kp) 0 m]] [] fun v _=>v=.int .i64 (S5 s (G ks) n (G kp) m):=by
 have:=C7 (C:=(⟨Try.prog,G,B⟩:A2)) (fuel:=300) (n0:=20) (f:=20) (fn:=Try.f20) (args:=[.agg (.of [.int .i64 (.var 1 s),.slice true (.ro (.var 2 ks)) (.lit 0) (.var 3 n),.slice true (.ro (.var 4 kp)) (.lit 0) (.var 5 m)])]) (H:=[]) (keep:=0)
  (R:=fun v _=>v=.int .i64 (S5 s (G ks) n (G kp) m)) (D3 (inl:=[]) (ls:=[(F9 1714 (ckQ G ks n kp m s) 0 98 [1,2,3,4,31,32,33] (ckO ks n kp m s)),(F9 1715 (cdQ G ks n kp m s) 2 98 [1,2,3,4,73,74,75] (cdO ks n kp m s))]) (M:=1) (O1 G B) (by kernel_rfl) (Jj G B) (.cast (.cons (i:=0) (by kernel_rfl) rfl (ckL_ok G B ks n kp m s) (.cons (i:=2) (by kernel_rfl) rfl (cdL_ok G B ks n kp m s) .nil)) (by kernel_rfl))) (by kernel_rfl) (by kernel_rfl) (by kernel_rfl) (by
  rw [t20,Cg,Hl,Wf];have no:I7 s (G ks) n (G kp) m=false→S5 s (G ks) n (G kp) m=2:=fun h=>by unfold S5;rw [h];rfl
  refine ⟨fun h1=>?_,fun h1=>⟨fun h2=>?_,fun h2=>⟨fun h3=>?_,fun h3=>⟨fun h4=>?_,fun h4=>?_⟩⟩⟩⟩
  ·have h1:(n:Int)>8:=of_decide_eq_true h1;rw [no (by unfold I7;rw [decide_eq_false (p:=n≤8) (by omega)];rfl)]
  ·have h2:(m:Int)>512:=of_decide_eq_true h2;rw [no (by unfold I7;rw [decide_eq_false (p:=m≤512) (by omega),Bool.and_false];rfl)]
  ·have h3:s<0:=of_decide_eq_true h3;rw [no (by unfold I7;rw [decide_eq_false (p:=0≤s) (by omega),Bool.false_and,Bool.false_and,Bool.and_false])]
  ·have h1:¬(n:Int)>8:=of_decide_eq_false h1;have h2:¬(m:Int)>512:=of_decide_eq_false h2;have h3:¬s<0:=of_decide_eq_false h3;rw [aX (by omega)] at h4;have h4:=of_decide_eq_true h4
   have em:I7 s (G ks) n (G kp) m=(G9 (V4 (G ks)) n&&(G9 (Aq (G ks) n (G kp)) m&&Y6 (G ks) s n)):=by
    unfold I7;rw [decide_eq_true (p:=n≤8) (by omega),decide_eq_true (p:=m≤512) (by omega),decide_eq_true (p:=0≤s) (by omega),decide_eq_true h4];rfl
   refine ⟨X2 hk rfl rfl,fun e1=>⟨X2 (by rw [Jv];exact ⟨M6.1 hk,Et.1 hp,e1⟩) rfl rfl,fun e2=>⟨fun e3=>?_,fun e3=>?_⟩,fun e2=>?_⟩,fun e1=>?_⟩
   ·unfold S5;rw [em,e1,e2,e3];rfl
   ·rw [no (by rw [em,e3,Bool.and_false,Bool.and_false])]
   ·rw [no (by rw [em,e2,Bool.false_and,Bool.and_false])]
   ·rw [no (by rw [em,e1,Bool.false_and])]
  ·have h3:¬s<0:=of_decide_eq_false h3;rw [aX (by omega)] at h4
   rw [no (by unfold I7;rw [h4,Bool.and_false,Bool.false_and,Bool.and_false])])
 exact this.monoK fun v H h=>h
theorem sW (G:Nat→List AV) (B:Nat) (ks n kp m:Nat) (s:Int) (hk:T6 [.agg (G ks),.int .i64 (n:Int)]=true) (hp:Ov [.agg (G kp),.int .i64 (m:Int)]=true):ACalls (⟨Try.prog,G,B⟩:A2) 21 [.agg [.int .i64 s,.slice true (.ro ks) 0 n,.slice true (.ro kp) 0 m]] [] fun v _=>v=.bool (I7 s (G ks) n (G kp) m):=by
 have:=C7 (C:=(⟨Try.prog,G,B⟩:A2)) (fuel:=300) (n0:=20) (f:=21) (fn:=Try.f21) (args:=[.agg (.of [.int .i64 (.var 1 s),.slice true (.ro (.var 2 ks)) (.lit 0) (.var 3 n),.slice true (.ro (.var 4 kp)) (.lit 0) (.var 5 m)])]) (H:=[]) (keep:=0)
  (R:=fun v _=>v=.bool (I7 s (G ks) n (G kp) m)) (D3 (inl:=[]) (ls:=[(F9 1716 (maQ G ks n kp m s) 0 130 [1,2,3,4] (maO ks n kp m s)),(F9 1717 (mdQ G ks n kp m s) 2 130 [1,2,3,6] (mdO ks n kp m s))]) (M:=1) (O1 G B) (by kernel_rfl) (Jj G B) (.cast (.cons (i:=0) (by kernel_rfl) rfl (maL_ok G B ks n kp m s) (.cons (i:=2) (by kernel_rfl) rfl (mdL_ok G B ks n kp m s) .nil)) (by kernel_rfl))) (by kernel_rfl) (by kernel_rfl) (by kernel_rfl) (by
  rw [t21,Cg,Hl,Wf];refine ⟨fun h1=>?_,fun h1=>⟨fun h2=>?_,fun h2=>⟨fun h3=>?_,fun h3=>⟨fun h4=>?_,fun h4=>?_⟩⟩⟩⟩
  ·have h1:(n:Int)>8:=of_decide_eq_true h1;rw [(by unfold I7;rw [decide_eq_false (p:=n≤8) (by omega)];rfl:I7 s (G ks) n (G kp) m=false)]
  ·have h2:(m:Int)>512:=of_decide_eq_true h2;rw [(by unfold I7;rw [decide_eq_false (p:=m≤512) (by omega),Bool.and_false];rfl:I7 s (G ks) n (G kp) m=false)]
  ·have h3:s<0:=of_decide_eq_true h3;rw [(by unfold I7;rw [decide_eq_false (p:=0≤s) (by omega),Bool.false_and,Bool.false_and,Bool.and_false]:I7 s (G ks) n (G kp) m=false)]
  ·have h1:¬(n:Int)>8:=of_decide_eq_false h1;have h2:¬(m:Int)>512:=of_decide_eq_false h2;have h3:¬s<0:=of_decide_eq_false h3;rw [aX (by omega)] at h4;have h4:=of_decide_eq_true h4
   have em:I7 s (G ks) n (G kp) m=(G9 (V4 (G ks)) n&&(G9 (Aq (G ks) n (G kp)) m&&Y6 (G ks) s n)):=by
    unfold I7;rw [decide_eq_true (p:=n≤8) (by omega),decide_eq_true (p:=m≤512) (by omega),decide_eq_true (p:=0≤s) (by omega),decide_eq_true h4];rfl
   refine ⟨X2 hk rfl rfl,fun e1=>⟨X2 (by rw [Jv];exact ⟨M6.1 hk,Et.1 hp,e1⟩) rfl rfl,fun e2=>?_,fun e2=>?_⟩,fun e1=>?_⟩
   ·rw [em,e1,e2];rfl
   ·rw [em,e2,Bool.false_and,Bool.and_false]
   ·rw [em,e1,Bool.false_and]
  ·have h3:¬s<0:=of_decide_eq_false h3;rw [aX (by omega)] at h4
   rw [(by unfold I7;rw [h4,Bool.and_false,Bool.false_and,Bool.and_false]:I7 s (G ks) n (G kp) m=false)])
 exact this.monoK fun v H h=>h
end Go.Am
namespace Go.Am
open Go.Proofs
set_option maxRecDepth 100000
end Go.Am
namespace Go.Am
open Go.Proofs
set_option maxRecDepth 100000
def Dl:Code→Code
 | .seq a _=>a
 | c=>c
def I2:Code→Code
 | .seq _ b=>b
 | c=>c
def Tw:Code→Code
 | .block _ c=>c
 | c=>c
def Xk:Code→Array Oper
 | .region _ o _=>o
 | _=>#[]
def cT (c:Code):Array Oper:=Xk (Dl (Tw (Dl (I2 c))))
theorem rx_a (G:Nat→List AV) (s s2:Int) (k k2 n n2 kp kp2 m m2 i:Nat) (Q:Ex→List AV→Hp→Prop) (R:AV→Hp→Prop):vT G Q R (E8 (Dc Try.prog [] [] [] 2) 300 20 2 (Dl (A5 Try.f15 0)) 95 [2,3,4,5] [.ptr (.rw 0) (.lit 0),.ptr (.rw 1) (.lit 0),.bool (.lit false),.int .i64 (.ofN (.var 8 i))] [some ⟨1,.of [.int .i64 (.var 4 s),.slice true (.ro (.var 1 k)) (.lit 0) (.var 2 n),.slice true (.ro (.var 5 kp)) (.lit 0) (.var 6 m)]⟩,some ⟨1,.of [.int .i64 (.var 10 s2),.slice true (.ro (.var 3 k2)) (.lit 0) (.var 9 n2),.slice true (.ro (.var 7 kp2)) (.lit 0) (.var 31 m2)]⟩])=(
  (decide ((((i:Nat):Int):Int)<((n:Nat):Int))=true→Q .normal [.ptr (.rw 0) (0),.ptr (.rw 1) (0),.bool (false),.int .i64 (((i:Nat):Int))] [some ⟨1,([.int .i64 (s),.slice true (.ro (k)) (0) (n),.slice true (.ro (kp)) (0) (m)]:List AV)⟩,some ⟨1,([.int .i64 (s2),.slice true (.ro (k2)) (0) (n2),.slice true (.ro (kp2)) (0) (m2)]:List AV)⟩])∧(decide ((((i:Nat):Int):Int)<((n:Nat):Int))=false→Q (.exit 0) [.ptr (.rw 0) (0),.ptr (.rw 1) (0),.bool (false),.int .i64 (((i:Nat):Int))] [some ⟨1,([.int .i64 (s),.slice true (.ro (k)) (0) (n),.slice true (.ro (kp)) (0) (m)]:List AV)⟩,some ⟨1,([.int .i64 (s2),.slice true (.ro (k2)) (0) (n2),.slice true (.ro (kp2)) (0) (m2)]:List AV)⟩])):=by kernel_rfl
theorem rx_1 (G:Nat→List AV) (s s2:Int) (k k2 n n2 kp kp2 m m2 i:Nat) (Q:Ex→List AV→Hp→Prop) (R:AV→Hp→Prop):vT G Q R (E8 (Dc Try.prog [] [] [] 2) 301 20 2 (.region 6 (Ms (cT (A5 Try.f15 0)) 10 11).toArray true) 95 [2,3,4,5,6,7] [.ptr (.rw 0) (.lit 0),.ptr (.rw 1) (.lit 0),.bool (.lit false),.int .i64 (.ofN (.var 8 i)),.undef,.undef] [some ⟨1,.of [.int .i64 (.var 4 s),.slice true (.ro (.var 1 k)) (.lit 0) (.var 2 n),.slice true (.ro (.var 5 kp)) (.lit 0) (.var 6 m)]⟩,some ⟨1,.of [.int .i64 (.var 10 s2),.slice true (.ro (.var 3 k2)) (.lit 0) (.var 9 n2),.slice true (.ro (.var 7 kp2)) (.lit 0) (.var 31 m2)]⟩])=(
  decide ((0:Int)≤((i:Nat):Int))=true∧decide ((((i:Nat):Int):Int)<((n:Nat):Int))=true∧E2 (G (k)) ((i)*4) [.int .i64,.int .i64,.sl,.int .i64]=true∧decide ((0:Int)≤((i:Nat):Int))=true∧decide ((((i:Nat):Int):Int)<((n2:Nat):Int))=true∧E2 (G (k2)) ((i)*4) [.int .i64,.int .i64,.sl,.int .i64]=true∧Q .normal [.ptr (.rw 0) (0),.ptr (.rw 1) (0),.bool (false),.int .i64 (((i:Nat):Int)),.ptr (.rw 2) (0),.ptr (.rw 3) (0)] [some ⟨1,([.int .i64 (s),.slice true (.ro (k)) (0) (n),.slice true (.ro (kp)) (0) (m)]:List AV)⟩,some ⟨1,([.int .i64 (s2),.slice true (.ro (k2)) (0) (n2),.slice true (.ro (kp2)) (0) (m2)]:List AV)⟩,some ⟨1,([.int .i64 (A0 (G (k)) ((i)*4)),.int .i64 (A0 (G (k)) ((i)*4+1)),.slice true (.ro (C9 (G (k)) ((i)*4+2))) (E5 (G (k)) ((i)*4+2)) (B9 (G (k)) ((i)*4+2)),.int .i64 (A0 (G (k)) ((i)*4+3))]:List AV)⟩,some ⟨1,([.int .i64 (A0 (G (k2)) ((i)*4)),.int .i64 (A0 (G (k2)) ((i)*4+1)),.slice true (.ro (C9 (G (k2)) ((i)*4+2))) (E5 (G (k2)) ((i)*4+2)) (B9 (G (k2)) ((i)*4+2)),.int .i64 (A0 (G (k2)) ((i)*4+3))]:List AV)⟩]):=by kernel_rfl
theorem rx_2 (G:Nat→List AV) (s s2:Int) (k k2 n n2 kp kp2 m m2 i:Nat) (Q:Ex→List AV→Hp→Prop) (R:AV→Hp→Prop):vT G Q R (E8 (Dc Try.prog [] [] [] 2) 301 20 2 (.region 6 (Td (cT (A5 Try.f15 0)) 10 11).toArray true) 95 [2,3,4,5,6,7] [.ptr (.rw 0) (.lit 0),.ptr (.rw 1) (.lit 0),.bool (.lit false),.int .i64 (.ofN (.var 8 i)),.undef,.undef] [some ⟨1,.of [.int .i64 (.var 4 s),.slice true (.ro (.var 1 k)) (.lit 0) (.var 2 n),.slice true (.ro (.var 5 kp)) (.lit 0) (.var 6 m)]⟩,some ⟨1,.of [.int .i64 (.var 10 s2),.slice true (.ro (.var 3 k2)) (.lit 0) (.var 9 n2),.slice true (.ro (.var 7 kp2)) (.lit 0) (.var 31 m2)]⟩])=(
  decide ((0:Int)≤((i:Nat):Int))=true∧decide ((((i:Nat):Int):Int)<((n:Nat):Int))=true∧E2 (G (k)) ((i)*4) [.int .i64,.int .i64,.sl,.int .i64]=true∧decide ((0:Int)≤((i:Nat):Int))=true∧decide ((((i:Nat):Int):Int)<((n2:Nat):Int))=true∧E2 (G (k2)) ((i)*4) [.int .i64,.int .i64,.sl,.int .i64]=true∧Q .normal [.ptr (.rw 0) (0),.ptr (.rw 1) (0),.bool (false),.int .i64 (((i:Nat):Int)),.ptr (.rw 3) (0),.ptr (.rw 2) (0)] [some ⟨1,([.int .i64 (s),.slice true (.ro (k)) (0) (n),.slice true (.ro (kp)) (0) (m)]:List AV)⟩,some ⟨1,([.int .i64 (s2),.slice true (.ro (k2)) (0) (n2),.slice true (.ro (kp2)) (0) (m2)]:List AV)⟩,some ⟨1,([.int .i64 (A0 (G (k2)) ((i)*4)),.int .i64 (A0 (G (k2)) ((i)*4+1)),.slice true (.ro (C9 (G (k2)) ((i)*4+2))) (E5 (G (k2)) ((i)*4+2)) (B9 (G (k2)) ((i)*4+2)),.int .i64 (A0 (G (k2)) ((i)*4+3))]:List AV)⟩,some ⟨1,([.int .i64 (A0 (G (k)) ((i)*4)),.int .i64 (A0 (G (k)) ((i)*4+1)),.slice true (.ro (C9 (G (k)) ((i)*4+2))) (E5 (G (k)) ((i)*4+2)) (B9 (G (k)) ((i)*4+2)),.int .i64 (A0 (G (k)) ((i)*4+3))]:List AV)⟩]):=by kernel_rfl
theorem ry_1 (G:Nat→List AV) (s s2:Int) (k k2 n n2 kp kp2 m m2 i:Nat) (a1 r1 z1 a2 r2 z2:Int) (d1 o1 e1 d2 o2 e2:Nat) (Q:Ex→List AV→Hp→Prop) (R:AV→Hp→Prop):vT G Q R (E8 (Dc Try.prog [] [] [] 2) 300 20 2 (I2 (Tw (Dl (I2 (A5 Try.f15 0))))) 95 [2,3,4,5,6,7] [.ptr (.rw 0) (.lit 0),.ptr (.rw 1) (.lit 0),.bool (.lit false),.int .i64 (.ofN (.var 8 i)),.ptr (.rw 2) (.lit 0),.ptr (.rw 3) (.lit 0)] [some ⟨1,.of [.int .i64 (.var 4 s),.slice true (.ro (.var 1 k)) (.lit 0) (.var 2 n),.slice true (.ro (.var 5 kp)) (.lit 0) (.var 6 m)]⟩,some ⟨1,.of [.int .i64 (.var 10 s2),.slice true (.ro (.var 3 k2)) (.lit 0) (.var 9 n2),.slice true (.ro (.var 7 kp2)) (.lit 0) (.var 31 m2)]⟩,some ⟨1,.of [.int .i64 (.var 11 a1),.int .i64 (.var 12 r1),.slice true (.ro (.var 13 d1)) (.var 14 o1) (.var 15 e1),.int .i64 (.var 16 z1)]⟩,some ⟨1,.of [.int .i64 (.var 21 a2),.int .i64 (.var 22 r2),.slice true (.ro (.var 23 d2)) (.var 24 o2) (.var 25 e2),.int .i64 (.var 26 z2)]⟩])=(
  (((a1:Int)==a2)=true→(((r1:Int)==r2)=true→leB (o1+e1) (List.length (G (d1)))=true∧u8s (A7 (G (d1)) (o1) (e1))=true∧leB (o2+e2) (List.length (G (d2)))=true∧u8s (A7 (G (d2)) (o2) (e2))=true∧((((O4 (A7 (G (d1)) (o1) (e1))):List UInt8)==(O4 (A7 (G (d2)) (o2) (e2))))=true→(((z1:Int)==z2)=true→Q .normal [.ptr (.rw 0) (0),.ptr (.rw 1) (0),.bool (false),.int .i64 (((i:Nat):Int)),.ptr (.rw 2) (0),.ptr (.rw 3) (0)] [some ⟨1,([.int .i64 (s),.slice true (.ro (k)) (0) (n),.slice true (.ro (kp)) (0) (m)]:List AV)⟩,some ⟨1,([.int .i64 (s2),.slice true (.ro (k2)) (0) (n2),.slice true (.ro (kp2)) (0) (m2)]:List AV)⟩,some ⟨1,([.int .i64 (a1),.int .i64 (r1),.slice true (.ro (d1)) (o1) (e1),.int .i64 (z1)]:List AV)⟩,some ⟨1,([.int .i64 (a2),.int .i64 (r2),.slice true (.ro (d2)) (o2) (e2),.int .i64 (z2)]:List AV)⟩])∧(((z1:Int)==z2)=false→Q .ret [.ptr (.rw 0) (0),.ptr (.rw 1) (0),.bool (false),.int .i64 (((i:Nat):Int)),.ptr (.rw 2) (0),.ptr (.rw 3) (0)] [some ⟨1,([.int .i64 (s),.slice true (.ro (k)) (0) (n),.slice true (.ro (kp)) (0) (m)]:List AV)⟩,some ⟨1,([.int .i64 (s2),.slice true (.ro (k2)) (0) (n2),.slice true (.ro (kp2)) (0) (m2)]:List AV)⟩,some ⟨1,([.int .i64 (a1),.int .i64 (r1),.slice true (.ro (d1)) (o1) (e1),.int .i64 (z1)]:List AV)⟩,some ⟨1,([.int .i64 (a2),.int .i64 (r2),.slice true (.ro (d2)) (o2) (e2),.int .i64 (z2)]:List AV)⟩]))∧((((O4 (A7 (G (d1)) (o1) (e1))):List UInt8)==(O4 (A7 (G (d2)) (o2) (e2))))=false→
 Q .ret [.ptr (.rw 0) (0),.ptr (.rw 1) (0),.bool (false),.int .i64 (((i:Nat):Int)),.ptr (.rw 2) (0),.ptr (.rw 3) (0)] [some ⟨1,([.int .i64 (s),.slice true (.ro (k)) (0) (n),.slice true (.ro (kp)) (0) (m)]:List AV)⟩,some ⟨1,([.int .i64 (s2),.slice true (.ro (k2)) (0) (n2),.slice true (.ro (kp2)) (0) (m2)]:List AV)⟩,some ⟨1,([.int .i64 (a1),.int .i64 (r1),.slice true (.ro (d1)) (o1) (e1),.int .i64 (z1)]:List AV)⟩,some ⟨1,([.int .i64 (a2),.int .i64 (r2),.slice true (.ro (d2)) (o2) (e2),.int .i64 (z2)]:List AV)⟩]))∧(((r1:Int)==r2)=false→Q .ret [.ptr (.rw 0) (0),.ptr (.rw 1) (0),.bool (false),.int .i64 (((i:Nat):Int)),.ptr (.rw 2) (0),.ptr (.rw 3) (0)] [some ⟨1,([.int .i64 (s),.slice true (.ro (k)) (0) (n),.slice true (.ro (kp)) (0) (m)]:List AV)⟩,some ⟨1,([.int .i64 (s2),.slice true (.ro (k2)) (0) (n2),.slice true (.ro (kp2)) (0) (m2)]:List AV)⟩,some ⟨1,([.int .i64 (a1),.int .i64 (r1),.slice true (.ro (d1)) (o1) (e1),.int .i64 (z1)]:List AV)⟩,some ⟨1,([.int .i64 (a2),.int .i64 (r2),.slice true (.ro (d2)) (o2) (e2),.int .i64 (z2)]:List AV)⟩]))∧(((a1:Int)==a2)=false→Q .ret [.ptr (.rw 0) (0),.ptr (.rw 1) (0),.bool (false),.int .i64 (((i:Nat):Int)),.ptr (.rw 2) (0),.ptr (.rw 3) (0)] [some ⟨1,([.int .i64 (s),.slice true (.ro (k)) (0) (n),.slice true (.ro (kp)) (0) (m)]:List AV)⟩,some ⟨1,([.int .i64 (s2),.slice true (.ro (k2)) (0) (n2),.slice true (.ro (kp2)) (0) (m2)]:List AV)⟩,some ⟨1,([.int .i64 (a1),.int .i64 (r1),.slice true (.ro (d1)) (o1) (e1),.int .i64 (z1)]:List AV)⟩,some ⟨1,([.int .i64 (a2),.int .i64 (r2),.slice true (.ro (d2)) (o2) (e2),.int .i64 (z2)]:List AV)⟩])):=by kernel_rfl
theorem ry_2 (G:Nat→List AV) (s s2:Int) (k k2 n n2 kp kp2 m m2 i:Nat) (a1 r1 z1 a2 r2 z2:Int) (d1 o1 e1 d2 o2 e2:Nat) (Q:Ex→List AV→Hp→Prop) (R:AV→Hp→Prop):vT G Q R (E8 (Dc Try.prog [] [] [] 2) 300 20 2 (I2 (Tw (Dl (I2 (A5 Try.f15 0))))) 95 [2,3,4,5,6,7] [.ptr (.rw 0) (.lit 0),.ptr (.rw 1) (.lit 0),.bool (.lit false),.int .i64 (.ofN (.var 8 i)),.ptr (.rw 3) (.lit 0),.ptr (.rw 2) (.lit 0)] [some ⟨1,.of [.int .i64 (.var 4 s),.slice true (.ro (.var 1 k)) (.lit 0) (.var 2 n),.slice true (.ro (.var 5 kp)) (.lit 0) (.var 6 m)]⟩,some ⟨1,.of [.int .i64 (.var 10 s2),.slice true (.ro (.var 3 k2)) (.lit 0) (.var 9 n2),.slice true (.ro (.var 7 kp2)) (.lit 0) (.var 31 m2)]⟩,some ⟨1,.of [.int .i64 (.var 21 a2),.int .i64 (.var 22 r2),.slice true (.ro (.var 23 d2)) (.var 24 o2) (.var 25 e2),.int .i64 (.var 26 z2)]⟩,some ⟨1,.of [.int .i64 (.var 11 a1),.int .i64 (.var 12 r1),.slice true (.ro (.var 13 d1)) (.var 14 o1) (.var 15 e1),.int .i64 (.var 16 z1)]⟩])=(
  (((a1:Int)==a2)=true→(((r1:Int)==r2)=true→leB (o1+e1) (List.length (G (d1)))=true∧u8s (A7 (G (d1)) (o1) (e1))=true∧leB (o2+e2) (List.length (G (d2)))=true∧u8s (A7 (G (d2)) (o2) (e2))=true∧((((O4 (A7 (G (d1)) (o1) (e1))):List UInt8)==(O4 (A7 (G (d2)) (o2) (e2))))=true→(((z1:Int)==z2)=true→Q .normal [.ptr (.rw 0) (0),.ptr (.rw 1) (0),.bool (false),.int .i64 (((i:Nat):Int)),.ptr (.rw 3) (0),.ptr (.rw 2) (0)] [some ⟨1,([.int .i64 (s),.slice true (.ro (k)) (0) (n),.slice true (.ro (kp)) (0) (m)]:List AV)⟩,some ⟨1,([.int .i64 (s2),.slice true (.ro (k2)) (0) (n2),.slice true (.ro (kp2)) (0) (m2)]:List AV)⟩,some ⟨1,([.int .i64 (a2),.int .i64 (r2),.slice true (.ro (d2)) (o2) (e2),.int .i64 (z2)]:List AV)⟩,some ⟨1,([.int .i64 (a1),.int .i64 (r1),.slice true (.ro (d1)) (o1) (e1),.int .i64 (z1)]:List AV)⟩])∧(((z1:Int)==z2)=false→Q .ret [.ptr (.rw 0) (0),.ptr (.rw 1) (0),.bool (false),.int .i64 (((i:Nat):Int)),.ptr (.rw 3) (0),.ptr (.rw 2) (0)] [some ⟨1,([.int .i64 (s),.slice true (.ro (k)) (0) (n),.slice true (.ro (kp)) (0) (m)]:List AV)⟩,some ⟨1,([.int .i64 (s2),.slice true (.ro (k2)) (0) (n2),.slice true (.ro (kp2)) (0) (m2)]:List AV)⟩,some ⟨1,([.int .i64 (a2),.int .i64 (r2),.slice true (.ro (d2)) (o2) (e2),.int .i64 (z2)]:List AV)⟩,some ⟨1,([.int .i64 (a1),.int .i64 (r1),.slice true (.ro (d1)) (o1) (e1),.int .i64 (z1)]:List AV)⟩]))∧((((O4 (A7 (G (d1)) (o1) (e1))):List UInt8)==(O4 (A7 (G (d2)) (o2) (e2))))=false→
 Q .ret [.ptr (.rw 0) (0),.ptr (.rw 1) (0),.bool (false),.int .i64 (((i:Nat):Int)),.ptr (.rw 3) (0),.ptr (.rw 2) (0)] [some ⟨1,([.int .i64 (s),.slice true (.ro (k)) (0) (n),.slice true (.ro (kp)) (0) (m)]:List AV)⟩,some ⟨1,([.int .i64 (s2),.slice true (.ro (k2)) (0) (n2),.slice true (.ro (kp2)) (0) (m2)]:List AV)⟩,some ⟨1,([.int .i64 (a2),.int .i64 (r2),.slice true (.ro (d2)) (o2) (e2),.int .i64 (z2)]:List AV)⟩,some ⟨1,([.int .i64 (a1),.int .i64 (r1),.slice true (.ro (d1)) (o1) (e1),.int .i64 (z1)]:List AV)⟩]))∧(((r1:Int)==r2)=false→Q .ret [.ptr (.rw 0) (0),.ptr (.rw 1) (0),.bool (false),.int .i64 (((i:Nat):Int)),.ptr (.rw 3) (0),.ptr (.rw 2) (0)] [some ⟨1,([.int .i64 (s),.slice true (.ro (k)) (0) (n),.slice true (.ro (kp)) (0) (m)]:List AV)⟩,some ⟨1,([.int .i64 (s2),.slice true (.ro (k2)) (0) (n2),.slice true (.ro (kp2)) (0) (m2)]:List AV)⟩,some ⟨1,([.int .i64 (a2),.int .i64 (r2),.slice true (.ro (d2)) (o2) (e2),.int .i64 (z2)]:List AV)⟩,some ⟨1,([.int .i64 (a1),.int .i64 (r1),.slice true (.ro (d1)) (o1) (e1),.int .i64 (z1)]:List AV)⟩]))∧(((a1:Int)==a2)=false→Q .ret [.ptr (.rw 0) (0),.ptr (.rw 1) (0),.bool (false),.int .i64 (((i:Nat):Int)),.ptr (.rw 3) (0),.ptr (.rw 2) (0)] [some ⟨1,([.int .i64 (s),.slice true (.ro (k)) (0) (n),.slice true (.ro (kp)) (0) (m)]:List AV)⟩,some ⟨1,([.int .i64 (s2),.slice true (.ro (k2)) (0) (n2),.slice true (.ro (kp2)) (0) (m2)]:List AV)⟩,some ⟨1,([.int .i64 (a2),.int .i64 (r2),.slice true (.ro (d2)) (o2) (e2),.int .i64 (z2)]:List AV)⟩,some ⟨1,([.int .i64 (a1),.int .i64 (r1),.slice true (.ro (d1)) (o1) (e1),.int .i64 (z1)]:List AV)⟩])):=by kernel_rfl
theorem rz_1 (G:Nat→List AV) (s s2:Int) (k k2 n n2 kp kp2 m m2 i:Nat) (Q:Ex→List AV→Hp→Prop) (R:AV→Hp→Prop):vT G Q R (E8 (Dc Try.prog [] [] [] 2) 300 20 2 (I2 (I2 (A5 Try.f15 0))) 95 [2,3,4,5] [.ptr (.rw 0) (.lit 0),.ptr (.rw 1) (.lit 0),.bool (.lit false),.int .i64 (.ofN (.var 8 i))] [some ⟨1,.of [.int .i64 (.var 4 s),.slice true (.ro (.var 1 k)) (.lit 0) (.var 2 n),.slice true (.ro (.var 5 kp)) (.lit 0) (.var 6 m)]⟩,some ⟨1,.of [.int .i64 (.var 10 s2),.slice true (.ro (.var 3 k2)) (.lit 0) (.var 9 n2),.slice true (.ro (.var 7 kp2)) (.lit 0) (.var 31 m2)]⟩])=(
  Q .normal [.ptr (.rw 0) (0),.ptr (.rw 1) (0),.bool (false),.int .i64 (IntKind.wrap .i64 (((i:Nat):Int)+1))] [some ⟨1,([.int .i64 (s),.slice true (.ro (k)) (0) (n),.slice true (.ro (kp)) (0) (m)]:List AV)⟩,some ⟨1,([.int .i64 (s2),.slice true (.ro (k2)) (0) (n2),.slice true (.ro (kp2)) (0) (m2)]:List AV)⟩]):=by kernel_rfl
end Go.Am
