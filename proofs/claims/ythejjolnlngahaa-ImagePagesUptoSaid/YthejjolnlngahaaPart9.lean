/-
  Images: which may be: the other loops' laws, and both functions. Images: which are the same: the trees.
-/
import Derived.Test.YthejjolnlngahaaPart8
import Derived.Test.YthejjolnlngahaaBase5
import Derived.Test.YthejjolnlngahaaBase6
namespace Go.Am
open Go.Proofs
set_option maxRecDepth 100000
theorem pS (G:Nat→List AV) (B:Nat) (ks n kp m:Nat) (s:Int):G4 (⟨Try.prog,G,B⟩:A1) 1 (loopN Try.f21 0) (B5 1716 (maQ G ks n kp m s) 0 130 [1,2,3,4] (maO ks n kp m s)):=by
 refine Cv rfl fun hc=>?_;obtain ⟨hk,hn⟩:=J5.1 hc;refine R3 (J4 (fun j=>!J6 (G ks) j) n) (fun i=>[.ptr (.rw 0) 0,.bool false,.bool (Z1 (G ks) s i),.int .i64 (i:Int)]) (fun _=>[some ⟨1,[.int .i64 s,.slice true (.ro ks) 0 n,.slice true (.ro kp) 0 m]⟩]) fun i hi=>?_;have hle:J4 (fun j=>!J6 (G ks) j) n≤n:=F5.1
 refine C4 (C:=(⟨Try.prog,G,B⟩:A1)) (by rw [show A3 (loopN Try.f21 0)=[] by kernel_rfl];exact C8 (inl:=[]) (ls:=[]) (M:=1) (D0 G B) (by kernel_rfl) (I1 G B) .nil) (fuel:=300) (n0:=20) (m:=1) (c:=loopN Try.f21 0) (vs:=[.ptr (.rw 0) (.lit 0),.bool (.lit false),.bool (.var 9 (Z1 (G ks) s i)),.int .i64 (.ofN (.var 8 i))]) (H:=[some ⟨1,.of [.int .i64 (.var 1 s),.slice true (.ro (.var 2 ks)) (.lit 0) (.var 3 n),.slice true (.ro (.var 4 kp)) (.lit 0) (.var 5 m)]⟩]) (by simp) ?_;rw [ma_b]
 have fb:I7 1 [some ⟨1,[.int .i64 s,.slice true (.ro ks) 0 n,.slice true (.ro kp) 0 m]⟩]=true:=by simp [I7,A6,B1]
 have hb:=Qo hi;refine ⟨fun h1=>?_,fun h1=>?_⟩
 ·have h1':=of_decide_eq_true h1;have hin:i<n:=by omega
  rw [B3 (n:=(i:Int)+1) (by omega),Zx,Ru]
  have nof:J6 (G ks) i=false→X8 [.agg (G ks),.int .i64 (n:Int)]=false:=fun h=>by
   rw [Al,Ae hin h]
  refine ⟨decide_eq_true (by omega),h1,M5 hk hin,fun h2=>?_,fun h2=>?_⟩
  ·have h2':I8 (G ks) i=true:=h2;have h2s:=E5.1 h2';have e:=rszE h2';unfold sA sN sZ at e;rw [e];refine ⟨fun h3=>?_,fun h3=>?_⟩
   ·have h3:(i:Int)>0:=of_decide_eq_true h3;obtain ⟨k,rfl⟩:∃ k,i=k+1:=⟨i - 1,by omega⟩;rw [B3 (n:=((k+1:Nat):Int) - 1) (by omega),show ((k+1:Nat):Int) - 1=(k:Int) by omega,D4,oD];have hbk:=hb k (by omega);unfold J6 at hbk;rw [Bool.and_eq_true] at hbk;have hu:=oC hbk.1;have hks:=E5.1 hbk.1;simp only [sA,sR,sN,sZ] at hu hks;rw [hu];refine ⟨decide_eq_true (by omega),decide_eq_true (by omega),M5 hk (by omega),fun h4=>?_,fun h4=>?_⟩
    ·refine .inr ⟨nof ?_,rfl,.inr (B4.same (H:=[some ⟨1,[.int .i64 s,.slice true (.ro ks) 0 n,.slice true (.ro kp) 0 m]⟩]) (by simp) fb (by simp [fv,B1,vVs,vV,vB]))⟩;have h4:A0 (G ks) ((k+1)*4)<(A0 (G ks) (k*4)+(B7 (G ks) (k*4+2):Int)+A0 (G ks) (k*4+3)+255) / 256*256:=of_decide_eq_true h4;unfold J6;rw [h2',decide_eq_false];rfl;unfold sA sN sZ at h2s;show ¬A0 (G ks) (k*4)+(B7 (G ks) (k*4+2):Int)+A0 (G ks) (k*4+3)≤A0 (G ks) ((k+1)*4);omega
    ·have h4:¬A0 (G ks) ((k+1)*4)<(A0 (G ks) (k*4)+(B7 (G ks) (k*4+2):Int)+A0 (G ks) (k*4+3)+255) / 256*256:=of_decide_eq_false h4
     have lt:=Ij hi hin (by
      unfold J6;rw [h2',decide_eq_true];rfl;show A0 (G ks) (k*4)+(B7 (G ks) (k*4+2):Int)+A0 (G ks) (k*4+3)≤A0 (G ks) ((k+1)*4)
      omega)
     refine ⟨fun w1=>?_,fun w1=>⟨fun g1=>?_,fun g1=>⟨fun g2=>?_,fun g2=>?_⟩⟩⟩
     ·exact ⟨lt,.inr (B4.same (H:=[some ⟨1,[.int .i64 s,.slice true (.ro ks) 0 n,.slice true (.ro kp) 0 m]⟩]) (by simp) fb (by simp [fv,B1,A6,dF w1]))⟩
     ·exact ⟨lt,.inr (B4.same (H:=[some ⟨1,[.int .i64 s,.slice true (.ro ks) 0 n,.slice true (.ro kp) 0 m]⟩]) (by simp) fb (by simp [fv,B1,A6,dE w1 g1]))⟩
     ·exact ⟨lt,.inr (B4.same (H:=[some ⟨1,[.int .i64 s,.slice true (.ro ks) 0 n,.slice true (.ro kp) 0 m]⟩]) (by simp) fb (by simp [fv,B1,A6,dD w1 g1 g2]))⟩
     ·exact ⟨lt,.inr (B4.same (H:=[some ⟨1,[.int .i64 s,.slice true (.ro ks) 0 n,.slice true (.ro kp) 0 m]⟩]) (by simp) fb (by simp [fv,B1,A6,dC w1 g1 g2]))⟩
   ·have h3:¬(i:Int)>0:=of_decide_eq_false h3;obtain rfl:i=0:=by omega
    have lt:=Ij hi hin (by
     unfold J6;rw [h2',decide_eq_true];rfl;unfold sA at h2s;show (0:Int)≤sA (G ks) 0
     unfold sA;omega)
    refine ⟨fun w1=>?_,fun w1=>⟨fun g1=>?_,fun g1=>⟨fun g2=>?_,fun g2=>?_⟩⟩⟩
    ·exact ⟨lt,.inr (B4.same (H:=[some ⟨1,[.int .i64 s,.slice true (.ro ks) 0 n,.slice true (.ro kp) 0 m]⟩]) (by simp) fb (by simp [fv,B1,A6,dF w1]))⟩
    ·exact ⟨lt,.inr (B4.same (H:=[some ⟨1,[.int .i64 s,.slice true (.ro ks) 0 n,.slice true (.ro kp) 0 m]⟩]) (by simp) fb (by simp [fv,B1,A6,dE w1 g1]))⟩
    ·exact ⟨lt,.inr (B4.same (H:=[some ⟨1,[.int .i64 s,.slice true (.ro ks) 0 n,.slice true (.ro kp) 0 m]⟩]) (by simp) fb (by simp [fv,B1,A6,dD w1 g1 g2]))⟩
    ·exact ⟨lt,.inr (B4.same (H:=[some ⟨1,[.int .i64 s,.slice true (.ro ks) 0 n,.slice true (.ro kp) 0 m]⟩]) (by simp) fb (by simp [fv,B1,A6,dC w1 g1 g2]))⟩
  ·refine .inr ⟨nof ?_,rfl,.inr (B4.same (H:=[some ⟨1,[.int .i64 s,.slice true (.ro ks) 0 n,.slice true (.ro kp) 0 m]⟩]) (by simp) fb (by simp [fv,B1,vVs,vV,vB]))⟩;have h2':I8 (G ks) i=false:=h2;unfold J6;rw [h2'];rfl
 ·have h1':=of_decide_eq_false h1;have e:i=n:=by omega
  refine .inl ⟨?_,rfl,.inl ⟨?_,rfl⟩⟩
  ·show X8 [.agg (G ks),.int .i64 (n:Int)]=true;rw [Al];exact Ne hi (by omega)
  ·show wk [.ptr (.rw 0) 0,.bool false,.bool (Ac [.agg (G ks),.int .i64 (n:Int),.int .i64 s]),.undef] _;rw [Qv,←e];simp [wk]
theorem Gu {cs ps:List AV} {n m:Nat}:Vm cs n ps m=true↔(K1 cs n=true∧n≤1000000)∧(Ef ps m=true∧m≤1000000)∧E7 (J6 cs) n=true:=by
 unfold Vm;rw [Bool.and_eq_true,Bool.and_eq_true,J5,W9]
theorem rC (G:Nat→List AV) (B:Nat) (ks n kp m:Nat) (s:Int):G4 (⟨Try.prog,G,B⟩:A1) 1 (loopN Try.f20 1) (B5 1715 (cdQ G ks n kp m s) 2 98 [1,2,3,4,73,74,75] (cdO ks n kp m s)):=by
 refine Cv rfl fun hc=>?_;obtain ⟨hk,⟨hp,hm⟩,hs⟩:=Gu.1 hc;have hk':=J5.2 hk;refine R3 (J4 (fun j=>!Y9 (G ks) n (G kp) j) m) (fun i=>[.ptr (.rw 0) 0,.int .i64 0,.bool (Ac [.agg (G ks),.int .i64 (n:Int),.int .i64 s]),.int .i64 (Kf (G kp) i),.slice true (.ro kp) 0 m,.int .i64 (m:Int),.int .i64 (i:Int)]) (fun _=>[some ⟨1,[.int .i64 s,.slice true (.ro ks) 0 n,.slice true (.ro kp) 0 m]⟩]) fun i hi=>?_;have hle:J4 (fun j=>!Y9 (G ks) n (G kp) j) m≤m:=F5.1
 refine C4 (C:=(⟨Try.prog,G,B⟩:A1)) (by rw [show A3 (loopN Try.f20 1)=[] by kernel_rfl];exact C8 (inl:=[]) (ls:=[]) (M:=1) (D0 G B) (by kernel_rfl) (Gg G B) .nil) (fuel:=300) (n0:=20) (m:=1) (c:=loopN Try.f20 1) (vs:=[.ptr (.rw 0) (.lit 0),.int .i64 (.lit 0),.bool (.var 9 (Ac [.agg (G ks),.int .i64 (n:Int),.int .i64 s])),.int .i64 (.var 10 (Kf (G kp) i)),.slice true (.ro (.var 4 kp)) (.lit 0) (.var 5 m),.int .i64 (.ofN (.var 5 m)),.int .i64 (.ofN (.var 8 i))]) (H:=[some ⟨1,.of [.int .i64 (.var 1 s),.slice true (.ro (.var 2 ks)) (.lit 0) (.var 3 n),.slice true (.ro (.var 4 kp)) (.lit 0) (.var 5 m)]⟩]) (by simp) ?_
 rw [ck_d];have fb:I7 1 [some ⟨1,[.int .i64 s,.slice true (.ro ks) 0 n,.slice true (.ro kp) 0 m]⟩]=true:=by simp [I7,A6,B1]
 have pv:=kV hs hp (by omega) (Qo hi);refine ⟨fun h1=>?_,fun h1=>?_⟩
 ·have h1':=of_decide_eq_true h1;have hin:i<m:=by omega
  have hx:=(X0 hp hin).2.2;rw [B3 (n:=(i:Int)+1) (by omega),Cq]
  have nof:Y9 (G ks) n (G kp) i=false→Dy [.agg (G ks),.int .i64 (n:Int),.agg (G kp),.int .i64 (m:Int)]=false:=fun h=>by
   rw [Ep,Ae hin h]
  refine ⟨decide_eq_true (by omega),h1,(X0 hp hin).1,fun h2=>?_,fun h2=>⟨hk',fun h3=>?_,fun h3=>?_⟩⟩
  ·refine .inr ⟨nof ?_,rfl,.inr (B4.same (H:=[some ⟨1,[.int .i64 s,.slice true (.ro ks) 0 n,.slice true (.ro kp) 0 m]⟩]) (by simp) fb (by simp [fv,B1,vVs,vV,vI]))⟩;have h2:A0 (G kp) (i*2)<Kf (G kp) i:=of_decide_eq_true h2;unfold Y9;rw [decide_eq_false (by unfold xP;omega)];rfl
  ·have h2:¬A0 (G kp) (i*2)<Kf (G kp) i:=of_decide_eq_false h2;have h3:((R6 (G ks) n (xP (G kp) i) (hP (G kp) i):Nat):Int)<(n:Int):=of_decide_eq_true h3;have lt:=Ij hi hin (by unfold Y9;rw [decide_eq_true (by unfold xP;omega),decide_eq_true (by omega)];rfl);have hx2:=gL (h:=hP (G kp) i) hs (x:=xP (G kp) i) (by unfold xP at hx ⊢;omega) (by omega);have hw:2≤T2 (hP (G kp) i)∧T2 (hP (G kp) i)≤4:=by unfold T2;split<;>omega
   have e:IntKind.wrap .i64 (A0 (G kp) (i*2)+Kk [.bool (K5 (G kp) (i*2+1))])=Kf (G kp) (i+1):=by
    show IntKind.wrap .i64 (xP (G kp) i+T2 (hP (G kp) i))=xP (G kp) i+T2 (hP (G kp) i);exact B3 (by unfold xP at *;omega)
   rw [e];exact ⟨lt,.inr (B4.same (H:=[some ⟨1,[.int .i64 s,.slice true (.ro ks) 0 n,.slice true (.ro kp) 0 m]⟩]) (by simp) fb (by simp [fv,B1,A6]))⟩
  ·refine .inr ⟨nof ?_,rfl,.inr (B4.same (H:=[some ⟨1,[.int .i64 s,.slice true (.ro ks) 0 n,.slice true (.ro kp) 0 m]⟩]) (by simp) fb (by simp [fv,B1,vVs,vV,vI]))⟩;have h3:¬((R6 (G ks) n (xP (G kp) i) (hP (G kp) i):Nat):Int)<(n:Int):=of_decide_eq_false h3;unfold Y9;rw [decide_eq_false (p:=R6 (G ks) n (xP (G kp) i) (hP (G kp) i)<n) (by omega),Bool.and_false]
 ·have h1':=of_decide_eq_false h1;refine .inl ⟨?_,rfl,.inl ⟨?_,rfl⟩⟩
  ·show Dy [.agg (G ks),.int .i64 (n:Int),.agg (G kp),.int .i64 (m:Int)]=true;rw [Ep];exact Ne hi (by omega)
  ·show wk [.ptr (.rw 0) 0,.int .i64 0,.bool (Ac [.agg (G ks),.int .i64 (n:Int),.int .i64 s]),.undef,.undef,.undef,.undef] _;simp [wk]
theorem pO (G:Nat→List AV) (B:Nat) (ks n kp m:Nat) (s:Int):G4 (⟨Try.prog,G,B⟩:A1) 1 (loopN Try.f21 1) (B5 1717 (mdQ G ks n kp m s) 2 130 [1,2,3,6] (mdO ks n kp m s)):=by
 refine Cv rfl fun hc=>?_;obtain ⟨hk,⟨hp,hm⟩,hs⟩:=Gu.1 hc;have hk':=J5.2 hk;refine R3 (J4 (fun j=>!Y9 (G ks) n (G kp) j) m) (fun i=>[.ptr (.rw 0) 0,.bool false,.bool (Ac [.agg (G ks),.int .i64 (n:Int),.int .i64 s]),.int .i64 (i:Int)]) (fun _=>[some ⟨1,[.int .i64 s,.slice true (.ro ks) 0 n,.slice true (.ro kp) 0 m]⟩]) fun i hi=>?_;have hle:J4 (fun j=>!Y9 (G ks) n (G kp) j) m≤m:=F5.1
 refine C4 (C:=(⟨Try.prog,G,B⟩:A1)) (by rw [show A3 (loopN Try.f21 1)=[] by kernel_rfl];exact C8 (inl:=[]) (ls:=[]) (M:=1) (D0 G B) (by kernel_rfl) (Gg G B) .nil) (fuel:=300) (n0:=20) (m:=1) (c:=loopN Try.f21 1) (vs:=[.ptr (.rw 0) (.lit 0),.bool (.lit false),.bool (.var 9 (Ac [.agg (G ks),.int .i64 (n:Int),.int .i64 s])),.int .i64 (.ofN (.var 8 i))]) (H:=[some ⟨1,.of [.int .i64 (.var 1 s),.slice true (.ro (.var 2 ks)) (.lit 0) (.var 3 n),.slice true (.ro (.var 4 kp)) (.lit 0) (.var 5 m)]⟩]) (by simp) ?_;rw [ma_d]
 have fb:I7 1 [some ⟨1,[.int .i64 s,.slice true (.ro ks) 0 n,.slice true (.ro kp) 0 m]⟩]=true:=by simp [I7,A6,B1]
 have pv:=kV hs hp (by omega) (Qo hi);refine ⟨fun h1=>?_,fun h1=>?_⟩
 ·have h1':=of_decide_eq_true h1;have hin:i<m:=by omega
  have hx:=(X0 hp hin).2.2;rw [B3 (n:=(i:Int)+1) (by omega),Ie]
  have nof:Y9 (G ks) n (G kp) i=false→Dy [.agg (G ks),.int .i64 (n:Int),.agg (G kp),.int .i64 (m:Int)]=false:=fun h=>by
   rw [Ep,Ae hin h]
  refine ⟨decide_eq_true (by omega),h1,(X0 hp hin).1,fun h2=>?_,fun h2=>⟨hk',fun h3=>?_,fun h3=>?_⟩⟩
  ·refine .inr ⟨nof ?_,rfl,.inr (B4.same (H:=[some ⟨1,[.int .i64 s,.slice true (.ro ks) 0 n,.slice true (.ro kp) 0 m]⟩]) (by simp) fb (by simp [fv,B1,vVs,vV,vB]))⟩;have h2:A0 (G kp) (i*2)<0:=of_decide_eq_true h2;unfold Y9;rw [decide_eq_false (by unfold xP;omega)];rfl
  ·have h2:¬xP (G kp) i<0:=of_decide_eq_false h2;have h3:Li (G ks) n (xP (G kp) i) (hP (G kp) i)<0:=of_decide_eq_true h3;refine .inr ⟨nof ?_,rfl,.inr (B4.same (H:=[some ⟨1,[.int .i64 s,.slice true (.ro ks) 0 n,.slice true (.ro kp) 0 m]⟩]) (by simp) fb (by simp [fv,B1,vVs,vV,vB]))⟩;unfold Y9;rw [Yi hs (by omega),decide_eq_false (p:=inN (G ks) n (xP (G kp) i) (hP (G kp) i)<n) (by unfold Li at h3;split at h3<;>omega),Bool.and_false]
  ·have h2:¬xP (G kp) i<0:=of_decide_eq_false h2;have h3:¬Li (G ks) n (xP (G kp) i) (hP (G kp) i)<0:=of_decide_eq_false h3
   have hd:R6 (G ks) n (xP (G kp) i) (hP (G kp) i)<n:=by
    rw [Yi hs (by omega)];unfold Li at h3;split at h3<;>omega
   refine ⟨fun h4=>?_,fun h4=>?_⟩
   ·have h4:(i:Int)>0:=of_decide_eq_true h4;obtain ⟨k,rfl⟩:∃ k,i=k+1:=⟨i - 1,by omega⟩;rw [B3 (n:=((k+1:Nat):Int) - 1) (by omega),show ((k+1:Nat):Int) - 1=(k:Int) by omega,D4]
    have e:IntKind.wrap .i64 (A0 (G kp) (k*2)+Kk [.bool (K5 (G kp) (k*2+1))])=Kf (G kp) (k+1):=B3 (by
     have:Kf (G kp) (k+1)=A0 (G kp) (k*2)+Kk [.bool (K5 (G kp) (k*2+1))]:=rfl
     omega)
    rw [e];refine ⟨decide_eq_true (by omega),decide_eq_true (by omega),(X0 hp (by omega)).2.1,decide_eq_true (by omega),decide_eq_true (by omega),(X0 hp (by omega)).1,fun h5=>?_,fun h5=>?_⟩
    ·refine .inr ⟨nof ?_,rfl,.inr (B4.same (H:=[some ⟨1,[.int .i64 s,.slice true (.ro ks) 0 n,.slice true (.ro kp) 0 m]⟩]) (by simp) fb (by simp [fv,B1,vVs,vV,vB]))⟩;have h5:Kf (G kp) (k+1)>xP (G kp) (k+1):=of_decide_eq_true h5;unfold Y9;rw [decide_eq_false (by omega)];rfl
    ·have h5:¬Kf (G kp) (k+1)>xP (G kp) (k+1):=of_decide_eq_false h5;have lt:=Ij hi hin (by unfold Y9;rw [decide_eq_true (by omega),decide_eq_true hd];rfl);exact ⟨lt,.inr (B4.same (H:=[some ⟨1,[.int .i64 s,.slice true (.ro ks) 0 n,.slice true (.ro kp) 0 m]⟩]) (by simp) fb (by simp [fv,B1,A6]))⟩
   ·have h4:¬(i:Int)>0:=of_decide_eq_false h4;obtain rfl:i=0:=by omega
    have lt:=Ij hi hin (by unfold Y9;rw [decide_eq_true (by show (0:Int)≤_;omega),decide_eq_true hd];rfl);exact ⟨lt,.inr (B4.same (H:=[some ⟨1,[.int .i64 s,.slice true (.ro ks) 0 n,.slice true (.ro kp) 0 m]⟩]) (by simp) fb (by simp [fv,B1,A6]))⟩
 ·have h1':=of_decide_eq_false h1;refine .inl ⟨?_,rfl,.inl ⟨?_,rfl⟩⟩
  ·show Dy [.agg (G ks),.int .i64 (n:Int),.agg (G kp),.int .i64 (m:Int)]=true;rw [Ep];exact Ne hi (by omega)
  ·show wk [.ptr (.rw 0) 0,.bool false,.bool (Ac [.agg (G ks),.int .i64 (n:Int),.int .i64 s]),.undef] _;simp [wk]
def J0 (s:Int) (cs:List AV) (n:Nat) (ps:List AV) (m:Nat):Bool:=(decide (n≤8)&&decide (m≤512))&&((decide (0≤s)&&decide (s % 4=0))&&(E7 (J6 cs) n&&(E7 (Y9 cs n ps) m&&Z1 cs s n)))
def M1 (s:Int) (cs:List AV) (n:Nat) (ps:List AV) (m:Nat):Int:=if J0 s cs n ps m then 0 else 2
theorem Va {a:Int} (h:0≤a):((Int.tmod a 4:Int)==0)=decide (a % 4=0):=by
 rw [Int.tmod_eq_emod_of_nonneg h,Bool.eq_iff_iff,beq_iff_eq,decide_eq_true_iff]
theorem Ej (G:Nat→List AV) (B:Nat) (ks n kp m:Nat) (s:Int) (hk:N8 [.agg (G ks),.int .i64 (n:Int)]=true) (hp:Hg [.agg (G kp),.int .i64 (m:Int)]=true):ACalls (⟨Try.prog,G,B⟩:A1) 20 [.agg [.int .i64 s,.slice true (.ro ks) 0 n,.slice true (.ro kp) 0 m]] [] fun v _=>v=.int .i64 (M1 s (G ks) n (G kp) m):=by
 have:=B8 (C:=(⟨Try.prog,G,B⟩:A1)) (fuel:=300) (n0:=20) (f:=20) (fn:=Try.f20) (args:=[.agg (.of [.int .i64 (.var 1 s),.slice true (.ro (.var 2 ks)) (.lit 0) (.var 3 n),.slice true (.ro (.var 4 kp)) (.lit 0) (.var 5 m)])]) (H:=[]) (keep:=0)
  (R:=fun v _=>v=.int .i64 (M1 s (G ks) n (G kp) m)) (C8 (inl:=[]) (ls:=[(B5 1714 (ckQ G ks n kp m s) 0 98 [1,2,3,4,31,32,33] (ckO ks n kp m s)),(B5 1715 (cdQ G ks n kp m s) 2 98 [1,2,3,4,73,74,75] (cdO ks n kp m s))]) (M:=1) (D0 G B) (by kernel_rfl) (Gg G B) (.cast (.cons (i:=0) (by kernel_rfl) rfl (rA G B ks n kp m s) (.cons (i:=2) (by kernel_rfl) rfl (rC G B ks n kp m s) .nil)) (by kernel_rfl))) (by kernel_rfl) (by kernel_rfl) (by kernel_rfl) (by
  rw [t20,Al,Ep,Qv];have no:J0 s (G ks) n (G kp) m=false→M1 s (G ks) n (G kp) m=2:=fun h=>by unfold M1;rw [h];rfl
  refine ⟨fun h1=>?_,fun h1=>⟨fun h2=>?_,fun h2=>⟨fun h3=>?_,fun h3=>⟨fun h4=>?_,fun h4=>?_⟩⟩⟩⟩
  ·have h1:(n:Int)>8:=of_decide_eq_true h1;rw [no (by unfold J0;rw [decide_eq_false (p:=n≤8) (by omega)];rfl)]
  ·have h2:(m:Int)>512:=of_decide_eq_true h2;rw [no (by unfold J0;rw [decide_eq_false (p:=m≤512) (by omega),Bool.and_false];rfl)]
  ·have h3:s<0:=of_decide_eq_true h3;rw [no (by unfold J0;rw [decide_eq_false (p:=0≤s) (by omega),Bool.false_and,Bool.false_and,Bool.and_false])]
  ·have h1:¬(n:Int)>8:=of_decide_eq_false h1;have h2:¬(m:Int)>512:=of_decide_eq_false h2;have h3:¬s<0:=of_decide_eq_false h3;rw [Va (by omega)] at h4;have h4:=of_decide_eq_true h4
   have em:J0 s (G ks) n (G kp) m=(E7 (J6 (G ks)) n&&(E7 (Y9 (G ks) n (G kp)) m&&Z1 (G ks) s n)):=by
    unfold J0;rw [decide_eq_true (p:=n≤8) (by omega),decide_eq_true (p:=m≤512) (by omega),decide_eq_true (p:=0≤s) (by omega),decide_eq_true h4];rfl
   refine ⟨Ak hk rfl rfl,fun e1=>⟨Ak (by rw [Gu];exact ⟨J5.1 hk,W9.1 hp,e1⟩) rfl rfl,fun e2=>⟨fun e3=>?_,fun e3=>?_⟩,fun e2=>?_⟩,fun e1=>?_⟩
   ·unfold M1;rw [em,e1,e2,e3];rfl
   ·rw [no (by rw [em,e3,Bool.and_false,Bool.and_false])]
   ·rw [no (by rw [em,e2,Bool.false_and,Bool.and_false])]
   ·rw [no (by rw [em,e1,Bool.false_and])]
  ·have h3:¬s<0:=of_decide_eq_false h3;rw [Va (by omega)] at h4
   rw [no (by unfold J0;rw [h4,Bool.and_false,Bool.false_and,Bool.and_false])])
 exact this.monoK fun v H h=>h
theorem jE (G:Nat→List AV) (B:Nat) (ks n kp m:Nat) (s:Int) (hk:N8 [.agg (G ks),.int .i64 (n:Int)]=true) (hp:Hg [.agg (G kp),.int .i64 (m:Int)]=true):ACalls (⟨Try.prog,G,B⟩:A1) 21 [.agg [.int .i64 s,.slice true (.ro ks) 0 n,.slice true (.ro kp) 0 m]] [] fun v _=>v=.bool (J0 s (G ks) n (G kp) m):=by
 have:=B8 (C:=(⟨Try.prog,G,B⟩:A1)) (fuel:=300) (n0:=20) (f:=21) (fn:=Try.f21) (args:=[.agg (.of [.int .i64 (.var 1 s),.slice true (.ro (.var 2 ks)) (.lit 0) (.var 3 n),.slice true (.ro (.var 4 kp)) (.lit 0) (.var 5 m)])]) (H:=[]) (keep:=0)
  (R:=fun v _=>v=.bool (J0 s (G ks) n (G kp) m)) (C8 (inl:=[]) (ls:=[(B5 1716 (maQ G ks n kp m s) 0 130 [1,2,3,4] (maO ks n kp m s)),(B5 1717 (mdQ G ks n kp m s) 2 130 [1,2,3,6] (mdO ks n kp m s))]) (M:=1) (D0 G B) (by kernel_rfl) (Gg G B) (.cast (.cons (i:=0) (by kernel_rfl) rfl (pS G B ks n kp m s) (.cons (i:=2) (by kernel_rfl) rfl (pO G B ks n kp m s) .nil)) (by kernel_rfl))) (by kernel_rfl) (by kernel_rfl) (by kernel_rfl) (by
  rw [t21,Al,Ep,Qv];refine ⟨fun h1=>?_,fun h1=>⟨fun h2=>?_,fun h2=>⟨fun h3=>?_,fun h3=>⟨fun h4=>?_,fun h4=>?_⟩⟩⟩⟩
  ·have h1:(n:Int)>8:=of_decide_eq_true h1;rw [(by unfold J0;rw [decide_eq_false (p:=n≤8) (by omega)];rfl:J0 s (G ks) n (G kp) m=false)]
  ·have h2:(m:Int)>512:=of_decide_eq_true h2;rw [(by unfold J0;rw [decide_eq_false (p:=m≤512) (by omega),Bool.and_false];rfl:J0 s (G ks) n (G kp) m=false)]
  ·have h3:s<0:=of_decide_eq_true h3;rw [(by unfold J0;rw [decide_eq_false (p:=0≤s) (by omega),Bool.false_and,Bool.false_and,Bool.and_false]:J0 s (G ks) n (G kp) m=false)]
  ·have h1:¬(n:Int)>8:=of_decide_eq_false h1;have h2:¬(m:Int)>512:=of_decide_eq_false h2;have h3:¬s<0:=of_decide_eq_false h3;rw [Va (by omega)] at h4;have h4:=of_decide_eq_true h4
   have em:J0 s (G ks) n (G kp) m=(E7 (J6 (G ks)) n&&(E7 (Y9 (G ks) n (G kp)) m&&Z1 (G ks) s n)):=by
    unfold J0;rw [decide_eq_true (p:=n≤8) (by omega),decide_eq_true (p:=m≤512) (by omega),decide_eq_true (p:=0≤s) (by omega),decide_eq_true h4];rfl
   refine ⟨Ak hk rfl rfl,fun e1=>⟨Ak (by rw [Gu];exact ⟨J5.1 hk,W9.1 hp,e1⟩) rfl rfl,fun e2=>?_,fun e2=>?_⟩,fun e1=>?_⟩
   ·rw [em,e1,e2];rfl
   ·rw [em,e2,Bool.false_and,Bool.and_false]
   ·rw [em,e1,Bool.false_and]
  ·have h3:¬s<0:=of_decide_eq_false h3;rw [Va (by omega)] at h4
   rw [(by unfold J0;rw [h4,Bool.and_false,Bool.false_and,Bool.and_false]:J0 s (G ks) n (G kp) m=false)])
 exact this.monoK fun v H h=>h
end Go.Am
namespace Go.Am
open Go.Proofs
set_option maxRecDepth 100000
end Go.Am
namespace Go.Am
open Go.Proofs
set_option maxRecDepth 100000
end Go.Am
namespace Go.Am
open Go.Proofs
set_option maxRecDepth 100000
def Fs (G:Nat→List AV) (cs:List AV) (k:Nat):List AV:=F8 (G (A5 cs (k*4+2))) (A7 cs (k*4+2)) (B7 cs (k*4+2))
end Go.Am
namespace Go.Am
open Go.Proofs
set_option maxRecDepth 100000
end Go.Am
namespace Go.Am
open Go.Proofs
set_option maxRecDepth 100000
end Go.Am
namespace Go.Am
open Go.Proofs
set_option maxRecDepth 100000
end Go.Am
namespace Go.Am
open Go.Proofs
set_option maxRecDepth 100000
end Go.Am
namespace Go.Am
open Go.Proofs
set_option maxRecDepth 100000
end Go.Am
namespace Go.Am
open Go.Proofs
set_option maxRecDepth 100000
end Go.Am
namespace Go.Am
open Go.Proofs
set_option maxRecDepth 100000
end Go.Am
namespace Go.Am
open Go.Proofs
set_option maxRecDepth 100000
end Go.Am
namespace Go.Am
open Go.Proofs
set_option maxRecDepth 100000
theorem mu_b (G:Nat→List AV) (s:Int) (k n kp m i:Nat) (x:Int) (Q:Ex→List AV→Hp→Prop) (R:AV→Hp→Prop):vT G Q R (I0 (Dc Try.prog [] [] [] 1) 300 20 1 (loopN Try.f10 0) 40 [1,2,3,4] [.ptr (.rw 0) (.lit 0),.bool (.lit false),.int .i64 (.var 8 x),.int .i64 (.ofN (.var 9 i))] [some ⟨1,.of [.int .i64 (.var 4 s),.slice true (.ro (.var 1 k)) (.lit 0) (.var 2 n),.slice true (.ro (.var 5 kp)) (.lit 0) (.var 6 m)]⟩])=(
  (decide ((((i:Nat):Int):Int)<((n:Nat):Int))=true→(decide ((((i:Nat):Int):Int)<20)=true→decide ((0:Int)≤((i:Nat):Int))=true∧decide ((((i:Nat):Int):Int)<((n:Nat):Int))=true∧Dz (G (k)) ((i)*4+2)=true∧Q .normal [.ptr (.rw 0) (0),.bool (false),.int .i64 (IntKind.wrap .i64 (x+(if 99999<((B7 (G (k)) ((i)*4+2):Nat):Int) then 99999 else ((B7 (G (k)) ((i)*4+2):Nat):Int)))),.int .i64 (IntKind.wrap .i64 (((i:Nat):Int)+1))] [some ⟨1,([.int .i64 (s),.slice true (.ro (k)) (0) (n),.slice true (.ro (kp)) (0) (m)]:List AV)⟩])∧(decide ((((i:Nat):Int):Int)<20)=false→Q (.exit 0) [.ptr (.rw 0) (0),.bool (false),.int .i64 (x),.int .i64 (((i:Nat):Int))] [some ⟨1,([.int .i64 (s),.slice true (.ro (k)) (0) (n),.slice true (.ro (kp)) (0) (m)]:List AV)⟩]))∧(decide ((((i:Nat):Int):Int)<((n:Nat):Int))=false→Q (.exit 0) [.ptr (.rw 0) (0),.bool (false),.int .i64 (x),.int .i64 (((i:Nat):Int))] [some ⟨1,([.int .i64 (s),.slice true (.ro (k)) (0) (n),.slice true (.ro (kp)) (0) (m)]:List AV)⟩])):=by kernel_rfl
def Gl (cs:List AV):Nat→Int
 | 0=>0
 | i+1=>IntKind.wrap .i64 (Gl cs i+(if 99999<((B7 cs (i*4+2):Nat):Int) then 99999 else ((B7 cs (i*4+2):Nat):Int)))
def muU:List AV→Int:=fun xs=>match xs with
 | [.agg cs,.int _ n]=>Gl cs (min n.toNat 20)
 | _=>0
def muQ (G:Nat→List AV) (s:Int) (k n kp m:Nat):List AV→Bool:=Ko (K1 (G k) n) [.ptr (.rw 0) 0,.bool false,.int .i64 0,.int .i64 0] [some ⟨1,[.int .i64 s,.slice true (.ro k) 0 n,.slice true (.ro kp) 0 m]⟩]
def muO (s:Int) (k n kp m:Nat):LOut:=.one (.exit 0) [.ptr (.rw 0) (.lit 0),.undef,.int .i64 (.uf 1750 muU [.agg (.ro (.var 1 k)),.int .i64 (.ofN (.var 2 n))]),.undef] [some ⟨1,.of [.int .i64 (.var 4 s),.slice true (.ro (.var 1 k)) (.lit 0) (.var 2 n),.slice true (.ro (.var 5 kp)) (.lit 0) (.var 6 m)]⟩]
theorem t10 (G:Nat→List AV) (s:Int) (k n kp m:Nat) (Q:Ex→List AV→Hp→Prop) (R:AV→Hp→Prop):vT G Q R (H5 (Dc Try.prog [] [] [(B5 1751 (muQ G s k n kp m) 0 40 [1,2,3,4] (muO s k n kp m))] 1) 300 20 Try.f10 [.agg (.of [.int .i64 (.var 4 s),.slice true (.ro (.var 1 k)) (.lit 0) (.var 2 n),.slice true (.ro (.var 5 kp)) (.lit 0) (.var 6 m)])] [] 0)=(
  (muQ G s k n kp m) [.agg ([.ptr (.rw 0) (0),.bool (false),.int .i64 (0),.int .i64 (0)]:List AV),.agg ([.tup [.int .i64 (1),.agg ([.int .i64 (s),.slice true (.ro (k)) (0) (n),.slice true (.ro (kp)) (0) (m)]:List AV)]]:List AV)]=true∧(decide ((((n:Nat):Int):Int)>20)=true→R (.bool (true)) [])∧(decide ((((n:Nat):Int):Int)>20)=false→(decide ((((m:Nat):Int):Int)>1000)=true→R (.bool (true)) [])∧(decide ((((m:Nat):Int):Int)>1000)=false→R (.bool (decide ((muU [.agg (G (k)),.int .i64 (((n:Nat):Int))]:Int)>60000))) []))):=by kernel_rfl
theorem fR {cs:List AV} {n:Nat}:muU [.agg cs,.int .i64 (n:Int)]=Gl cs (min n 20):=by simp only [muU,D4]
theorem pJ (G:Nat→List AV) (B:Nat) (s:Int) (k n kp m:Nat):G4 (⟨Try.prog,G,B⟩:A1) 1 (loopN Try.f10 0) (B5 1751 (muQ G s k n kp m) 0 40 [1,2,3,4] (muO s k n kp m)):=by
 refine Cv rfl fun hk=>?_;refine R3 (min n 20) (fun i=>[.ptr (.rw 0) 0,.bool false,.int .i64 (Gl (G k) i),.int .i64 (i:Int)]) (fun _=>[some ⟨1,[.int .i64 s,.slice true (.ro k) 0 n,.slice true (.ro kp) 0 m]⟩]) fun i hi=>?_
 refine C4 (C:=(⟨Try.prog,G,B⟩:A1)) (by rw [show A3 (loopN Try.f10 0)=[] by kernel_rfl];exact C8 (inl:=[]) (ls:=[]) (M:=1) (D0 G B) (by kernel_rfl) .nil .nil) (fuel:=300) (n0:=20) (m:=1) (c:=loopN Try.f10 0) (vs:=[.ptr (.rw 0) (.lit 0),.bool (.lit false),.int .i64 (.var 8 (Gl (G k) i)),.int .i64 (.ofN (.var 9 i))]) (H:=[some ⟨1,.of [.int .i64 (.var 4 s),.slice true (.ro (.var 1 k)) (.lit 0) (.var 2 n),.slice true (.ro (.var 5 kp)) (.lit 0) (.var 6 m)]⟩]) (by simp) ?_;rw [mu_b]
 have fin:¬(i<n∧i<20)→(muO s k n kp m).post G 1 (.exit 0) [.ptr (.rw 0) 0,.bool false,.int .i64 (Gl (G k) i),.int .i64 (i:Int)] [some ⟨1,[.int .i64 s,.slice true (.ro k) 0 n,.slice true (.ro kp) 0 m]⟩]:=fun h=>by
  refine ⟨rfl,.inl ⟨?_,rfl⟩⟩;show wk [.ptr (.rw 0) 0,.undef,.int .i64 (muU [.agg (G k),.int .i64 (n:Int)]),.undef] _;rw [fR,show min n 20=i by omega];simp [wk]
 refine ⟨fun h1=>⟨fun h2=>?_,fun h2=>?_⟩,fun h1=>?_⟩
 ·have h1':=of_decide_eq_true h1;have h2':(i:Int)<20:=of_decide_eq_true h2;rw [B3 (n:=(i:Int)+1) (by omega)];exact ⟨decide_eq_true (by omega),h1,(Tq hk (by omega)).2,by omega,.inl ⟨rfl,rfl⟩⟩
 ·have h2':¬(i:Int)<20:=of_decide_eq_false h2;exact fin (by omega)
 ·have h1':=of_decide_eq_false h1;exact fin (by omega)
def Y2 (cs:List AV) (n m:Nat):Bool:=decide (n>20)||(decide (m>1000)||decide (Gl cs (min n 20)>60000))
theorem Ud (G:Nat→List AV) (B:Nat) (s:Int) (k n kp m:Nat) (hk:K1 (G k) n=true):ACalls (⟨Try.prog,G,B⟩:A1) 10 [.agg [.int .i64 s,.slice true (.ro k) 0 n,.slice true (.ro kp) 0 m]] [] fun v _=>v=.bool (Y2 (G k) n m):=by
 have:=B8 (C:=(⟨Try.prog,G,B⟩:A1)) (fuel:=300) (n0:=20) (f:=10) (fn:=Try.f10) (args:=[.agg (.of [.int .i64 (.var 4 s),.slice true (.ro (.var 1 k)) (.lit 0) (.var 2 n),.slice true (.ro (.var 5 kp)) (.lit 0) (.var 6 m)])]) (H:=[]) (keep:=0)
  (R:=fun v _=>v=.bool (Y2 (G k) n m)) (C8 (inl:=[]) (ls:=[(B5 1751 (muQ G s k n kp m) 0 40 [1,2,3,4] (muO s k n kp m))]) (M:=1) (D0 G B) (by kernel_rfl) .nil (.cast (.cons (i:=0) (by kernel_rfl) rfl (pJ G B s k n kp m) .nil) (by kernel_rfl))) (by kernel_rfl) (by kernel_rfl) (by kernel_rfl) (by
  rw [t10,fR];refine ⟨Ak hk rfl rfl,fun h1=>?_,fun h1=>⟨fun h2=>?_,fun h2=>?_⟩⟩
  ·have h1:(n:Int)>20:=of_decide_eq_true h1;unfold Y2;rw [decide_eq_true (p:=n>20) (by omega)];rfl
  ·have h2:(m:Int)>1000:=of_decide_eq_true h2;unfold Y2;rw [decide_eq_true (p:=m>1000) (by omega),Bool.true_or,Bool.or_true]
  ·have h1:¬(n:Int)>20:=of_decide_eq_false h1;have h2:¬(m:Int)>1000:=of_decide_eq_false h2
   unfold Y2;rw [decide_eq_false (p:=n>20) (by omega),decide_eq_false (p:=m>1000) (by omega)];rfl)
 exact this.monoK fun v H h=>h
end Go.Am
namespace Go.Am
open Go.Proofs
set_option maxRecDepth 100000
end Go.Am
namespace Go.Am
open Go.Proofs
set_option maxRecDepth 100000
end Go.Am
namespace Go.Am
open Go.Proofs
set_option maxRecDepth 100000
end Go.Am
namespace Go.Am
open Go.Proofs
set_option maxRecDepth 100000
theorem v78 (G:Nat→List AV) (k o n:Nat) (Q:Ex→List AV→Hp→Prop) (R:AV→Hp→Prop):vT G Q R (H5 (Dc Try.prog [] [] [] 0) 300 20 Try.f78 [.slice false (.ro (.var 1 k)) (.var 3 o) (.var 2 n)] [] 2)=(
  leB (o+(n)*4) (List.length (G (k)))=true∧T0 (F8 (G (k)) (o) ((n)*4))=true∧leB ((n)*48) (140737488355328)=true∧R (.slice false (.rw 1) (0) (n)) [none,some ⟨4,(F8 (G (k)) (o) ((n)*4))⟩]):=by kernel_rfl
theorem v79 (G:Nat→List AV) (k o n:Nat) (Q:Ex→List AV→Hp→Prop) (R:AV→Hp→Prop):vT G Q R (H5 (Dc Try.prog [] [] [] 0) 300 20 Try.f79 [.slice false (.ro (.var 1 k)) (.var 3 o) (.var 2 n)] [] 2)=(
  leB (o+(n)*2) (List.length (G (k)))=true∧T0 (F8 (G (k)) (o) ((n)*2))=true∧leB ((n)*16) (140737488355328)=true∧R (.slice false (.rw 1) (0) (n)) [none,some ⟨2,(F8 (G (k)) (o) ((n)*2))⟩]):=by kernel_rfl
theorem v80 (G:Nat→List AV) (k o n:Nat) (Q:Ex→List AV→Hp→Prop) (R:AV→Hp→Prop):vT G Q R (H5 (Dc Try.prog [] [] [] 0) 300 20 Try.f80 [.slice false (.ro (.var 1 k)) (.var 3 o) (.var 2 n)] [] 2)=(
  leB (o+n) (List.length (G (k)))=true∧T0 (F8 (G (k)) (o) (n))=true∧leB (n) (140737488355328)=true∧R (.slice false (.rw 1) (0) (n)) [none,some ⟨1,(F8 (G (k)) (o) (n))⟩]):=by kernel_rfl
theorem v78n (G:Nat→List AV) (k:Nat) (Q:Ex→List AV→Hp→Prop) (R:AV→Hp→Prop):vT G Q R (H5 (Dc Try.prog [] [] [] 0) 300 20 Try.f78 [.nils] [] 0)=(
  R (.nils) []):=by kernel_rfl
theorem v79n (G:Nat→List AV) (k:Nat) (Q:Ex→List AV→Hp→Prop) (R:AV→Hp→Prop):vT G Q R (H5 (Dc Try.prog [] [] [] 0) 300 20 Try.f79 [.nils] [] 0)=(
  R (.nils) []):=by kernel_rfl
theorem v80n (G:Nat→List AV) (k:Nat) (Q:Ex→List AV→Hp→Prop) (R:AV→Hp→Prop):vT G Q R (H5 (Dc Try.prog [] [] [] 0) 300 20 Try.f80 [.nils] [] 0)=(
  R (.nils) []):=by kernel_rfl
theorem Rb (G:Nat→List AV) (B:Nat) {c:Code} (h:A3 c=[]):Y7 (⟨Try.prog,G,B⟩:A1) (Dc Try.prog [] [] [] 0) (A3 c):=by rw [h];exact C8 (D0 G B) (by kernel_rfl) .nil .nil
theorem iB {H:Hp} {K:Hp} {k:Nat} (h:H.take k=K) {j:Nat} (hj:j<k):H[j]?=K[j]?:=by rw [←h,List.getElem?_take,if_pos hj]
theorem ACalls.mbe {C:A1} {f:FuncId} {r:Ref} {o n:Nat} {rest:List AV} {H:Hp} {K:AV→Hp→Prop} (h0:n=0→ACalls C f (.nils::rest) H K) (h1:ACalls C f (.slice false r o n::rest) H K):ACalls C f (.slice true r o n::rest) H K:=by
 refine ⟨h1.1,fun ρ w cargs hH hv=>?_⟩;have hv0:=hv;simp only [VRs,VR] at hv;obtain ⟨v,vs,rfl,⟨ca,cap,rfl,hl,hc⟩,hvs⟩:=hv;rcases hc with ⟨rfl,rfl,_⟩ | hc
 ·have e:n=0:=by omega
  refine (h0 e).2 ρ w _ hH ?_;simp only [VRs,VR];exact ⟨_,vs,rfl,by rw [e],hvs⟩
 ·refine h1.2 ρ w _ hH ?_;simp only [VRs,VR];exact ⟨_,vs,rfl,⟨ca,cap,rfl,hl,.inr hc⟩,hvs⟩
def By (z:Nat) (cs:List AV) (o n:Nat):Bool:=(leB (o+n*z) cs.length&&T0 (F8 cs o (n*z)))&&(Nat.ble n 1000000&&A6 0 (F8 cs o (n*z)))
theorem V1 {z:Nat} {cs:List AV} {o n:Nat}:By z cs o n=true↔(leB (o+n*z) cs.length=true∧T0 (F8 cs o (n*z))=true)∧n≤1000000∧A6 0 (F8 cs o (n*z))=true:=by
 simp only [By,Bool.and_eq_true];exact ⟨fun ⟨h1,h2,h3⟩=>⟨h1,Nat.le_of_ble_eq_true h2,h3⟩,fun ⟨h1,h2,h3⟩=>⟨h1,Nat.ble_eq_true_of_le h2,h3⟩⟩
theorem Yl (G:Nat→List AV) (B:Nat) {f:FuncId} (z k o n:Nat) (hc:By z (G k) o n=true)
  (h:ACalls (⟨Try.prog,G,B⟩:A1) f [.slice false (.ro k) o n] [] fun v H'=>v=.slice false (.rw 1) 0 n∧H'.take 2=[none,some ⟨z,F8 (G k) o (n*z)⟩]) (hn:ACalls (⟨Try.prog,G,B⟩:A1) f [.nils] [] fun v H'=>v=.nils) :
  ACalls (⟨Try.prog,G,B⟩:A1) f [.slice true (.ro k) o n] [] fun v H'=>v=.slice true (.rw 0) 0 n∧H'=[some ⟨z,F8 (G k) o (n*z)⟩]:=by
 obtain ⟨_,_,flat⟩:=V1.1 hc;refine ACalls.mbe (fun e0=>?_) ?_
 ·subst e0;refine ACalls.one hn flat (by simp [B1]) (fun j=>by simp [C0]) fun v H' q=>.inr ⟨by simp [F8],?_⟩;subst q;exact .inr ⟨rfl,rfl⟩
 ·have h1:ACalls (⟨Try.prog,G,B⟩:A1) f [.slice false (.ro k) o n] [] fun v H'=>v=.slice false (.rw 0) 0 n∧H'=[some ⟨z,F8 (G k) o (n*z)⟩]:=
   ACalls.one h flat (by simp [B1]) (fun j=>by simp [C0]) fun v H' ⟨q1,q2⟩=>.inl ⟨1,by have:=iB q2 (j:=1) (by omega);simpa using this,by rw [q1];simp [C0]⟩
  exact h1.conv fun v H' ⟨q1,q2⟩=>⟨_,⟨rfl,q2⟩,fun ρ cv hv=>by subst q1;exact Af hv⟩
theorem cl78 (G:Nat→List AV) (B:Nat) (k o n:Nat) (hc:By 4 (G k) o n=true):ACalls (⟨Try.prog,G,B⟩:A1) 78 [.slice true (.ro k) o n] [] fun v H'=>v=.slice true (.rw 0) 0 n∧H'=[some ⟨4,F8 (G k) o (n*4)⟩]:=by
 obtain ⟨⟨h1,h2⟩,h3,_⟩:=V1.1 hc;refine Yl G B 4 k o n hc ?_ ?_
 ·exact B8 (C:=(⟨Try.prog,G,B⟩:A1)) (fuel:=300) (n0:=20) (f:=78) (fn:=Try.f78) (args:=[.slice false (.ro (.var 1 k)) (.var 3 o) (.var 2 n)]) (H:=[]) (keep:=2) (R:=fun v H=>v=.slice false (.rw 1) 0 n∧H=[none,some ⟨4,F8 (G k) o (n*4)⟩]) (Rb G B (by kernel_rfl)) (by kernel_rfl) (by kernel_rfl) (by kernel_rfl) (by
   rw [v78]
   exact ⟨h1,h2,G1.2 (by omega),rfl,rfl⟩)
 ·have:=B8 (C:=(⟨Try.prog,G,B⟩:A1)) (fuel:=300) (n0:=20) (f:=78) (fn:=Try.f78) (args:=[.nils]) (H:=[]) (keep:=0) (R:=fun v _=>v=.nils) (Rb G B (by kernel_rfl)) (by kernel_rfl) (by kernel_rfl) (by kernel_rfl) (by
   rw [v78n G k])
  exact this.monoK fun v H' h=>h
theorem cl79 (G:Nat→List AV) (B:Nat) (k o n:Nat) (hc:By 2 (G k) o n=true):ACalls (⟨Try.prog,G,B⟩:A1) 79 [.slice true (.ro k) o n] [] fun v H'=>v=.slice true (.rw 0) 0 n∧H'=[some ⟨2,F8 (G k) o (n*2)⟩]:=by
 obtain ⟨⟨h1,h2⟩,h3,_⟩:=V1.1 hc;refine Yl G B 2 k o n hc ?_ ?_
 ·exact B8 (C:=(⟨Try.prog,G,B⟩:A1)) (fuel:=300) (n0:=20) (f:=79) (fn:=Try.f79) (args:=[.slice false (.ro (.var 1 k)) (.var 3 o) (.var 2 n)]) (H:=[]) (keep:=2) (R:=fun v H=>v=.slice false (.rw 1) 0 n∧H=[none,some ⟨2,F8 (G k) o (n*2)⟩]) (Rb G B (by kernel_rfl)) (by kernel_rfl) (by kernel_rfl) (by kernel_rfl) (by
   rw [v79]
   exact ⟨h1,h2,G1.2 (by omega),rfl,rfl⟩)
 ·have:=B8 (C:=(⟨Try.prog,G,B⟩:A1)) (fuel:=300) (n0:=20) (f:=79) (fn:=Try.f79) (args:=[.nils]) (H:=[]) (keep:=0) (R:=fun v _=>v=.nils) (Rb G B (by kernel_rfl)) (by kernel_rfl) (by kernel_rfl) (by kernel_rfl) (by
   rw [v79n G k])
  exact this.monoK fun v H' h=>h
theorem cl80 (G:Nat→List AV) (B:Nat) (k o n:Nat) (hc:By 1 (G k) o n=true):ACalls (⟨Try.prog,G,B⟩:A1) 80 [.slice true (.ro k) o n] [] fun v H'=>v=.slice true (.rw 0) 0 n∧H'=[some ⟨1,F8 (G k) o (n*1)⟩]:=by
 obtain ⟨⟨h1,h2⟩,h3,_⟩:=V1.1 hc;rw [Nat.mul_one] at h1 h2;refine Yl G B 1 k o n hc ?_ ?_
 ·exact B8 (C:=(⟨Try.prog,G,B⟩:A1)) (fuel:=300) (n0:=20) (f:=80) (fn:=Try.f80) (args:=[.slice false (.ro (.var 1 k)) (.var 3 o) (.var 2 n)]) (H:=[]) (keep:=2) (R:=fun v H=>v=.slice false (.rw 1) 0 n∧H=[none,some ⟨1,F8 (G k) o (n*1)⟩]) (Rb G B (by kernel_rfl)) (by kernel_rfl) (by kernel_rfl) (by kernel_rfl) (by
   rw [v80,Nat.mul_one]
   exact ⟨h1,h2,G1.2 (by omega),rfl,rfl⟩)
 ·have:=B8 (C:=(⟨Try.prog,G,B⟩:A1)) (fuel:=300) (n0:=20) (f:=80) (fn:=Try.f80) (args:=[.nils]) (H:=[]) (keep:=0) (R:=fun v _=>v=.nils) (Rb G B (by kernel_rfl)) (by kernel_rfl) (by kernel_rfl) (by kernel_rfl) (by
   rw [v80n G k])
  exact this.monoK fun v H' h=>h
def Sx (z:Nat):List AV→Bool:=fun xs=>match xs with
 | [.agg cs,.int _ o,.int _ n]=>By z cs o.toNat n.toNat
 | _=>false
def Ym (tg z:Nat):DSum:=fun args H=>match args with
 | [.slice _ (.ro k) o n]=>some (.chk (.uf tg (Sx z) [.agg (.ro k),.int .i64 (Y3 o),.int .i64 (Y3 n)]) (.one (.slice true (.rw H.length) (.lit 0) n) [.new ⟨z,.sub (.ro k) o (M9 n z)⟩]))
 | [.nils]=>some (.one (.slice true (.rw H.length) (.lit 0) (.lit 0)) [.new ⟨z,.of []⟩])
 | _=>none
theorem Sz (G:Nat→List AV) (B:Nat) {f:FuncId} {tg z:Nat} (h:∀ k o n,By z (G k) o n=true→ACalls (⟨Try.prog,G,B⟩:A1) f [.slice true (.ro k) o n] [] fun v H'=>v=.slice true (.rw 0) 0 n∧H'=[some ⟨z,F8 (G k) o (n*z)⟩]) (hn:ACalls (⟨Try.prog,G,B⟩:A1) f [.nils] [] fun v H'=>v=.slice true (.rw 0) 0 0∧H'=[some ⟨z,[]⟩]):C9 (⟨Try.prog,G,B⟩:A1) f (Ym tg z):=by
 have core:∀ {args:List EV} {args0:List AV} {H:DHp} {n:EN} {N:Nat} {l:EL} {L:List AV},A6 0 L=true→vVs G args=args0→A6 0 args0=true→vN G n=N→vL G l=L→ACalls (⟨Try.prog,G,B⟩:A1) f args0 [] (fun v H'=>v=.slice true (.rw 0) 0 N∧H'=[some ⟨z,L⟩])→G9 (⟨Try.prog,G,B⟩:A1) f args H (.slice true (.rw H.length) (.lit 0) n) [.new ⟨z,l⟩]:=by
  intro args args0 H n N l L hL he hb eN eL hc;refine G9.fr (C:=(⟨Try.prog,G,B⟩:A1)) (θ:=[]) (H0:=[]) (H1:=[some ⟨z,L⟩]) (v0:=.slice true (.rw 0) 0 N) (args0:=args0) List.nodup_nil rfl (fun k b hk=>by simp at hk) hb (by rw [he,M7 _ _ hb]) hc (Nat.zero_le _) rfl (by simp only [I7,M8 (Nat.zero_le _) _ hL,Bool.and_self]) ?_ ?_
  ·show AV.slice true (.rw H.length) 0 (vN G n)=AV.slice true (.rw ((Z2 [] H.length 1).getD 0 0)) 0 N;rw [eN];rfl
  ·show vHp G H++[some (⟨z,vL G l⟩:Blk)]=vHp G H++[W8 _ (some ⟨z,L⟩)];rw [eL];simp only [W8,Option.map_some,Bi,M7 _ _ hL]
 intro args H o ho;unfold Ym at ho;split at ho
 ·rename_i mb k off n;simp only [Option.some.injEq] at ho;subst ho;intro h1;have h1:By z (G (vN G k)) ((vI G (Y3 off)).toNat) ((vI G (Y3 n)).toNat)=true:=h1;rw [T3,T3,D4,D4] at h1;obtain ⟨_,_,flat⟩:=V1.1 h1;have hc:=h (vN G k) (vN G off) (vN G n) h1;have hb:(A6 0 [.slice true (.ro (vN G k)) (vN G off) (vN G n)]=true):=rfl;cases mb with
  | true=>exact core (args0:=[.slice true (.ro (vN G k)) (vN G off) (vN G n)]) flat rfl rfl rfl (by simp only [vL,L0]) hc
  | false=>
   refine core (args0:=[.slice false (.ro (vN G k)) (vN G off) (vN G n)]) flat rfl rfl rfl (by simp only [vL,L0]) (ACalls.weaken hc ?_);intro ρ vs hv;simp only [VRs] at hv ⊢;obtain ⟨v,vs',r1,r2,r3⟩:=hv;exact ⟨v,vs',r1,Af r2,r3⟩
 ·simp only [Option.some.injEq] at ho;subst ho;exact core (args0:=[.nils]) (L:=[]) rfl rfl rfl rfl rfl hn
 ·cases ho
theorem Sb (G:Nat→List AV) (B:Nat) {f:FuncId} (z:Nat) (hn:ACalls (⟨Try.prog,G,B⟩:A1) f [.nils] [] fun v H'=>v=.nils):ACalls (⟨Try.prog,G,B⟩:A1) f [.nils] [] fun v H'=>v=.slice true (.rw 0) 0 0∧H'=[some ⟨z,[]⟩]:=
 ACalls.one (b:=⟨z,[]⟩) hn rfl (by simp [B1]) (fun j=>by simp [C0]) fun v H' q=>.inr ⟨rfl,by subst q;exact .inr ⟨rfl,rfl⟩⟩
theorem cl78n (G:Nat→List AV) (B:Nat):ACalls (⟨Try.prog,G,B⟩:A1) 78 [.nils] [] fun v H'=>v=.nils:=by
 have:=B8 (C:=(⟨Try.prog,G,B⟩:A1)) (fuel:=300) (n0:=20) (f:=78) (fn:=Try.f78) (args:=[.nils]) (H:=[]) (keep:=0) (R:=fun v _=>v=.nils) (Rb G B (by kernel_rfl)) (by kernel_rfl) (by kernel_rfl) (by kernel_rfl) (by rw [v78n G 0])
 exact this.monoK fun v H' h=>h
theorem cl79n (G:Nat→List AV) (B:Nat):ACalls (⟨Try.prog,G,B⟩:A1) 79 [.nils] [] fun v H'=>v=.nils:=by
 have:=B8 (C:=(⟨Try.prog,G,B⟩:A1)) (fuel:=300) (n0:=20) (f:=79) (fn:=Try.f79) (args:=[.nils]) (H:=[]) (keep:=0) (R:=fun v _=>v=.nils) (Rb G B (by kernel_rfl)) (by kernel_rfl) (by kernel_rfl) (by kernel_rfl) (by rw [v79n G 0])
 exact this.monoK fun v H' h=>h
theorem cl80n (G:Nat→List AV) (B:Nat):ACalls (⟨Try.prog,G,B⟩:A1) 80 [.nils] [] fun v H'=>v=.nils:=by
 have:=B8 (C:=(⟨Try.prog,G,B⟩:A1)) (fuel:=300) (n0:=20) (f:=80) (fn:=Try.f80) (args:=[.nils]) (H:=[]) (keep:=0) (R:=fun v _=>v=.nils) (Rb G B (by kernel_rfl)) (by kernel_rfl) (by kernel_rfl) (by kernel_rfl) (by rw [v80n G 0])
 exact this.monoK fun v H' h=>h
def clRs:List (Nat×DSum):=[(78,Ym 1803 4),(79,Ym 1802 2),(80,Ym 1801 1)]
theorem Sy (G:Nat→List AV) (B:Nat):Q3 (⟨Try.prog,G,B⟩:A1) clRs:=.cons (Sz G B (fun k o n h=>cl78 G B k o n h) (Sb G B 4 (cl78n G B))) (.cons (Sz G B (fun k o n h=>cl79 G B k o n h) (Sb G B 2 (cl79n G B))) (.cons (Sz G B (fun k o n h=>cl80 G B k o n h) (Sb G B 1 (cl80n G B))) .nil))
end Go.Am
namespace Go.Am
open Go.Proofs
set_option maxRecDepth 100000
end Go.Am
namespace Go.Am
open Go.Proofs
set_option maxRecDepth 100000
theorem Uj {N m z:Nat} {f:Nat→Nat→AV} (h:∀ a b,a<m→b<z→B1 N (f a b)=true):A6 N (S4 m z f)=true:=by
 rw [J9,List.all_eq_true];intro v hv;unfold S4 at hv;obtain ⟨j,hj,rfl⟩:=List.mem_map.1 hv;obtain ⟨h1,h2,_⟩:=Ra (List.mem_range.1 hj);exact h _ _ h1 h2
def cA (cs:List AV) (d:Nat→AV) (j:Nat):Nat→AV
 | 0=>.int .i64 (sA cs j)
 | 1=>.int .i64 (sR cs j)
 | 2=>d j
 | _=>.int .i64 (sZ cs j)
def dR (cs:List AV) (j:Nat):AV:=.slice true (.ro (A5 cs (j*4+2))) (A7 cs (j*4+2)) (sN cs j)
def M2 (cs:List AV) (n:Nat) (d:Nat→AV):List AV:=S4 n 4 (cA cs d)
theorem Mo {cs:List AV} {n:Nat} {d:Nat→AV}:(M2 cs n d).length=n*4:=Ff
theorem mC {cs:List AV} {n:Nat} {d:Nat→AV} {j:Nat} (h:j<n):(M2 cs n d)[j*4+2]?=some (d j):=Cb (f:=cA cs d) h (by omega)
theorem mB {cs:List AV} {n:Nat} {d:Nat→AV} {i:Nat} {v:AV} (hv:∀ l,v≠.agg l):E0 (M2 cs n d) (i*4+2) v=M2 cs n (fun j=>if j=i then v else d j):=by
 have e:E0 (M2 cs n d) (i*4+2) v=(M2 cs n d).set (i*4+2) v:=by
  unfold E0;cases v<;>first | rfl | exact absurd rfl (hv _)
 rw [e];unfold M2;rw [iC (by omega)];refine Ed fun a b ha hb=>?_;by_cases h:a=i∧b=2
 ·rw [if_pos h];obtain ⟨rfl,rfl⟩:=h;show v=if a=a then v else d a
  rw [if_pos rfl]
 ·rw [if_neg h]
  match b,hb with
  | 0,_=>rfl
  | 1,_=>rfl
  | 2,_=>
   show d a=if a=i then v else d a
   rw [if_neg fun e=>h ⟨e,rfl⟩]
  | 3,_=>rfl
theorem Zz {N:Nat} {cs:List AV} {n:Nat} {d:Nat→AV} (h:∀ j,j<n→B1 N (d j)=true):A6 N (M2 cs n d)=true:=by
 unfold M2;refine Uj fun a b ha hb=>?_
 match b,hb with
 | 0,_=>rfl
 | 1,_=>rfl
 | 2,_=>exact h a ha
 | 3,_=>rfl
end Go.Am
namespace Go.Am
open Go.Proofs
set_option maxRecDepth 100000
theorem kT {l:List AV} {o k f n:Nat} {mb:Bool} (h:l[o]?=some (.slice mb (.ro k) f n)):A5 l o=k∧A7 l o=f∧B7 l o=n:=by
 unfold A5 A7 B7;rw [h];exact ⟨rfl,rfl,rfl⟩
def datC (G:Nat→List AV) (cs:List AV) (n:Nat):Prop:=∀ j,j<n→By 1 (G (A5 cs (j*4+2))) (A7 cs (j*4+2)) (sN cs j)=true
end Go.Am
namespace Go.Am
open Go.Proofs
set_option maxRecDepth 100000
def cpB (G:Nat→List AV) (ks kp n m:Nat):Bool:=(K1 (G ks) n&&By 4 (G ks) 0 n)&&(By 2 (G kp) 0 m&&E7 (fun j=>By 1 (G (A5 (G ks) (j*4+2))) (A7 (G ks) (j*4+2)) (sN (G ks) j)) n)
theorem Im {G:Nat→List AV} {ks kp n m:Nat}:cpB G ks kp n m=true↔(K1 (G ks) n=true∧By 4 (G ks) 0 n=true)∧By 2 (G kp) 0 m=true∧datC G (G ks) n:=by
 unfold cpB datC;simp only [Bool.and_eq_true,I5]
end Go.Am
namespace Go.Am
open Go.Proofs
set_option maxRecDepth 100000
end Go.Am
namespace Go.Am
open Go.Proofs
set_option maxRecDepth 100000
end Go.Am
namespace Go.Am
open Go.Proofs
set_option maxRecDepth 100000
end Go.Am
namespace Go.Am
open Go.Proofs
set_option maxRecDepth 100000
def B9 (b:List Nat):List AV:=b.map fun (x:Nat)=>.int .u8 (x:Int)
def byO (b:List Nat):Prop:=∀ x∈b,x<256
def bN (b:List Nat) (o:Nat):Nat:=b.getD o 0
theorem Ew {b:List Nat}:(B9 b).length=b.length:=by simp [B9]
theorem bM {b:List Nat} {o:Nat} (h:o<b.length):(B9 b)[o]?=some (.int .u8 (bN b o:Int)):=by
 unfold B9 bN;rw [List.getElem?_map,List.getD_eq_getElem?_getD,List.getElem?_eq_getElem h];rfl
theorem bL {b:List Nat} {o:Nat} (h:o<b.length):isI .u8 (B9 b) o=true:=by unfold isI;rw [bM h];rfl
theorem Yq {b:List Nat} {o:Nat} (h:o<b.length):A0 (B9 b) o=(bN b o:Int):=by unfold A0;rw [bM h]
theorem Tb {b:List Nat} {o x:Nat}:E0 (B9 b) o (.int .u8 (x:Int))=B9 (b.set o x):=by
 show (B9 b).set o _=_;unfold B9;rw [List.map_set]
theorem Yr {n:Nat} {b:List Nat}:A6 n (B9 b)=true:=by
 rw [J9,List.all_eq_true];intro v hv;obtain ⟨x,_,rfl⟩:=List.mem_map.1 hv;rfl
theorem Yp {b:List Nat}:∀ v∈B9 b,G8 v=true:=fun v hv=>by
 obtain ⟨x,_,rfl⟩:=List.mem_map.1 hv;rfl
theorem hY (n:Int):IntKind.u32.wrap n=n % 4294967296:=by
 simp only [IntKind.wrap,IntKind.signed,IntKind.bits,Bool.false_and,Bool.false_eq_true,if_false];omega
theorem oG {n:Int} (h:0≤n∧n≤4294967295):IntKind.u32.wrap n=n:=by rw [hY];omega
end Go.Am
namespace Go.Am
open Go.Proofs
set_option maxRecDepth 100000
end Go.Am
namespace Go.Am
open Go.Proofs
set_option maxRecDepth 100000
end Go.Am
namespace Go.Am
open Go.Proofs
set_option maxRecDepth 100000
end Go.Am
namespace Go.Am
open Go.Proofs
set_option maxRecDepth 100000
end Go.Am
namespace Go.Am
open Go.Proofs
set_option maxRecDepth 100000
theorem Bb {C:A1} {M:Nat} {c:Code} {j ex N:Nat} {live:List Nat} {o:LOut}:G4 C M c (B5 j (fun _=>false) ex N live o):=by
 intro m vs H o' hm ho n Q hQ;simp only [B5,Option.some.injEq] at ho;subst ho;exact absurd hQ.1 (by simp [vB])
theorem oL {C:A1} {f j:Nat} {o:Outs}:C9 C f (Ts j (fun _=>false) o):=by
 intro args H o' ho;simp only [Ts,Option.some.injEq] at ho;subst ho;intro h;exact absurd h (by simp [vB])
end Go.Am
