/-
  Images: which may be: the other loops' laws, and both functions. Images: which are the same: the trees.
-/
import Derived.Test.YthejjolnlngahaaPart8
import Derived.Test.YthejjolnlngahaaBase5
namespace Go.Am
open Go.Proofs
set_option maxRecDepth 100000
section
variable (G:Nat→List AV) (B:Nat)
theorem maL_ok (ks n kp m:Nat) (s:Int):H5 (⟨Try.prog,G,B⟩:A0) 1 (A2 Try.f21 0) (D6 1716 (maQ G ks n kp m s) 0 130 [1,2,3,4] (maO ks n kp m s)):=by
 refine Dq rfl fun hc=>?_;obtain ⟨hk,hn⟩:=L9.1 hc;refine X7 (M4 (fun j=>!Z8 (G ks) j) n) (fun i=>[.ptr (.rw 0) 0,.bool false,.bool (As (G ks) s i),.int .i64 (i:Int)]) (fun _=>[some ⟨1,[.int .i64 s,.slice true (.ro ks) 0 n,.slice true (.ro kp) 0 m]⟩]) fun i hi=>?_;have hle:M4 (fun j=>!Z8 (G ks) j) n≤n:=K5.1
 refine D1 (C:=(⟨Try.prog,G,B⟩:A0)) (by rw [show B5 (A2 Try.f21 0)=[] by kernel_rfl];exact D7 (inl:=[]) (ls:=[]) (M:=1) (K6 G B) (by kernel_rfl) (Y3 G B) .nil) (fuel:=300) (n0:=20) (m:=1) (c:=A2 Try.f21 0) (vs:=[.ptr (.rw 0) (.lit 0),.bool (.lit false),.bool (.var 9 (As (G ks) s i)),.int .i64 (.ofN (.var 8 i))]) (H:=[some ⟨1,.of [.int .i64 (.var 1 s),.slice true (.ro (.var 2 ks)) (.lit 0) (.var 3 n),.slice true (.ro (.var 4 kp)) (.lit 0) (.var 5 m)]⟩]) (by simp) ?_;rw [ma_b]
 have fb:H9 1 [some ⟨1,[.int .i64 s,.slice true (.ro ks) 0 n,.slice true (.ro kp) 0 m]⟩]=true:=by simp [H9,A3,A8]
 have hb:=bT hi;refine ⟨fun h1=>?_,fun h1=>?_⟩
 ·have h1':=yL h1;have hin:i<n:=by omega
  rw [B6 (n:=(i:Int)+1) (by omega),qZ,dU]
  have nof:Z8 (G ks) i=false→De [.agg (G ks),.int .i64 (n:Int)]=false:=fun h=>by
   rw [Ew,P5 hin h]
  refine ⟨yM (by omega),h1,M9 hk hin,fun h2=>?_,fun h2=>?_⟩
  ·have h2':Rh (G ks) i=true:=h2;have h2s:=U2.1 h2';have e:=rszE h2';unfold sA sN sZ at e;rw [e];refine ⟨fun h3=>?_,fun h3=>?_⟩
   ·have h3:(i:Int)>0:=yL h3;obtain ⟨k,rfl⟩:∃ k,i=k+1:=⟨i - 1,by omega⟩;rw [B6 (n:=((k+1:Nat):Int) - 1) (by omega),show ((k+1:Nat):Int) - 1=(k:Int) by omega,F9,upU_eq];have hbk:=hb k (by omega);unfold Z8 at hbk;rw [zN] at hbk;have hu:=up_val hbk.1;have hks:=U2.1 hbk.1;simp only [sA,sR,sN,sZ] at hu hks;rw [hu];refine ⟨yM (by omega),yM (by omega),M9 hk (by omega),fun h4=>?_,fun h4=>?_⟩
    ·refine .inr ⟨nof ?_,rfl,.inr (C2.same (H:=[some ⟨1,[.int .i64 s,.slice true (.ro ks) 0 n,.slice true (.ro kp) 0 m]⟩]) (by simp) fb (by simp [fv,A8,vVs,vV,vB]))⟩;have h4:A1 (G ks) ((k+1)*4)<(A1 (G ks) (k*4)+(C7 (G ks) (k*4+2):Int)+A1 (G ks) (k*4+3)+255) / 256*256:=yL h4;unfold Z8;rw [h2',yR];rfl;unfold sA sN sZ at h2s;show ¬A1 (G ks) (k*4)+(C7 (G ks) (k*4+2):Int)+A1 (G ks) (k*4+3)≤A1 (G ks) ((k+1)*4);omega
    ·have h4:¬A1 (G ks) ((k+1)*4)<(A1 (G ks) (k*4)+(C7 (G ks) (k*4+2):Int)+A1 (G ks) (k*4+3)+255) / 256*256:=yP h4
     have lt:=Jh hi hin (by
      unfold Z8;rw [h2',yM];rfl;show A1 (G ks) (k*4)+(C7 (G ks) (k*4+2):Int)+A1 (G ks) (k*4+3)≤A1 (G ks) ((k+1)*4)
      omega)
     refine ⟨fun w1=>?_,fun w1=>⟨fun g1=>?_,fun g1=>⟨fun g2=>?_,fun g2=>?_⟩⟩⟩
     ·exact ⟨lt,.inr (C2.same (H:=[some ⟨1,[.int .i64 s,.slice true (.ro ks) 0 n,.slice true (.ro kp) 0 m]⟩]) (by simp) fb (by simp [fv,A8,A3,vJ w1]))⟩
     ·exact ⟨lt,.inr (C2.same (H:=[some ⟨1,[.int .i64 s,.slice true (.ro ks) 0 n,.slice true (.ro kp) 0 m]⟩]) (by simp) fb (by simp [fv,A8,A3,vH w1 g1]))⟩
     ·exact ⟨lt,.inr (C2.same (H:=[some ⟨1,[.int .i64 s,.slice true (.ro ks) 0 n,.slice true (.ro kp) 0 m]⟩]) (by simp) fb (by simp [fv,A8,A3,vG w1 g1 g2]))⟩
     ·exact ⟨lt,.inr (C2.same (H:=[some ⟨1,[.int .i64 s,.slice true (.ro ks) 0 n,.slice true (.ro kp) 0 m]⟩]) (by simp) fb (by simp [fv,A8,A3,vF w1 g1 g2]))⟩
   ·have h3:¬(i:Int)>0:=yP h3;obtain rfl:i=0:=by omega
    have lt:=Jh hi hin (by
     unfold Z8;rw [h2',yM];rfl;unfold sA at h2s;show (0:Int)≤sA (G ks) 0
     unfold sA;omega)
    refine ⟨fun w1=>?_,fun w1=>⟨fun g1=>?_,fun g1=>⟨fun g2=>?_,fun g2=>?_⟩⟩⟩
    ·exact ⟨lt,.inr (C2.same (H:=[some ⟨1,[.int .i64 s,.slice true (.ro ks) 0 n,.slice true (.ro kp) 0 m]⟩]) (by simp) fb (by simp [fv,A8,A3,vJ w1]))⟩
    ·exact ⟨lt,.inr (C2.same (H:=[some ⟨1,[.int .i64 s,.slice true (.ro ks) 0 n,.slice true (.ro kp) 0 m]⟩]) (by simp) fb (by simp [fv,A8,A3,vH w1 g1]))⟩
    ·exact ⟨lt,.inr (C2.same (H:=[some ⟨1,[.int .i64 s,.slice true (.ro ks) 0 n,.slice true (.ro kp) 0 m]⟩]) (by simp) fb (by simp [fv,A8,A3,vG w1 g1 g2]))⟩
    ·exact ⟨lt,.inr (C2.same (H:=[some ⟨1,[.int .i64 s,.slice true (.ro ks) 0 n,.slice true (.ro kp) 0 m]⟩]) (by simp) fb (by simp [fv,A8,A3,vF w1 g1 g2]))⟩
  ·refine .inr ⟨nof ?_,rfl,.inr (C2.same (H:=[some ⟨1,[.int .i64 s,.slice true (.ro ks) 0 n,.slice true (.ro kp) 0 m]⟩]) (by simp) fb (by simp [fv,A8,vVs,vV,vB]))⟩;have h2':Rh (G ks) i=false:=h2;unfold Z8;rw [h2'];rfl
 ·have h1':=yP h1;have e:i=n:=by omega
  refine .inl ⟨?_,rfl,.inl ⟨?_,rfl⟩⟩
  ·show De [.agg (G ks),.int .i64 (n:Int)]=true;rw [Ew];exact Lh hi (by omega)
  ·show wk [.ptr (.rw 0) 0,.bool false,.bool (Ei [.agg (G ks),.int .i64 (n:Int),.int .i64 s]),.undef] _;rw [cB,←e];simp [wk]
theorem Od {cs ps:List AV} {n m:Nat}:kM cs n ps m=true↔(I6 cs n=true∧n≤1000000)∧(Q4 ps m=true∧m≤1000000)∧I2 (Z8 cs) n=true:=by
 unfold kM;rw [zN,zN,L9,Z3]
theorem cdL_ok (ks n kp m:Nat) (s:Int):H5 (⟨Try.prog,G,B⟩:A0) 1 (A2 Try.f20 1) (D6 1715 (cdQ G ks n kp m s) 2 98 [1,2,3,4,73,74,75] (cdO ks n kp m s)):=by
 refine Dq rfl fun hc=>?_;obtain ⟨hk,⟨hp,hm⟩,hs⟩:=Od.1 hc;have hk':=L9.2 hk;refine X7 (M4 (fun j=>!Bj (G ks) n (G kp) j) m) (fun i=>[.ptr (.rw 0) 0,.int .i64 0,.bool (Ei [.agg (G ks),.int .i64 (n:Int),.int .i64 s]),.int .i64 (Tc (G kp) i),.slice true (.ro kp) 0 m,.int .i64 (m:Int),.int .i64 (i:Int)]) (fun _=>[some ⟨1,[.int .i64 s,.slice true (.ro ks) 0 n,.slice true (.ro kp) 0 m]⟩]) fun i hi=>?_;have hle:M4 (fun j=>!Bj (G ks) n (G kp) j) m≤m:=K5.1
 refine D1 (C:=(⟨Try.prog,G,B⟩:A0)) (by rw [show B5 (A2 Try.f20 1)=[] by kernel_rfl];exact D7 (inl:=[]) (ls:=[]) (M:=1) (K6 G B) (by kernel_rfl) (Ft G B) .nil) (fuel:=300) (n0:=20) (m:=1) (c:=A2 Try.f20 1) (vs:=[.ptr (.rw 0) (.lit 0),.int .i64 (.lit 0),.bool (.var 9 (Ei [.agg (G ks),.int .i64 (n:Int),.int .i64 s])),.int .i64 (.var 10 (Tc (G kp) i)),.slice true (.ro (.var 4 kp)) (.lit 0) (.var 5 m),.int .i64 (.ofN (.var 5 m)),.int .i64 (.ofN (.var 8 i))]) (H:=[some ⟨1,.of [.int .i64 (.var 1 s),.slice true (.ro (.var 2 ks)) (.lit 0) (.var 3 n),.slice true (.ro (.var 4 kp)) (.lit 0) (.var 5 m)]⟩]) (by simp) ?_
 rw [ck_d];have fb:H9 1 [some ⟨1,[.int .i64 s,.slice true (.ro ks) 0 n,.slice true (.ro kp) 0 m]⟩]=true:=by simp [H9,A3,A8]
 have pv:=uL hs hp (by omega) (bT hi);refine ⟨fun h1=>?_,fun h1=>?_⟩
 ·have h1':=yL h1;have hin:i<m:=by omega
  have hx:=(S1 hp hin).2.2;rw [B6 (n:=(i:Int)+1) (by omega),Ib]
  have nof:Bj (G ks) n (G kp) i=false→Jt [.agg (G ks),.int .i64 (n:Int),.agg (G kp),.int .i64 (m:Int)]=false:=fun h=>by
   rw [Kz,P5 hin h]
  refine ⟨yM (by omega),h1,(S1 hp hin).1,fun h2=>?_,fun h2=>⟨hk',fun h3=>?_,fun h3=>?_⟩⟩
  ·refine .inr ⟨nof ?_,rfl,.inr (C2.same (H:=[some ⟨1,[.int .i64 s,.slice true (.ro ks) 0 n,.slice true (.ro kp) 0 m]⟩]) (by simp) fb (by simp [fv,A8,vVs,vV,vI]))⟩;have h2:A1 (G kp) (i*2)<Tc (G kp) i:=yL h2;unfold Bj;rw [yR (by unfold xP;omega)];rfl
  ·have h2:¬A1 (G kp) (i*2)<Tc (G kp) i:=yP h2;have h3:((C9 (G ks) n (xP (G kp) i) (hP (G kp) i):Nat):Int)<(n:Int):=yL h3;have lt:=Jh hi hin (by unfold Bj;rw [yM (by unfold xP;omega),yM (by omega)];rfl);have hx2:=oQ (h:=hP (G kp) i) hs (x:=xP (G kp) i) (by unfold xP at hx ⊢;omega) (by omega);have hw:2≤P4 (hP (G kp) i)∧P4 (hP (G kp) i)≤4:=by unfold P4;split<;>omega
   have e:IntKind.wrap .i64 (A1 (G kp) (i*2)+Gc [.bool (E1 (G kp) (i*2+1))])=Tc (G kp) (i+1):=by
    show IntKind.wrap .i64 (xP (G kp) i+P4 (hP (G kp) i))=xP (G kp) i+P4 (hP (G kp) i);exact B6 (by unfold xP at *;omega)
   rw [e];exact ⟨lt,.inr (C2.same (H:=[some ⟨1,[.int .i64 s,.slice true (.ro ks) 0 n,.slice true (.ro kp) 0 m]⟩]) (by simp) fb (by simp [fv,A8,A3]))⟩
  ·refine .inr ⟨nof ?_,rfl,.inr (C2.same (H:=[some ⟨1,[.int .i64 s,.slice true (.ro ks) 0 n,.slice true (.ro kp) 0 m]⟩]) (by simp) fb (by simp [fv,A8,vVs,vV,vI]))⟩;have h3:¬((C9 (G ks) n (xP (G kp) i) (hP (G kp) i):Nat):Int)<(n:Int):=yP h3;unfold Bj;rw [yR (p:=C9 (G ks) n (xP (G kp) i) (hP (G kp) i)<n) (by omega),Bool.and_false]
 ·have h1':=yP h1;refine .inl ⟨?_,rfl,.inl ⟨?_,rfl⟩⟩
  ·show Jt [.agg (G ks),.int .i64 (n:Int),.agg (G kp),.int .i64 (m:Int)]=true;rw [Kz];exact Lh hi (by omega)
  ·show wk [.ptr (.rw 0) 0,.int .i64 0,.bool (Ei [.agg (G ks),.int .i64 (n:Int),.int .i64 s]),.undef,.undef,.undef,.undef] _;simp [wk]
theorem mdL_ok (ks n kp m:Nat) (s:Int):H5 (⟨Try.prog,G,B⟩:A0) 1 (A2 Try.f21 1) (D6 1717 (mdQ G ks n kp m s) 2 130 [1,2,3,6] (mdO ks n kp m s)):=by
 refine Dq rfl fun hc=>?_;obtain ⟨hk,⟨hp,hm⟩,hs⟩:=Od.1 hc;have hk':=L9.2 hk;refine X7 (M4 (fun j=>!Bj (G ks) n (G kp) j) m) (fun i=>[.ptr (.rw 0) 0,.bool false,.bool (Ei [.agg (G ks),.int .i64 (n:Int),.int .i64 s]),.int .i64 (i:Int)]) (fun _=>[some ⟨1,[.int .i64 s,.slice true (.ro ks) 0 n,.slice true (.ro kp) 0 m]⟩]) fun i hi=>?_;have hle:M4 (fun j=>!Bj (G ks) n (G kp) j) m≤m:=K5.1
 refine D1 (C:=(⟨Try.prog,G,B⟩:A0)) (by rw [show B5 (A2 Try.f21 1)=[] by kernel_rfl];exact D7 (inl:=[]) (ls:=[]) (M:=1) (K6 G B) (by kernel_rfl) (Ft G B) .nil) (fuel:=300) (n0:=20) (m:=1) (c:=A2 Try.f21 1) (vs:=[.ptr (.rw 0) (.lit 0),.bool (.lit false),.bool (.var 9 (Ei [.agg (G ks),.int .i64 (n:Int),.int .i64 s])),.int .i64 (.ofN (.var 8 i))]) (H:=[some ⟨1,.of [.int .i64 (.var 1 s),.slice true (.ro (.var 2 ks)) (.lit 0) (.var 3 n),.slice true (.ro (.var 4 kp)) (.lit 0) (.var 5 m)]⟩]) (by simp) ?_;rw [ma_d]
 have fb:H9 1 [some ⟨1,[.int .i64 s,.slice true (.ro ks) 0 n,.slice true (.ro kp) 0 m]⟩]=true:=by simp [H9,A3,A8]
 have pv:=uL hs hp (by omega) (bT hi);refine ⟨fun h1=>?_,fun h1=>?_⟩
 ·have h1':=yL h1;have hin:i<m:=by omega
  have hx:=(S1 hp hin).2.2;rw [B6 (n:=(i:Int)+1) (by omega),Qh]
  have nof:Bj (G ks) n (G kp) i=false→Jt [.agg (G ks),.int .i64 (n:Int),.agg (G kp),.int .i64 (m:Int)]=false:=fun h=>by
   rw [Kz,P5 hin h]
  refine ⟨yM (by omega),h1,(S1 hp hin).1,fun h2=>?_,fun h2=>⟨hk',fun h3=>?_,fun h3=>?_⟩⟩
  ·refine .inr ⟨nof ?_,rfl,.inr (C2.same (H:=[some ⟨1,[.int .i64 s,.slice true (.ro ks) 0 n,.slice true (.ro kp) 0 m]⟩]) (by simp) fb (by simp [fv,A8,vVs,vV,vB]))⟩;have h2:A1 (G kp) (i*2)<0:=yL h2;unfold Bj;rw [yR (by unfold xP;omega)];rfl
  ·have h2:¬xP (G kp) i<0:=yP h2;have h3:Qj (G ks) n (xP (G kp) i) (hP (G kp) i)<0:=yL h3;refine .inr ⟨nof ?_,rfl,.inr (C2.same (H:=[some ⟨1,[.int .i64 s,.slice true (.ro ks) 0 n,.slice true (.ro kp) 0 m]⟩]) (by simp) fb (by simp [fv,A8,vVs,vV,vB]))⟩;unfold Bj;rw [cI hs (by omega),yR (p:=inN (G ks) n (xP (G kp) i) (hP (G kp) i)<n) (by unfold Qj at h3;split at h3<;>omega),Bool.and_false]
  ·have h2:¬xP (G kp) i<0:=yP h2;have h3:¬Qj (G ks) n (xP (G kp) i) (hP (G kp) i)<0:=yP h3
   have hd:C9 (G ks) n (xP (G kp) i) (hP (G kp) i)<n:=by
    rw [cI hs (by omega)];unfold Qj at h3;split at h3<;>omega
   refine ⟨fun h4=>?_,fun h4=>?_⟩
   ·have h4:(i:Int)>0:=yL h4;obtain ⟨k,rfl⟩:∃ k,i=k+1:=⟨i - 1,by omega⟩;rw [B6 (n:=((k+1:Nat):Int) - 1) (by omega),show ((k+1:Nat):Int) - 1=(k:Int) by omega,F9]
    have e:IntKind.wrap .i64 (A1 (G kp) (k*2)+Gc [.bool (E1 (G kp) (k*2+1))])=Tc (G kp) (k+1):=B6 (by
     have:Tc (G kp) (k+1)=A1 (G kp) (k*2)+Gc [.bool (E1 (G kp) (k*2+1))]:=rfl
     omega)
    rw [e];refine ⟨yM (by omega),yM (by omega),(S1 hp (by omega)).2.1,yM (by omega),yM (by omega),(S1 hp (by omega)).1,fun h5=>?_,fun h5=>?_⟩
    ·refine .inr ⟨nof ?_,rfl,.inr (C2.same (H:=[some ⟨1,[.int .i64 s,.slice true (.ro ks) 0 n,.slice true (.ro kp) 0 m]⟩]) (by simp) fb (by simp [fv,A8,vVs,vV,vB]))⟩;have h5:Tc (G kp) (k+1)>xP (G kp) (k+1):=yL h5;unfold Bj;rw [yR (by omega)];rfl
    ·have h5:¬Tc (G kp) (k+1)>xP (G kp) (k+1):=yP h5;have lt:=Jh hi hin (by unfold Bj;rw [yM (by omega),yM hd];rfl);exact ⟨lt,.inr (C2.same (H:=[some ⟨1,[.int .i64 s,.slice true (.ro ks) 0 n,.slice true (.ro kp) 0 m]⟩]) (by simp) fb (by simp [fv,A8,A3]))⟩
   ·have h4:¬(i:Int)>0:=yP h4;obtain rfl:i=0:=by omega
    have lt:=Jh hi hin (by unfold Bj;rw [yM (by show (0:Int)≤_;omega),yM hd];rfl);exact ⟨lt,.inr (C2.same (H:=[some ⟨1,[.int .i64 s,.slice true (.ro ks) 0 n,.slice true (.ro kp) 0 m]⟩]) (by simp) fb (by simp [fv,A8,A3]))⟩
 ·have h1':=yP h1;refine .inl ⟨?_,rfl,.inl ⟨?_,rfl⟩⟩
  ·show Jt [.agg (G ks),.int .i64 (n:Int),.agg (G kp),.int .i64 (m:Int)]=true;rw [Kz];exact Lh hi (by omega)
  ·show wk [.ptr (.rw 0) 0,.bool false,.bool (Ei [.agg (G ks),.int .i64 (n:Int),.int .i64 s]),.undef] _;simp [wk]
def E8 (s:Int) (cs:List AV) (n:Nat) (ps:List AV) (m:Nat):Bool:=(decide (n≤8)&&decide (m≤512))&&((decide (0≤s)&&decide (s % 4=0))&&(I2 (Z8 cs) n&&(I2 (Bj cs n ps) m&&As cs s n)))
def N5 (s:Int) (cs:List AV) (n:Nat) (ps:List AV) (m:Nat):Int:=if E8 s cs n ps m then 0 else 2
theorem jW {a:Int} (h:0≤a):((Int.tmod a 4:Int)==0)=decide (a % 4=0):=by
 rw [Int.tmod_eq_emod_of_nonneg h,Bool.eq_iff_iff,beq_iff_eq,decide_eq_true_iff]
theorem Gv (ks n kp m:Nat) (s:Int) (hk:S5 [.agg (G ks),.int .i64 (n:Int)]=true) (hp:Jr [.agg (G kp),.int .i64 (m:Int)]=true):ACalls (⟨Try.prog,G,B⟩:A0) 20 [.agg [.int .i64 s,.slice true (.ro ks) 0 n,.slice true (.ro kp) 0 m]] [] fun v _=>v=.int .i64 (N5 s (G ks) n (G kp) m):=by
 have:=C1 (C:=(⟨Try.prog,G,B⟩:A0)) (fuel:=300) (n0:=20) (f:=20) (fn:=Try.f20) (args:=[.agg (.of [.int .i64 (.var 1 s),.slice true (.ro (.var 2 ks)) (.lit 0) (.var 3 n),.slice true (.ro (.var 4 kp)) (.lit 0) (.var 5 m)])]) (H:=[]) (keep:=0)
  (R:=fun v _=>v=.int .i64 (N5 s (G ks) n (G kp) m)) (D7 (inl:=[]) (ls:=[(D6 1714 (ckQ G ks n kp m s) 0 98 [1,2,3,4,31,32,33] (ckO ks n kp m s)),(D6 1715 (cdQ G ks n kp m s) 2 98 [1,2,3,4,73,74,75] (cdO ks n kp m s))]) (M:=1) (K6 G B) (by kernel_rfl) (Ft G B) (.cast (.cons (i:=0) (by kernel_rfl) rfl (ckL_ok G B ks n kp m s) (.cons (i:=2) (by kernel_rfl) rfl (cdL_ok G B ks n kp m s) .nil)) (by kernel_rfl))) (by kernel_rfl) (by kernel_rfl) (by kernel_rfl) (by
  rw [t20,Ew,Kz,cB];have no:E8 s (G ks) n (G kp) m=false→N5 s (G ks) n (G kp) m=2:=fun h=>by unfold N5;rw [h];rfl
  refine ⟨fun h1=>?_,fun h1=>⟨fun h2=>?_,fun h2=>⟨fun h3=>?_,fun h3=>⟨fun h4=>?_,fun h4=>?_⟩⟩⟩⟩
  ·have h1:(n:Int)>8:=yL h1;rw [no (by unfold E8;rw [yR (p:=n≤8) (by omega)];rfl)]
  ·have h2:(m:Int)>512:=yL h2;rw [no (by unfold E8;rw [yR (p:=m≤512) (by omega),Bool.and_false];rfl)]
  ·have h3:s<0:=yL h3;rw [no (by unfold E8;rw [yR (p:=0≤s) (by omega),Bool.false_and,Bool.false_and,Bool.and_false])]
  ·have h1:¬(n:Int)>8:=yP h1;have h2:¬(m:Int)>512:=yP h2;have h3:¬s<0:=yP h3;rw [jW (by omega)] at h4;have h4:=yL h4
   have em:E8 s (G ks) n (G kp) m=(I2 (Z8 (G ks)) n&&(I2 (Bj (G ks) n (G kp)) m&&As (G ks) s n)):=by
    unfold E8;rw [yM (p:=n≤8) (by omega),yM (p:=m≤512) (by omega),yM (p:=0≤s) (by omega),yM h4];rfl
   refine ⟨Av hk rfl rfl,fun e1=>⟨Av (by rw [Od];exact ⟨L9.1 hk,Z3.1 hp,e1⟩) rfl rfl,fun e2=>⟨fun e3=>?_,fun e3=>?_⟩,fun e2=>?_⟩,fun e1=>?_⟩
   ·unfold N5;rw [em,e1,e2,e3];rfl
   ·rw [no (by rw [em,e3,Bool.and_false,Bool.and_false])]
   ·rw [no (by rw [em,e2,Bool.false_and,Bool.and_false])]
   ·rw [no (by rw [em,e1,Bool.false_and])]
  ·have h3:¬s<0:=yP h3;rw [jW (by omega)] at h4
   rw [no (by unfold E8;rw [h4,Bool.and_false,Bool.false_and,Bool.and_false])])
 exact this.monoK fun v H h=>h
theorem mZ (ks n kp m:Nat) (s:Int) (hk:S5 [.agg (G ks),.int .i64 (n:Int)]=true) (hp:Jr [.agg (G kp),.int .i64 (m:Int)]=true):ACalls (⟨Try.prog,G,B⟩:A0) 21 [.agg [.int .i64 s,.slice true (.ro ks) 0 n,.slice true (.ro kp) 0 m]] [] fun v _=>v=.bool (E8 s (G ks) n (G kp) m):=by
 have:=C1 (C:=(⟨Try.prog,G,B⟩:A0)) (fuel:=300) (n0:=20) (f:=21) (fn:=Try.f21) (args:=[.agg (.of [.int .i64 (.var 1 s),.slice true (.ro (.var 2 ks)) (.lit 0) (.var 3 n),.slice true (.ro (.var 4 kp)) (.lit 0) (.var 5 m)])]) (H:=[]) (keep:=0)
  (R:=fun v _=>v=.bool (E8 s (G ks) n (G kp) m)) (D7 (inl:=[]) (ls:=[(D6 1716 (maQ G ks n kp m s) 0 130 [1,2,3,4] (maO ks n kp m s)),(D6 1717 (mdQ G ks n kp m s) 2 130 [1,2,3,6] (mdO ks n kp m s))]) (M:=1) (K6 G B) (by kernel_rfl) (Ft G B) (.cast (.cons (i:=0) (by kernel_rfl) rfl (maL_ok G B ks n kp m s) (.cons (i:=2) (by kernel_rfl) rfl (mdL_ok G B ks n kp m s) .nil)) (by kernel_rfl))) (by kernel_rfl) (by kernel_rfl) (by kernel_rfl) (by
  rw [t21,Ew,Kz,cB];refine ⟨fun h1=>?_,fun h1=>⟨fun h2=>?_,fun h2=>⟨fun h3=>?_,fun h3=>⟨fun h4=>?_,fun h4=>?_⟩⟩⟩⟩
  ·have h1:(n:Int)>8:=yL h1;rw [(by unfold E8;rw [yR (p:=n≤8) (by omega)];rfl:E8 s (G ks) n (G kp) m=false)]
  ·have h2:(m:Int)>512:=yL h2;rw [(by unfold E8;rw [yR (p:=m≤512) (by omega),Bool.and_false];rfl:E8 s (G ks) n (G kp) m=false)]
  ·have h3:s<0:=yL h3;rw [(by unfold E8;rw [yR (p:=0≤s) (by omega),Bool.false_and,Bool.false_and,Bool.and_false]:E8 s (G ks) n (G kp) m=false)]
  ·have h1:¬(n:Int)>8:=yP h1;have h2:¬(m:Int)>512:=yP h2;have h3:¬s<0:=yP h3;rw [jW (by omega)] at h4;have h4:=yL h4
   have em:E8 s (G ks) n (G kp) m=(I2 (Z8 (G ks)) n&&(I2 (Bj (G ks) n (G kp)) m&&As (G ks) s n)):=by
    unfold E8;rw [yM (p:=n≤8) (by omega),yM (p:=m≤512) (by omega),yM (p:=0≤s) (by omega),yM h4];rfl
   refine ⟨Av hk rfl rfl,fun e1=>⟨Av (by rw [Od];exact ⟨L9.1 hk,Z3.1 hp,e1⟩) rfl rfl,fun e2=>?_,fun e2=>?_⟩,fun e1=>?_⟩
   ·rw [em,e1,e2];rfl
   ·rw [em,e2,Bool.false_and,Bool.and_false]
   ·rw [em,e1,Bool.false_and]
  ·have h3:¬s<0:=yP h3;rw [jW (by omega)] at h4
   rw [(by unfold E8;rw [h4,Bool.and_false,Bool.false_and,Bool.and_false]:E8 s (G ks) n (G kp) m=false)])
 exact this.monoK fun v H h=>h
end
section
variable (G:Nat→List AV) (B:Nat)
def Fp:Code→Code
 | .seq a _=>a
 | c=>c
def J5:Code→Code
 | .seq _ b=>b
 | c=>c
def Ox:Code→Code
 | .block _ c=>c
 | c=>c
def rOps:Code→Array Oper
 | .region _ o _=>o
 | _=>#[]
def Lz (c:Code):Array Oper:=rOps (Fp (Ox (Fp (J5 c))))
theorem rx_a (s s2:Int) (k k2 n n2 kp kp2 m m2 i:Nat) (Q:Ex→List AV→Hp→Prop) (R:AV→Hp→Prop):vT G Q R (G3 (Dc Try.prog [] [] [] 2) 300 20 2 (Fp (A2 Try.f15 0)) 95 [2,3,4,5] [.ptr (.rw 0) (.lit 0),.ptr (.rw 1) (.lit 0),.bool (.lit false),.int .i64 (.ofN (.var 8 i))] [some ⟨1,.of [.int .i64 (.var 4 s),.slice true (.ro (.var 1 k)) (.lit 0) (.var 2 n),.slice true (.ro (.var 5 kp)) (.lit 0) (.var 6 m)]⟩,some ⟨1,.of [.int .i64 (.var 10 s2),.slice true (.ro (.var 3 k2)) (.lit 0) (.var 9 n2),.slice true (.ro (.var 7 kp2)) (.lit 0) (.var 31 m2)]⟩])=(
  (decide (((i:Int):Int)<(n:Int))=true→Q .normal [.ptr (.rw 0) 0,.ptr (.rw 1) 0,.bool false,.int .i64 ((i:Int))] [some ⟨1,([.int .i64 s,.slice true (.ro k) 0 n,.slice true (.ro kp) 0 m]:List AV)⟩,some ⟨1,([.int .i64 s2,.slice true (.ro k2) 0 n2,.slice true (.ro kp2) 0 m2]:List AV)⟩])∧(decide (((i:Int):Int)<(n:Int))=false→Q (.exit 0) [.ptr (.rw 0) 0,.ptr (.rw 1) 0,.bool false,.int .i64 ((i:Int))] [some ⟨1,([.int .i64 s,.slice true (.ro k) 0 n,.slice true (.ro kp) 0 m]:List AV)⟩,some ⟨1,([.int .i64 s2,.slice true (.ro k2) 0 n2,.slice true (.ro kp2) 0 m2]:List AV)⟩])):=by kernel_rfl
theorem rx_1 (s s2:Int) (k k2 n n2 kp kp2 m m2 i:Nat) (Q:Ex→List AV→Hp→Prop) (R:AV→Hp→Prop):vT G Q R (G3 (Dc Try.prog [] [] [] 2) 301 20 2 (.region 6 (Um (Lz (A2 Try.f15 0)) 10 11).toArray true) 95 [2,3,4,5,6,7] [.ptr (.rw 0) (.lit 0),.ptr (.rw 1) (.lit 0),.bool (.lit false),.int .i64 (.ofN (.var 8 i)),.undef,.undef] [some ⟨1,.of [.int .i64 (.var 4 s),.slice true (.ro (.var 1 k)) (.lit 0) (.var 2 n),.slice true (.ro (.var 5 kp)) (.lit 0) (.var 6 m)]⟩,some ⟨1,.of [.int .i64 (.var 10 s2),.slice true (.ro (.var 3 k2)) (.lit 0) (.var 9 n2),.slice true (.ro (.var 7 kp2)) (.lit 0) (.var 31 m2)]⟩])=(
  decide ((0:Int)≤(i:Int))=true∧decide (((i:Int):Int)<(n:Int))=true∧E5 (G k) (i*4) [.int .i64,.int .i64,.sl,.int .i64]=true∧decide ((0:Int)≤(i:Int))=true∧decide (((i:Int):Int)<(n2:Int))=true∧E5 (G k2) (i*4) [.int .i64,.int .i64,.sl,.int .i64]=true∧Q .normal [.ptr (.rw 0) 0,.ptr (.rw 1) 0,.bool false,.int .i64 ((i:Int)),.ptr (.rw 2) 0,.ptr (.rw 3) 0] [some ⟨1,([.int .i64 s,.slice true (.ro k) 0 n,.slice true (.ro kp) 0 m]:List AV)⟩,some ⟨1,([.int .i64 s2,.slice true (.ro k2) 0 n2,.slice true (.ro kp2) 0 m2]:List AV)⟩,some ⟨1,([.int .i64 (A1 (G k) (i*4)),.int .i64 (A1 (G k) (i*4+1)),.slice true (.ro (C8 (G k) (i*4+2))) (E9 (G k) (i*4+2)) (C7 (G k) (i*4+2)),.int .i64 (A1 (G k) (i*4+3))]:List AV)⟩,some ⟨1,([.int .i64 (A1 (G k2) (i*4)),.int .i64 (A1 (G k2) (i*4+1)),.slice true (.ro (C8 (G k2) (i*4+2))) (E9 (G k2) (i*4+2)) (C7 (G k2) (i*4+2)),.int .i64 (A1 (G k2) (i*4+3))]:List AV)⟩]):=by kernel_rfl
theorem rx_2 (s s2:Int) (k k2 n n2 kp kp2 m m2 i:Nat) (Q:Ex→List AV→Hp→Prop) (R:AV→Hp→Prop):vT G Q R (G3 (Dc Try.prog [] [] [] 2) 301 20 2 (.region 6 (Ul (Lz (A2 Try.f15 0)) 10 11).toArray true) 95 [2,3,4,5,6,7] [.ptr (.rw 0) (.lit 0),.ptr (.rw 1) (.lit 0),.bool (.lit false),.int .i64 (.ofN (.var 8 i)),.undef,.undef] [some ⟨1,.of [.int .i64 (.var 4 s),.slice true (.ro (.var 1 k)) (.lit 0) (.var 2 n),.slice true (.ro (.var 5 kp)) (.lit 0) (.var 6 m)]⟩,some ⟨1,.of [.int .i64 (.var 10 s2),.slice true (.ro (.var 3 k2)) (.lit 0) (.var 9 n2),.slice true (.ro (.var 7 kp2)) (.lit 0) (.var 31 m2)]⟩])=(
  decide ((0:Int)≤(i:Int))=true∧decide (((i:Int):Int)<(n:Int))=true∧E5 (G k) (i*4) [.int .i64,.int .i64,.sl,.int .i64]=true∧decide ((0:Int)≤(i:Int))=true∧decide (((i:Int):Int)<(n2:Int))=true∧E5 (G k2) (i*4) [.int .i64,.int .i64,.sl,.int .i64]=true∧Q .normal [.ptr (.rw 0) 0,.ptr (.rw 1) 0,.bool false,.int .i64 ((i:Int)),.ptr (.rw 3) 0,.ptr (.rw 2) 0] [some ⟨1,([.int .i64 s,.slice true (.ro k) 0 n,.slice true (.ro kp) 0 m]:List AV)⟩,some ⟨1,([.int .i64 s2,.slice true (.ro k2) 0 n2,.slice true (.ro kp2) 0 m2]:List AV)⟩,some ⟨1,([.int .i64 (A1 (G k2) (i*4)),.int .i64 (A1 (G k2) (i*4+1)),.slice true (.ro (C8 (G k2) (i*4+2))) (E9 (G k2) (i*4+2)) (C7 (G k2) (i*4+2)),.int .i64 (A1 (G k2) (i*4+3))]:List AV)⟩,some ⟨1,([.int .i64 (A1 (G k) (i*4)),.int .i64 (A1 (G k) (i*4+1)),.slice true (.ro (C8 (G k) (i*4+2))) (E9 (G k) (i*4+2)) (C7 (G k) (i*4+2)),.int .i64 (A1 (G k) (i*4+3))]:List AV)⟩]):=by kernel_rfl
def Uh (s:Int) (s2:Int) (k:Nat) (k2:Nat) (n:Nat) (n2:Nat) (kp:Nat) (kp2:Nat) (m:Nat) (m2:Nat) (a1:Int) (r1:Int) (z1:Int) (a2:Int) (r2:Int) (z2:Int) (d1:Nat) (o1:Nat) (e1:Nat) (d2:Nat) (o2:Nat) (e2:Nat):Hp:=[some ⟨1,([.int .i64 s,.slice true (.ro k) 0 n,.slice true (.ro kp) 0 m]:List AV)⟩,some ⟨1,([.int .i64 s2,.slice true (.ro k2) 0 n2,.slice true (.ro kp2) 0 m2]:List AV)⟩,some ⟨1,([.int .i64 a1,.int .i64 r1,.slice true (.ro d1) o1 e1,.int .i64 z1]:List AV)⟩,some ⟨1,([.int .i64 a2,.int .i64 r2,.slice true (.ro d2) o2 e2,.int .i64 z2]:List AV)⟩]
def Ug (i:Nat):List AV:=[.ptr (.rw 0) 0,.ptr (.rw 1) 0,.bool false,.int .i64 ((i:Int)),.ptr (.rw 2) 0,.ptr (.rw 3) 0]
theorem ry_1 (s s2:Int) (k k2 n n2 kp kp2 m m2 i:Nat) (a1 r1 z1 a2 r2 z2:Int) (d1 o1 e1 d2 o2 e2:Nat) (Q:Ex→List AV→Hp→Prop) (R:AV→Hp→Prop):vT G Q R (G3 (Dc Try.prog [] [] [] 2) 300 20 2 (J5 (Ox (Fp (J5 (A2 Try.f15 0))))) 95 [2,3,4,5,6,7] [.ptr (.rw 0) (.lit 0),.ptr (.rw 1) (.lit 0),.bool (.lit false),.int .i64 (.ofN (.var 8 i)),.ptr (.rw 2) (.lit 0),.ptr (.rw 3) (.lit 0)] [some ⟨1,.of [.int .i64 (.var 4 s),.slice true (.ro (.var 1 k)) (.lit 0) (.var 2 n),.slice true (.ro (.var 5 kp)) (.lit 0) (.var 6 m)]⟩,some ⟨1,.of [.int .i64 (.var 10 s2),.slice true (.ro (.var 3 k2)) (.lit 0) (.var 9 n2),.slice true (.ro (.var 7 kp2)) (.lit 0) (.var 31 m2)]⟩,some ⟨1,.of [.int .i64 (.var 11 a1),.int .i64 (.var 12 r1),.slice true (.ro (.var 13 d1)) (.var 14 o1) (.var 15 e1),.int .i64 (.var 16 z1)]⟩,some ⟨1,.of [.int .i64 (.var 21 a2),.int .i64 (.var 22 r2),.slice true (.ro (.var 23 d2)) (.var 24 o2) (.var 25 e2),.int .i64 (.var 26 z2)]⟩])=(
  (((a1:Int)==a2)=true→(((r1:Int)==r2)=true→leB (o1+e1) (List.length (G d1))=true∧u8s (A9 (G d1) o1 e1)=true∧leB (o2+e2) (List.length (G d2))=true∧u8s (A9 (G d2) o2 e2)=true∧((((O8 (A9 (G d1) o1 e1)):List UInt8)==(O8 (A9 (G d2) o2 e2)))=true→(((z1:Int)==z2)=true→Q .normal (Ug i) (Uh s s2 k k2 n n2 kp kp2 m m2 a1 r1 z1 a2 r2 z2 d1 o1 e1 d2 o2 e2))∧(((z1:Int)==z2)=false→Q .ret (Ug i) (Uh s s2 k k2 n n2 kp kp2 m m2 a1 r1 z1 a2 r2 z2 d1 o1 e1 d2 o2 e2)))∧((((O8 (A9 (G d1) o1 e1)):List UInt8)==(O8 (A9 (G d2) o2 e2)))=false→Q .ret (Ug i) (Uh s s2 k k2 n n2 kp kp2 m m2 a1 r1 z1 a2 r2 z2 d1 o1 e1 d2 o2 e2)))∧(((r1:Int)==r2)=false→Q .ret (Ug i) (Uh s s2 k k2 n n2 kp kp2 m m2 a1 r1 z1 a2 r2 z2 d1 o1 e1 d2 o2 e2)))∧(((a1:Int)==a2)=false→Q .ret (Ug i) (Uh s s2 k k2 n n2 kp kp2 m m2 a1 r1 z1 a2 r2 z2 d1 o1 e1 d2 o2 e2))):=by kernel_rfl
theorem rz_1 (s s2:Int) (k k2 n n2 kp kp2 m m2 i:Nat) (Q:Ex→List AV→Hp→Prop) (R:AV→Hp→Prop):vT G Q R (G3 (Dc Try.prog [] [] [] 2) 300 20 2 (J5 (J5 (A2 Try.f15 0))) 95 [2,3,4,5] [.ptr (.rw 0) (.lit 0),.ptr (.rw 1) (.lit 0),.bool (.lit false),.int .i64 (.ofN (.var 8 i))] [some ⟨1,.of [.int .i64 (.var 4 s),.slice true (.ro (.var 1 k)) (.lit 0) (.var 2 n),.slice true (.ro (.var 5 kp)) (.lit 0) (.var 6 m)]⟩,some ⟨1,.of [.int .i64 (.var 10 s2),.slice true (.ro (.var 3 k2)) (.lit 0) (.var 9 n2),.slice true (.ro (.var 7 kp2)) (.lit 0) (.var 31 m2)]⟩])=(
  Q .normal [.ptr (.rw 0) 0,.ptr (.rw 1) 0,.bool false,.int .i64 (IntKind.wrap .i64 ((i:Int)+1))] [some ⟨1,([.int .i64 s,.slice true (.ro k) 0 n,.slice true (.ro kp) 0 m]:List AV)⟩,some ⟨1,([.int .i64 s2,.slice true (.ro k2) 0 n2,.slice true (.ro kp2) 0 m2]:List AV)⟩]):=by kernel_rfl
end
section
variable (G:Nat→List AV) (B:Nat)
def N4 (G:Nat→List AV) (cs:List AV) (k:Nat):List AV:=A9 (G (C8 cs (k*4+2))) (E9 cs (k*4+2)) (C7 cs (k*4+2))
def Ob (G:Nat→List AV) (cs:List AV) (k:Nat):Bool:=leB (E9 cs (k*4+2)+C7 cs (k*4+2)) (List.length (G (C8 cs (k*4+2))))&&u8s (N4 G cs k)
def By (G:Nat→List AV) (cs cs2:List AV) (k:Nat):Bool:=(sA cs k==sA cs2 k)&&((sR cs k==sR cs2 k)&&((O8 (N4 G cs k)==O8 (N4 G cs2 k))&&(sZ cs k==sZ cs2 k)))
def Ok (G:Nat→List AV) (cs:List AV) (k:Nat):Blk:=⟨1,[.int .i64 (A1 cs (k*4)),.int .i64 (A1 cs (k*4+1)),.slice true (.ro (C8 cs (k*4+2))) (E9 cs (k*4+2)) (C7 cs (k*4+2)),.int .i64 (A1 cs (k*4+3))]⟩
theorem dgR {c:Code} (h:B5 c=[]):L6 (⟨Try.prog,G,B⟩:A0) (Dc Try.prog [] [] [] 2) (B5 c):=by rw [h];exact D7 (K6 G B) (by kernel_rfl) .nil .nil
theorem xV (s s2:Int) (k k2 n n2 kp kp2 m m2 i:Nat) (cs cs2:List AV) (d1:Ob G cs i=true) (d2:Ob G cs2 i=true):AWp (⟨Try.prog,G,B⟩:A0) 2 (J5 (Ox (Fp (J5 (A2 Try.f15 0))))) (fl 95 [2,3,4,5,6,7] [.ptr (.rw 0) 0,.ptr (.rw 1) 0,.bool false,.int .i64 (i:Int),.ptr (.rw 2) 0,.ptr (.rw 3) 0]) [some ⟨1,[.int .i64 s,.slice true (.ro k) 0 n,.slice true (.ro kp) 0 m]⟩,some ⟨1,[.int .i64 s2,.slice true (.ro k2) 0 n2,.slice true (.ro kp2) 0 m2]⟩,some (Ok G cs i),some (Ok G cs2 i)] (lv 95 [2,3,4,5,6,7] fun e vs H=>((e=.normal∧By G cs cs2 i=true)∨(e=.ret∧By G cs cs2 i=false))∧(∃ x y,vs=[.ptr (.rw 0) 0,.ptr (.rw 1) 0,.bool false,.int .i64 (i:Int),x,y])∧∃ X,H=[some ⟨1,[.int .i64 s,.slice true (.ro k) 0 n,.slice true (.ro kp) 0 m]⟩,some ⟨1,[.int .i64 s2,.slice true (.ro k2) 0 n2,.slice true (.ro kp2) 0 m2]⟩]++X):=by
 unfold Ob at d1 d2;rw [zN] at d1 d2
 refine D1 (C:=(⟨Try.prog,G,B⟩:A0)) (dgR G B (by kernel_rfl)) (fuel:=300) (n0:=20) (m:=2) (vs:=[.ptr (.rw 0) (.lit 0),.ptr (.rw 1) (.lit 0),.bool (.lit false),.int .i64 (.ofN (.var 8 i)),.ptr (.rw 2) (.lit 0),.ptr (.rw 3) (.lit 0)]) (H:=[some ⟨1,.of [.int .i64 (.var 4 s),.slice true (.ro (.var 1 k)) (.lit 0) (.var 2 n),.slice true (.ro (.var 5 kp)) (.lit 0) (.var 6 m)]⟩,some ⟨1,.of [.int .i64 (.var 10 s2),.slice true (.ro (.var 3 k2)) (.lit 0) (.var 9 n2),.slice true (.ro (.var 7 kp2)) (.lit 0) (.var 31 m2)]⟩,some ⟨1,.of [.int .i64 (.var 11 (A1 cs (i*4))),.int .i64 (.var 12 (A1 cs (i*4+1))),.slice true (.ro (.var 13 (C8 cs (i*4+2)))) (.var 14 (E9 cs (i*4+2))) (.var 15 (C7 cs (i*4+2))),.int .i64 (.var 16 (A1 cs (i*4+3)))]⟩,some ⟨1,.of [.int .i64 (.var 21 (A1 cs2 (i*4))),.int .i64 (.var 22 (A1 cs2 (i*4+1))),.slice true (.ro (.var 23 (C8 cs2 (i*4+2)))) (.var 24 (E9 cs2 (i*4+2))) (.var 25 (C7 cs2 (i*4+2))),.int .i64 (.var 26 (A1 cs2 (i*4+3)))]⟩]) (by simp) ?_
 rw [ry_1];have tl:(∃ x y,([.ptr (.rw 0) 0,.ptr (.rw 1) 0,.bool false,.int .i64 (i:Int),.ptr (.rw 2) 0,.ptr (.rw 3) 0]:List AV)=[.ptr (.rw 0) 0,.ptr (.rw 1) 0,.bool false,.int .i64 (i:Int),x,y])∧∃ X,([some ⟨1,[.int .i64 s,.slice true (.ro k) 0 n,.slice true (.ro kp) 0 m]⟩,some ⟨1,[.int .i64 s2,.slice true (.ro k2) 0 n2,.slice true (.ro kp2) 0 m2]⟩,some (Ok G cs i),some (Ok G cs2 i)]:Hp)=[some ⟨1,[.int .i64 s,.slice true (.ro k) 0 n,.slice true (.ro kp) 0 m]⟩,some ⟨1,[.int .i64 s2,.slice true (.ro k2) 0 n2,.slice true (.ro kp2) 0 m2]⟩]++X:=⟨⟨_,_,rfl⟩,_,rfl⟩
 refine ⟨fun h1=>⟨fun h2=>⟨d1.1,d1.2,d2.1,d2.2,fun h3=>⟨fun h4=>⟨.inl ⟨rfl,?_⟩,tl⟩,fun h4=>⟨.inr ⟨rfl,?_⟩,tl⟩⟩,fun h3=>⟨.inr ⟨rfl,?_⟩,tl⟩⟩,fun h2=>⟨.inr ⟨rfl,?_⟩,tl⟩⟩,fun h1=>⟨.inr ⟨rfl,?_⟩,tl⟩⟩
 all_goals unfold By sA sR sZ N4
 ·rw [h1,h2,h3,h4];rfl
 ·rw [h1,h2,h3,h4];rfl
 ·rw [h1,h2,h3];rfl
 ·rw [h1,h2];rfl
 ·rw [h1];rfl
theorem AWp.preJ {C:A0} {m:Nat} {c:Code} {N:Nat} {live:List Nat} {vs vs':List AV} {H H':Hp} {Q:Post} (h:AWp C m c (fl N live vs) H Q) (hr:Ca live (fl N live vs')=vs') (hv:C2 m vs H vs' H'):AWp C m c (fl N live vs') H' Q:=by
 intro r hr' ρ a w hH hF
 obtain ⟨ρ1,g1,g2,g3,g4⟩:=hv.live (N:=N) (live:=live) (a:=a) hH hF.nod (by rw [←hF.len,Ny]) (by rw [←hr];simp [Ca]) fun j i v q1 q2=>by
  rw [←hr] at q2;simp only [Ca,sH,q1,Option.map_some,zK] at q2;subst q2;by_cases hi:i<(fl N live vs').length
  ·exact hF.val i _ (by simp [List.getD,hi])
  ·simp [List.getD,hi,VR]
 exact Code.wpIn_mono (fun e a w h=>AP.link g3 g4 h) (h r hr' ρ1 a w g1 g2)
theorem aV3:A2 Try.f15 0=.seq (Fp (A2 Try.f15 0)) (.seq (.block 1 (.seq (.region 6 (Lz (A2 Try.f15 0)) true) (J5 (Ox (Fp (J5 (A2 Try.f15 0))))))) (J5 (J5 (A2 Try.f15 0)))):=by kernel_rfl
theorem aH0 (s s2:Int) (k k2 n n2 kp kp2 m m2 i:Nat) {Q:Ex→List AV→Hp→Prop} (hnn:n=n2) (hn:n≤1000000) (hk:I6 (G k) n=true) (hk2:I6 (G k2) n=true) (hd:i<n→Ob G (G k) i=true) (hd2:i<n→Ob G (G k2) i=true)
  (hA:i<n→By G (G k) (G k2) i=true→Q .normal [.ptr (.rw 0) 0,.ptr (.rw 1) 0,.bool false,.int .i64 ((i+1:Nat):Int)] [some ⟨1,[.int .i64 s,.slice true (.ro k) 0 n,.slice true (.ro kp) 0 m]⟩,some ⟨1,[.int .i64 s2,.slice true (.ro k2) 0 n2,.slice true (.ro kp2) 0 m2]⟩]) (hB:i<n→By G (G k) (G k2) i=false→∀ X,Q .ret [.ptr (.rw 0) 0,.ptr (.rw 1) 0,.bool false,.int .i64 (i:Int)] ([some ⟨1,[.int .i64 s,.slice true (.ro k) 0 n,.slice true (.ro kp) 0 m]⟩,some ⟨1,[.int .i64 s2,.slice true (.ro k2) 0 n2,.slice true (.ro kp2) 0 m2]⟩]++X)) (hC:¬i<n→Q (.exit 0) [.ptr (.rw 0) 0,.ptr (.rw 1) 0,.bool false,.int .i64 (i:Int)] [some ⟨1,[.int .i64 s,.slice true (.ro k) 0 n,.slice true (.ro kp) 0 m]⟩,some ⟨1,[.int .i64 s2,.slice true (.ro k2) 0 n2,.slice true (.ro kp2) 0 m2]⟩]) :
  AWp (⟨Try.prog,G,B⟩:A0) 2 (A2 Try.f15 0) (fl 95 [2,3,4,5] [.ptr (.rw 0) 0,.ptr (.rw 1) 0,.bool false,.int .i64 (i:Int)]) [some ⟨1,[.int .i64 s,.slice true (.ro k) 0 n,.slice true (.ro kp) 0 m]⟩,some ⟨1,[.int .i64 s2,.slice true (.ro k2) 0 n2,.slice true (.ro kp2) 0 m2]⟩] (lv 95 [2,3,4,5] Q):=by
 rw [aV3];refine AWp.seq (by simp) ?_;refine AWp.lvd (live:=[2,3,4,5]) (N:=95) (Q:=fun e vs H=>((e=.normal∧i<n)∨(e=.exit 0∧¬i<n))∧vs=[.ptr (.rw 0) 0,.ptr (.rw 1) 0,.bool false,.int .i64 (i:Int)]∧H=[some ⟨1,[.int .i64 s,.slice true (.ro k) 0 n,.slice true (.ro kp) 0 m]⟩,some ⟨1,[.int .i64 s2,.slice true (.ro k2) 0 n2,.slice true (.ro kp2) 0 m2]⟩]) ?_ ?_
 ·refine D1 (C:=(⟨Try.prog,G,B⟩:A0)) (dgR G B (by kernel_rfl)) (fuel:=300) (n0:=20) (m:=2) (vs:=[.ptr (.rw 0) (.lit 0),.ptr (.rw 1) (.lit 0),.bool (.lit false),.int .i64 (.ofN (.var 8 i))]) (H:=[some ⟨1,.of [.int .i64 (.var 4 s),.slice true (.ro (.var 1 k)) (.lit 0) (.var 2 n),.slice true (.ro (.var 5 kp)) (.lit 0) (.var 6 m)]⟩,some ⟨1,.of [.int .i64 (.var 10 s2),.slice true (.ro (.var 3 k2)) (.lit 0) (.var 9 n2),.slice true (.ro (.var 7 kp2)) (.lit 0) (.var 31 m2)]⟩]) (by simp) ?_;rw [rx_a]
  exact ⟨fun h=>⟨.inl ⟨rfl,by have:=yL h;omega⟩,rfl,rfl⟩,fun h=>⟨.inr ⟨rfl,by have:=yP h;omega⟩,rfl,rfl⟩⟩
 ·rintro e vs H ⟨h1,rfl,rfl⟩;rcases h1 with ⟨rfl,hin⟩ | ⟨rfl,hin⟩
  ·have d1:=hd hin;have d2:=hd2 hin;show AWp (⟨Try.prog,G,B⟩:A0) 2 (.seq (.block 1 (.seq (.region 6 (Lz (A2 Try.f15 0)) true) (J5 (Ox (Fp (J5 (A2 Try.f15 0))))))) (J5 (J5 (A2 Try.f15 0)))) (fl 95 [2,3,4,5] [.ptr (.rw 0) 0,.ptr (.rw 1) 0,.bool false,.int .i64 (i:Int)]) [some ⟨1,[.int .i64 s,.slice true (.ro k) 0 n,.slice true (.ro kp) 0 m]⟩,some ⟨1,[.int .i64 s2,.slice true (.ro k2) 0 n2,.slice true (.ro kp2) 0 m2]⟩] (lv 95 [2,3,4,5] Q)
   have fin:∀ e vs H,((e=Ex.normal∧By G (G k) (G k2) i=true)∨(e=.ret∧By G (G k) (G k2) i=false))∧(∃ x y,vs=[.ptr (.rw 0) 0,.ptr (.rw 1) 0,.bool false,.int .i64 (i:Int),x,y])∧(∃ X,H=([some ⟨1,[.int .i64 s,.slice true (.ro k) 0 n,.slice true (.ro kp) 0 m]⟩,some ⟨1,[.int .i64 s2,.slice true (.ro k2) 0 n2,.slice true (.ro kp2) 0 m2]⟩]:Hp)++X)→T0 1 (Ik (uI (⟨Try.prog,G,B⟩:A0)) 2 (J5 (J5 (A2 Try.f15 0))) (lv 95 [2,3,4,5] Q)) e (fl 95 [2,3,4,5,6,7] vs) H:=by
    rintro e vs H ⟨h1,⟨x,y,rfl⟩,X,rfl⟩;rcases h1 with ⟨rfl,he⟩ | ⟨rfl,he⟩
    ·show AWp (⟨Try.prog,G,B⟩:A0) 2 (J5 (J5 (A2 Try.f15 0))) (fl 95 [2,3,4,5,6,7] _) _ (lv 95 [2,3,4,5] Q);refine AWp.rd [2,3,4,5] Ny ?_;show AWp (⟨Try.prog,G,B⟩:A0) 2 (J5 (J5 (A2 Try.f15 0))) (fl 95 [2,3,4,5] [.ptr (.rw 0) 0,.ptr (.rw 1) 0,.bool false,.int .i64 (i:Int)]) _ (lv 95 [2,3,4,5] Q);refine AWp.forget (by simp) (by simp [H9,A3,A8]) (by simp [A3,A8]) ?_
     refine D1 (C:=(⟨Try.prog,G,B⟩:A0)) (dgR G B (by kernel_rfl)) (fuel:=300) (n0:=20) (m:=2) (vs:=[.ptr (.rw 0) (.lit 0),.ptr (.rw 1) (.lit 0),.bool (.lit false),.int .i64 (.ofN (.var 8 i))]) (H:=[some ⟨1,.of [.int .i64 (.var 4 s),.slice true (.ro (.var 1 k)) (.lit 0) (.var 2 n),.slice true (.ro (.var 5 kp)) (.lit 0) (.var 6 m)]⟩,some ⟨1,.of [.int .i64 (.var 10 s2),.slice true (.ro (.var 3 k2)) (.lit 0) (.var 9 n2),.slice true (.ro (.var 7 kp2)) (.lit 0) (.var 31 m2)]⟩]) (by simp) ?_;rw [rz_1,B6 (by omega)];exact hA hin he
    ·exact hB hin he X
   refine AWp.seq (by simp) (AWp.block (AWp.seq (by simp) ?_));show AWp (⟨Try.prog,G,B⟩:A0) 2 (.region 6 (Lz (A2 Try.f15 0)) true) (fl 95 [2,3,4,5,6,7] [.ptr (.rw 0) 0,.ptr (.rw 1) 0,.bool false,.int .i64 (i:Int),.undef,.undef]) [some ⟨1,[.int .i64 s,.slice true (.ro k) 0 n,.slice true (.ro kp) 0 m]⟩,some ⟨1,[.int .i64 s2,.slice true (.ro k2) 0 n2,.slice true (.ro kp2) 0 m2]⟩] _
   refine AWp.lvd (live:=[2,3,4,5,6,7]) (N:=95) (Q:=fun e vs H=>e=.normal∧((vs=[.ptr (.rw 0) 0,.ptr (.rw 1) 0,.bool false,.int .i64 (i:Int),.ptr (.rw 2) 0,.ptr (.rw 3) 0]∧H=[some ⟨1,[.int .i64 s,.slice true (.ro k) 0 n,.slice true (.ro kp) 0 m]⟩,some ⟨1,[.int .i64 s2,.slice true (.ro k2) 0 n2,.slice true (.ro kp2) 0 m2]⟩,some (Ok G (G k) i),some (Ok G (G k2) i)])∨(vs=[.ptr (.rw 0) 0,.ptr (.rw 1) 0,.bool false,.int .i64 (i:Int),.ptr (.rw 3) 0,.ptr (.rw 2) 0]∧H=[some ⟨1,[.int .i64 s,.slice true (.ro k) 0 n,.slice true (.ro kp) 0 m]⟩,some ⟨1,[.int .i64 s2,.slice true (.ro k2) 0 n2,.slice true (.ro kp2) 0 m2]⟩,some (Ok G (G k2) i),some (Ok G (G k) i)]))) ?_ ?_
   ·refine dtwo (C:=(⟨Try.prog,G,B⟩:A0)) (K:=Dc Try.prog [] [] [] 2) (D7 (inl:=[]) (ls:=[]) (M:=2) (K6 G B) (by kernel_rfl) .nil .nil) (fuel:=300) (n0:=20) (m:=2) (i:=10) (j:=11) (vs:=[.ptr (.rw 0) (.lit 0),.ptr (.rw 1) (.lit 0),.bool (.lit false),.int .i64 (.ofN (.var 8 i)),.undef,.undef]) (H:=[some ⟨1,.of [.int .i64 (.var 4 s),.slice true (.ro (.var 1 k)) (.lit 0) (.var 2 n),.slice true (.ro (.var 5 kp)) (.lit 0) (.var 6 m)]⟩,some ⟨1,.of [.int .i64 (.var 10 s2),.slice true (.ro (.var 3 k2)) (.lit 0) (.var 9 n2),.slice true (.ro (.var 7 kp2)) (.lit 0) (.var 31 m2)]⟩]) (by simp) rfl (by kernel_rfl) (by kernel_rfl) ?_ ?_
    ·rw [rx_1];exact ⟨yM (by omega),yM (by omega),M9 hk hin,yM (by omega),yM (by omega),M9 hk2 hin,rfl,.inl ⟨rfl,rfl⟩⟩
    ·rw [rx_2];exact ⟨yM (by omega),yM (by omega),M9 hk hin,yM (by omega),yM (by omega),M9 hk2 hin,rfl,.inr ⟨rfl,rfl⟩⟩
   ·rintro e vs H ⟨rfl,h⟩;rcases h with ⟨rfl,rfl⟩ | ⟨rfl,rfl⟩
    ·exact AWp.lvd (xV G B s s2 k k2 n n2 kp kp2 m m2 i (G k) (G k2) d1 d2) fin
    ·refine AWp.preJ (AWp.lvd (xV G B s s2 k k2 n n2 kp kp2 m m2 i (G k) (G k2) d1 d2) fin) rfl ?_;refine C2.renM (H:=[some ⟨1,[.int .i64 s,.slice true (.ro k) 0 n,.slice true (.ro kp) 0 m]⟩,some ⟨1,[.int .i64 s2,.slice true (.ro k2) 0 n2,.slice true (.ro kp2) 0 m2]⟩,some (Ok G (G k) i),some (Ok G (G k2) i)]) (θ:=[0,1,3,2]) (by simp) Vk (by decide) ⟨⟨rfl,rfl⟩,⟨rfl,rfl⟩,⟨rfl,rfl⟩,⟨rfl,rfl⟩,trivial⟩ rfl ⟨rfl,rfl,rfl,rfl,rfl,rfl,trivial⟩
  ·exact hC hin
end
def Ms (G:Nat→List AV) (cs:List AV) (n:Nat):Bool:=I2 (Ob G cs) n
def Dy (ps ps2:List AV) (j:Nat):Bool:=(xP ps j==xP ps2 j)&&(hP ps j==hP ps2 j)
def Ri (G:Nat→List AV):List AV→Bool:=fun xs=>match xs with
 | [.agg cs,.agg cs2,.int _ n]=>I2 (By G cs cs2) n.toNat
 | _=>false
def Yx:List AV→Bool:=fun xs=>match xs with
 | [.agg ps,.agg ps2,.int _ m]=>I2 (Dy ps ps2) m.toNat
 | _=>false
theorem Yu {G:Nat→List AV} {cs cs2:List AV} {n:Nat}:Ri G [.agg cs,.agg cs2,.int .i64 (n:Int)]=I2 (By G cs cs2) n:=by simp only [Ri,F9]
theorem eU {cs cs2:List AV} {n:Nat}:Yx [.agg cs,.agg cs2,.int .i64 (n:Int)]=I2 (Dy cs cs2) n:=by simp only [Yx,F9]
def vU (G:Nat→List AV) (cs cs2:List AV) (n nv:Nat):Bool:=Nat.beq n nv&&(Nat.ble n 1000000&&((I6 cs n&&I6 cs2 n)&&(Ms G cs n&&Ms G cs2 n)))
def vW (ps ps2:List AV) (m m2:Nat):Bool:=Nat.beq m m2&&(Nat.ble m 1000000&&(Q4 ps m&&Q4 ps2 m))
theorem iY {G:Nat→List AV} {cs cs2:List AV} {n nv:Nat}:vU G cs cs2 n nv=true↔n=nv∧n≤1000000∧(I6 cs n=true∧I6 cs2 n=true)∧(Ms G cs n=true∧Ms G cs2 n=true):=by
 unfold vU;simp only [zN];exact ⟨fun ⟨h1,h2,h3⟩=>⟨yV h1,rR h2,h3⟩,fun ⟨h1,h2,h3⟩=>⟨by rw [h1];exact zA3 _,Nat.ble_eq_true_of_le h2,h3⟩⟩
theorem iZ {ps ps2:List AV} {m m2:Nat}:vW ps ps2 m m2=true↔m=m2∧m≤1000000∧(Q4 ps m=true∧Q4 ps2 m=true):=by
 unfold vW;simp only [zN];exact ⟨fun ⟨h1,h2,h3⟩=>⟨yV h1,rR h2,h3⟩,fun ⟨h1,h2,h3⟩=>⟨by rw [h1];exact zA3 _,Nat.ble_eq_true_of_le h2,h3⟩⟩
def rsQ (G:Nat→List AV) (s sv:Int) (k k2 n nv kp kp2 m m2:Nat):List AV→Bool:=Pj (vU G (G k) (G k2) n nv) [.ptr (.rw 0) 0,.ptr (.rw 1) 0,.bool false,.int .i64 0] [some ⟨1,[.int .i64 s,.slice true (.ro k) 0 n,.slice true (.ro kp) 0 m]⟩,some ⟨1,[.int .i64 sv,.slice true (.ro k2) 0 nv,.slice true (.ro kp2) 0 m2]⟩]
def rsO (G:Nat→List AV) (s sv:Int) (k k2 n nv kp kp2 m m2:Nat):LOut:=.tst (.uf 1722 (Ri G) [.agg (.ro (.var 1 k)),.agg (.ro (.var 3 k2)),.int .i64 (.ofN (.var 2 n))]) (.one (.exit 0) [.ptr (.rw 0) (.lit 0),.ptr (.rw 1) (.lit 0),.undef,.undef] [some ⟨1,.of [.int .i64 (.var 4 s),.slice true (.ro (.var 1 k)) (.lit 0) (.var 2 n),.slice true (.ro (.var 5 kp)) (.lit 0) (.var 6 m)]⟩,some ⟨1,.of [.int .i64 (.var 10 sv),.slice true (.ro (.var 3 k2)) (.lit 0) (.var 9 nv),.slice true (.ro (.var 7 kp2)) (.lit 0) (.var 31 m2)]⟩]) (.one .ret [.undef,.undef,.bool (.lit false),.undef] [some ⟨1,.of [.int .i64 (.var 4 s),.slice true (.ro (.var 1 k)) (.lit 0) (.var 2 n),.slice true (.ro (.var 5 kp)) (.lit 0) (.var 6 m)]⟩,some ⟨1,.of [.int .i64 (.var 10 sv),.slice true (.ro (.var 3 k2)) (.lit 0) (.var 9 nv),.slice true (.ro (.var 7 kp2)) (.lit 0) (.var 31 m2)]⟩])
def rdQ (G:Nat→List AV) (s sv:Int) (k k2 n nv kp kp2 m m2:Nat):List AV→Bool:=Pj (vW (G kp) (G kp2) m m2) [.ptr (.rw 0) 0,.ptr (.rw 1) 0,.undef,.int .i64 0] [some ⟨1,[.int .i64 s,.slice true (.ro k) 0 n,.slice true (.ro kp) 0 m]⟩,some ⟨1,[.int .i64 sv,.slice true (.ro k2) 0 nv,.slice true (.ro kp2) 0 m2]⟩]
def rdO (s sv:Int) (k k2 n nv kp kp2 m m2:Nat):LOut:=.tst (.uf 1721 Yx [.agg (.ro (.var 5 kp)),.agg (.ro (.var 7 kp2)),.int .i64 (.ofN (.var 6 m))]) (.one (.exit 2) [.undef,.undef,.undef,.undef] [some ⟨1,.of [.int .i64 (.var 4 s),.slice true (.ro (.var 1 k)) (.lit 0) (.var 2 n),.slice true (.ro (.var 5 kp)) (.lit 0) (.var 6 m)]⟩,some ⟨1,.of [.int .i64 (.var 10 sv),.slice true (.ro (.var 3 k2)) (.lit 0) (.var 9 nv),.slice true (.ro (.var 7 kp2)) (.lit 0) (.var 31 m2)]⟩]) (.one .ret [.undef,.undef,.bool (.lit false),.undef] [some ⟨1,.of [.int .i64 (.var 4 s),.slice true (.ro (.var 1 k)) (.lit 0) (.var 2 n),.slice true (.ro (.var 5 kp)) (.lit 0) (.var 6 m)]⟩,some ⟨1,.of [.int .i64 (.var 10 sv),.slice true (.ro (.var 3 k2)) (.lit 0) (.var 9 nv),.slice true (.ro (.var 7 kp2)) (.lit 0) (.var 31 m2)]⟩])
theorem t15 (G:Nat→List AV) (s sv:Int) (k k2 n nv kp kp2 m m2:Nat) (Q:Ex→List AV→Hp→Prop) (R:AV→Hp→Prop):vT G Q R (G0 (Dc Try.prog [] [] [(D6 1723 (rsQ G s sv k k2 n nv kp kp2 m m2) 0 95 [2,3,4,5] (rsO G s sv k k2 n nv kp kp2 m m2)),(D6 1724 (rdQ G s sv k k2 n nv kp kp2 m m2) 2 95 [2,3,4,8] (rdO s sv k k2 n nv kp kp2 m m2))] 2) 300 20 Try.f15 [.agg (.of [.int .i64 (.var 4 s),.slice true (.ro (.var 1 k)) (.lit 0) (.var 2 n),.slice true (.ro (.var 5 kp)) (.lit 0) (.var 6 m)]),.agg (.of [.int .i64 (.var 10 sv),.slice true (.ro (.var 3 k2)) (.lit 0) (.var 9 nv),.slice true (.ro (.var 7 kp2)) (.lit 0) (.var 31 m2)])] [] 0)=(
  (((s:Int)==sv)=true→((((n:Int):Int)==(nv:Int))=true→((((m:Int):Int)==(m2:Int))=true→(rsQ G s sv k k2 n nv kp kp2 m m2) [.agg ([.ptr (.rw 0) 0,.ptr (.rw 1) 0,.bool false,.int .i64 0]:List AV),.agg ([.tup [.int .i64 1,.agg ([.int .i64 s,.slice true (.ro k) 0 n,.slice true (.ro kp) 0 m]:List AV)],.tup [.int .i64 1,.agg ([.int .i64 sv,.slice true (.ro k2) 0 nv,.slice true (.ro kp2) 0 m2]:List AV)]]:List AV)]=true∧((Ri G) [.agg (G k),.agg (G k2),.int .i64 ((n:Int))]=true→(rdQ G s sv k k2 n nv kp kp2 m m2) [.agg ([.ptr (.rw 0) 0,.ptr (.rw 1) 0,.undef,.int .i64 0]:List AV),.agg ([.tup [.int .i64 1,.agg ([.int .i64 s,.slice true (.ro k) 0 n,.slice true (.ro kp) 0 m]:List AV)],.tup [.int .i64 1,.agg ([.int .i64 sv,.slice true (.ro k2) 0 nv,.slice true (.ro kp2) 0 m2]:List AV)]]:List AV)]=true∧(Yx [.agg (G kp),.agg (G kp2),.int .i64 ((m:Int))]=true→R (.bool true) [])∧(Yx [.agg (G kp),.agg (G kp2),.int .i64 ((m:Int))]=false→R (.bool false) []))∧((Ri G) [.agg (G k),.agg (G k2),.int .i64 ((n:Int))]=false→R (.bool false) []))∧((((m:Int):Int)==(m2:Int))=false→R (.bool false) []))∧((((n:Int):Int)==(nv:Int))=false→R (.bool false) []))∧(((s:Int)==sv)=false→R (.bool false) [])):=by kernel_rfl
end Go.Am
