/-
  Images: which are the same: the loops' laws, the functions. Images: which are the same: the summaries.
-/
import Derived.Test.YthejjolnlngahaaPart9
import Derived.Test.YthejjolnlngahaaBase5
import Derived.Test.YthejjolnlngahaaBase6
namespace Go.Am
open Go.Proofs
set_option maxRecDepth 100000
section
variable (G:Nat→List AV) (B:Nat)
def Pw (s:Int) (sv:Int) (k:Nat) (k2:Nat) (n:Nat) (nv:Nat) (kp:Nat) (kp2:Nat) (m:Nat) (m2:Nat):Hp:=[some ⟨1,([.int .i64 s,.slice true (.ro k) 0 n,.slice true (.ro kp) 0 m]:List AV)⟩,some ⟨1,([.int .i64 sv,.slice true (.ro k2) 0 nv,.slice true (.ro kp2) 0 m2]:List AV)⟩]
theorem rs_e (s sv:Int) (k k2 n nv kp kp2 m m2 i:Nat) (Q:Ex→List AV→Hp→Prop) (R:AV→Hp→Prop):vT G Q R (G3 (Dc Try.prog [] [] [] 2) 300 20 2 (A2 Try.f15 1) 95 [2,3,4,8] [.ptr (.rw 0) (.lit 0),.ptr (.rw 1) (.lit 0),.undef,.int .i64 (.ofN (.var 8 i))] [some ⟨1,.of [.int .i64 (.var 4 s),.slice true (.ro (.var 1 k)) (.lit 0) (.var 2 n),.slice true (.ro (.var 5 kp)) (.lit 0) (.var 6 m)]⟩,some ⟨1,.of [.int .i64 (.var 10 sv),.slice true (.ro (.var 3 k2)) (.lit 0) (.var 9 nv),.slice true (.ro (.var 7 kp2)) (.lit 0) (.var 31 m2)]⟩])=(
  (decide (((i:Int):Int)<(m:Int))=true→decide ((0:Int)≤(i:Int))=true∧decide (((i:Int):Int)<(m:Int))=true∧E5 (G kp) (i*2) [.int .i64,.bool]=true∧decide ((0:Int)≤(i:Int))=true∧decide (((i:Int):Int)<(m2:Int))=true∧E5 (G kp2) (i*2) [.int .i64,.bool]=true∧(((A1 (G kp) (i*2):Int)==A1 (G kp2) (i*2))=true→(E1 (G kp) (i*2+1)=true→(E1 (G kp2) (i*2+1)=true→Q .normal [.ptr (.rw 0) 0,.ptr (.rw 1) 0,.undef,.int .i64 (IntKind.wrap .i64 ((i:Int)+1))] (Pw s sv k k2 n nv kp kp2 m m2))∧(E1 (G kp2) (i*2+1)=false→Q .ret [.ptr (.rw 0) 0,.ptr (.rw 1) 0,.bool false,.int .i64 ((i:Int))] (Pw s sv k k2 n nv kp kp2 m m2)))∧(E1 (G kp) (i*2+1)=false→(E1 (G kp2) (i*2+1)=true→Q .ret [.ptr (.rw 0) 0,.ptr (.rw 1) 0,.bool false,.int .i64 ((i:Int))] (Pw s sv k k2 n nv kp kp2 m m2))∧(E1 (G kp2) (i*2+1)=false→Q .normal [.ptr (.rw 0) 0,.ptr (.rw 1) 0,.undef,.int .i64 (IntKind.wrap .i64 ((i:Int)+1))] (Pw s sv k k2 n nv kp kp2 m m2))))∧(((A1 (G kp) (i*2):Int)==A1 (G kp2) (i*2))=false→Q .ret [.ptr (.rw 0) 0,.ptr (.rw 1) 0,.bool false,.int .i64 ((i:Int))] (Pw s sv k k2 n nv kp kp2 m m2)))∧(decide (((i:Int):Int)<(m:Int))=false→Q (.exit 2) [.ptr (.rw 0) 0,.ptr (.rw 1) 0,.undef,.int .i64 ((i:Int))] (Pw s sv k k2 n nv kp kp2 m m2))):=by kernel_rfl
theorem yE {ps ps2:List AV} {j:Nat} (h1:(A1 ps (j*2)==A1 ps2 (j*2))=true) (h2:E1 ps (j*2+1)=E1 ps2 (j*2+1)):Dy ps ps2 j=true:=by unfold Dy xP hP;rw [h1,h2];simp
theorem yD {ps ps2:List AV} {j:Nat} (h2:E1 ps (j*2+1)≠E1 ps2 (j*2+1)):Dy ps ps2 j=false:=by unfold Dy xP hP;rw [beq_eq_false_iff_ne.2 h2,Bool.and_false]
theorem plEq_3 {ps ps2:List AV} {j:Nat} (h1:(A1 ps (j*2)==A1 ps2 (j*2))=false):Dy ps ps2 j=false:=by unfold Dy xP hP;rw [h1,Bool.false_and]
theorem oR {G:Nat→List AV} {cs:List AV} {n i:Nat} (h:Ms G cs n=true) (hi:i<n):Ob G cs i=true:=F6.1 h i hi
theorem rsL_ok (s sv:Int) (k k2 n nv kp kp2 m m2:Nat):H5 (⟨Try.prog,G,B⟩:A0) 2 (A2 Try.f15 0) (D6 1723 (rsQ G s sv k k2 n nv kp kp2 m m2) 0 95 [2,3,4,5] (rsO G s sv k k2 n nv kp kp2 m m2)):=by
 refine Dq rfl fun hc=>?_;obtain ⟨hnn,hn,⟨hs,hs2⟩,hd,hd2⟩:=iY.1 hc;refine X7 (M4 (fun j=>!By G (G k) (G k2) j) n) (fun i=>[.ptr (.rw 0) 0,.ptr (.rw 1) 0,.bool false,.int .i64 (i:Int)]) (fun _=>[some ⟨1,[.int .i64 s,.slice true (.ro k) 0 n,.slice true (.ro kp) 0 m]⟩,some ⟨1,[.int .i64 sv,.slice true (.ro k2) 0 nv,.slice true (.ro kp2) 0 m2]⟩]) fun i hi=>?_;have hle:M4 (fun j=>!By G (G k) (G k2) j) n≤n:=K5.1;refine aH0 G B s sv k k2 n nv kp kp2 m m2 i hnn hn hs hs2 (fun h=>oR hd h) (fun h=>oR hd2 h) (fun hin he=>?_) (fun hin he X=>?_) fun hin=>?_
 ·exact ⟨Jh hi hin he,.inl ⟨rfl,rfl⟩⟩
 ·refine .inr ⟨?_,rfl,.inr (C2.same (H:=[some ⟨1,[.int .i64 s,.slice true (.ro k) 0 n,.slice true (.ro kp) 0 m]⟩,some ⟨1,[.int .i64 sv,.slice true (.ro k2) 0 nv,.slice true (.ro kp2) 0 m2]⟩]) (by simp) (by simp [H9,A3,A8]) (by simp [fv,A8,vVs,vV,vB]))⟩;show Ri G [.agg (G k),.agg (G k2),.int .i64 (n:Int)]=false;rw [Yu,P5 hin he]
 ·refine .inl ⟨?_,rfl,.inl ⟨by simp [vVs,vV,vR,vN,wk],rfl⟩⟩;show Ri G [.agg (G k),.agg (G k2),.int .i64 (n:Int)]=true;rw [Yu];exact Lh hi (by omega)
theorem rdL_ok (s sv:Int) (k k2 n nv kp kp2 m m2:Nat):H5 (⟨Try.prog,G,B⟩:A0) 2 (A2 Try.f15 1) (D6 1724 (rdQ G s sv k k2 n nv kp kp2 m m2) 2 95 [2,3,4,8] (rdO s sv k k2 n nv kp kp2 m m2)):=by
 refine Dq rfl fun hc=>?_;obtain ⟨rfl,hn,hp,hp2⟩:=iZ.1 hc;refine X7 (M4 (fun j=>!Dy (G kp) (G kp2) j) m) (fun i=>[.ptr (.rw 0) 0,.ptr (.rw 1) 0,.undef,.int .i64 (i:Int)]) (fun _=>[some ⟨1,[.int .i64 s,.slice true (.ro k) 0 n,.slice true (.ro kp) 0 m]⟩,some ⟨1,[.int .i64 sv,.slice true (.ro k2) 0 nv,.slice true (.ro kp2) 0 m]⟩]) fun i hi=>?_
 refine D1 (C:=(⟨Try.prog,G,B⟩:A0)) (dgR G B (by kernel_rfl)) (fuel:=300) (n0:=20) (m:=2) (c:=A2 Try.f15 1) (vs:=[.ptr (.rw 0) (.lit 0),.ptr (.rw 1) (.lit 0),.undef,.int .i64 (.ofN (.var 8 i))]) (H:=[some ⟨1,.of [.int .i64 (.var 4 s),.slice true (.ro (.var 1 k)) (.lit 0) (.var 2 n),.slice true (.ro (.var 5 kp)) (.lit 0) (.var 6 m)]⟩,some ⟨1,.of [.int .i64 (.var 10 sv),.slice true (.ro (.var 3 k2)) (.lit 0) (.var 9 nv),.slice true (.ro (.var 7 kp2)) (.lit 0) (.var 31 m)]⟩]) (by simp) ?_;rw [rs_e];have hle:M4 (fun j=>!Dy (G kp) (G kp2) j) m≤m:=K5.1
 have fb:H9 2 [some ⟨1,[.int .i64 s,.slice true (.ro k) 0 n,.slice true (.ro kp) 0 m]⟩,some ⟨1,[.int .i64 sv,.slice true (.ro k2) 0 nv,.slice true (.ro kp2) 0 m]⟩]=true:=by simp [H9,A3,A8]
 refine ⟨fun h1=>?_,fun h1=>?_⟩
 ·have h1':=yL h1;have hin:i<m:=by omega
  rw [B6 (n:=(i:Int)+1) (by omega)];have no:Dy (G kp) (G kp2) i=false→Yx [.agg (G kp),.agg (G kp2),.int .i64 (m:Int)]=false:=fun h=>by rw [eU,P5 hin h]
  have yes:Dy (G kp) (G kp2) i=true→i<M4 (fun j=>!Dy (G kp) (G kp2) j) m:=fun h=>Jh hi hin h;refine ⟨yM (by omega),h1,(S1 hp hin).1,yM (by omega),h1,(S1 hp2 hin).1,fun h2=>⟨fun h3=>⟨fun h4=>?_,fun h4=>?_⟩,fun h3=>⟨fun h4=>?_,fun h4=>?_⟩⟩,fun h2=>?_⟩
  ·exact ⟨yes (yE h2 (h3.trans h4.symm)),.inl ⟨rfl,rfl⟩⟩
  ·exact .inr ⟨no (yD fun e=>by have:=h3.symm.trans (e.trans h4);simp at this),rfl,.inr (C2.refl (H:=[some ⟨1,[.int .i64 s,.slice true (.ro k) 0 n,.slice true (.ro kp) 0 m]⟩,some ⟨1,[.int .i64 sv,.slice true (.ro k2) 0 nv,.slice true (.ro kp2) 0 m]⟩]) (by simp) fb (by simp [fv,A8,vVs,vV,vB]))⟩
  ·exact .inr ⟨no (yD fun e=>by have:=h3.symm.trans (e.trans h4);simp at this),rfl,.inr (C2.refl (H:=[some ⟨1,[.int .i64 s,.slice true (.ro k) 0 n,.slice true (.ro kp) 0 m]⟩,some ⟨1,[.int .i64 sv,.slice true (.ro k2) 0 nv,.slice true (.ro kp2) 0 m]⟩]) (by simp) fb (by simp [fv,A8,vVs,vV,vB]))⟩
  ·exact ⟨yes (yE h2 (h3.trans h4.symm)),.inl ⟨rfl,rfl⟩⟩
  ·exact .inr ⟨no (plEq_3 h2),rfl,.inr (C2.refl (H:=[some ⟨1,[.int .i64 s,.slice true (.ro k) 0 n,.slice true (.ro kp) 0 m]⟩,some ⟨1,[.int .i64 sv,.slice true (.ro k2) 0 nv,.slice true (.ro kp2) 0 m]⟩]) (by simp) fb (by simp [fv,A8,vVs,vV,vB]))⟩
 ·have h1':=yP h1;refine .inl ⟨?_,rfl,.inl ⟨by simp [vVs,vV,wk],rfl⟩⟩;show Yx [.agg (G kp),.agg (G kp2),.int .i64 (m:Int)]=true;rw [eU];exact Lh hi (by omega)
def plsF (ps:List AV) (m:Nat) (ps2:List AV) (m2:Nat):Bool:=Nat.beq m m2&&I2 (Dy ps ps2) m
def secF (G:Nat→List AV) (cs:List AV) (n:Nat) (cs2:List AV) (n2:Nat):Bool:=Nat.beq n n2&&I2 (By G cs cs2) n
def Cs (ps:List AV) (m:Nat):Bool:=Q4 ps m&&Nat.ble m 1000000
def Co (G:Nat→List AV) (cs:List AV) (n:Nat):Bool:=I6 cs n&&(Ms G cs n&&Nat.ble n 1000000)
theorem ieq {n m:Nat}:((n:Int)==(m:Int))=Nat.beq n m:=by
 rw [Bool.eq_iff_iff,beq_iff_eq];exact ⟨fun h=>by rw [Int.ofNat_inj.1 h];exact zA3 _,fun h=>by rw [yV h]⟩
def Ni (G:Nat→List AV) (s:Int) (cs:List AV) (n:Nat) (ps:List AV) (m:Nat) (s2:Int) (cs2:List AV) (n2:Nat) (ps2:List AV) (m2:Nat):Bool:=(s==s2)&&(plsF ps m ps2 m2&&secF G cs n cs2 n2)
theorem uH (s sv:Int) (k k2 n nv kp kp2 m m2:Nat) (h1:Co G (G k) n=true) (h2:Co G (G k2) nv=true) (h3:Cs (G kp) m=true) (h4:Cs (G kp2) m2=true):ACalls (⟨Try.prog,G,B⟩:A0) 15 [.agg [.int .i64 s,.slice true (.ro k) 0 n,.slice true (.ro kp) 0 m],.agg [.int .i64 sv,.slice true (.ro k2) 0 nv,.slice true (.ro kp2) 0 m2]] [] fun v _=>v=.bool (Ni G s (G k) n (G kp) m sv (G k2) nv (G kp2) m2):=by
 unfold Co at h1 h2;unfold Cs at h3 h4;rw [zN,zN] at h1 h2;rw [zN] at h3 h4
 have:=C1 (C:=(⟨Try.prog,G,B⟩:A0)) (fuel:=300) (n0:=20) (f:=15) (fn:=Try.f15) (args:=[.agg (.of [.int .i64 (.var 4 s),.slice true (.ro (.var 1 k)) (.lit 0) (.var 2 n),.slice true (.ro (.var 5 kp)) (.lit 0) (.var 6 m)]),.agg (.of [.int .i64 (.var 10 sv),.slice true (.ro (.var 3 k2)) (.lit 0) (.var 9 nv),.slice true (.ro (.var 7 kp2)) (.lit 0) (.var 31 m2)])]) (H:=[]) (keep:=0)
  (R:=fun v _=>v=.bool (Ni G s (G k) n (G kp) m sv (G k2) nv (G kp2) m2)) (D7 (inl:=[]) (ls:=[(D6 1723 (rsQ G s sv k k2 n nv kp kp2 m m2) 0 95 [2,3,4,5] (rsO G s sv k k2 n nv kp kp2 m m2)),(D6 1724 (rdQ G s sv k k2 n nv kp kp2 m m2) 2 95 [2,3,4,8] (rdO s sv k k2 n nv kp kp2 m m2))]) (M:=2) (K6 G B) (by kernel_rfl) .nil (.cast (.cons (i:=0) (by kernel_rfl) rfl (rsL_ok G B s sv k k2 n nv kp kp2 m m2) (.cons (i:=2) (by kernel_rfl) rfl (rdL_ok G B s sv k k2 n nv kp kp2 m m2) .nil)) (by kernel_rfl))) (by kernel_rfl) (by kernel_rfl) (by kernel_rfl) (by
  rw [t15,Yu,eU,ieq,ieq];refine ⟨fun e1=>⟨fun e2=>⟨fun e3=>⟨Av (iY.2 ⟨yV e2,rR h1.2.2,⟨h1.1,by rw [yV e2];exact h2.1⟩,h1.2.1,by rw [yV e2];exact h2.2.1⟩) rfl rfl,fun e4=>⟨Av (iZ.2 ⟨yV e3,rR h3.2,h3.1,by rw [yV e3];exact h4.1⟩) rfl rfl,fun e5=>?_,fun e5=>?_⟩,fun e4=>?_⟩,fun e3=>?_⟩,fun e2=>?_⟩,fun e1=>?_⟩
  all_goals unfold Ni plsF secF
  ·rw [e1,e2,e3,e4,e5];rfl
  ·rw [e3,e5];simp
  ·rw [e2,e4];simp
  ·rw [e3];simp
  ·rw [e2];simp
  ·rw [e1];simp)
 exact this.monoK fun v H h=>h
end
section
variable (G:Nat→List AV) (B:Nat)
theorem mu_b (s:Int) (k n kp m i:Nat) (x:Int) (Q:Ex→List AV→Hp→Prop) (R:AV→Hp→Prop):vT G Q R (G3 (Dc Try.prog [] [] [] 1) 300 20 1 (A2 Try.f10 0) 40 [1,2,3,4] [.ptr (.rw 0) (.lit 0),.bool (.lit false),.int .i64 (.var 8 x),.int .i64 (.ofN (.var 9 i))] [some ⟨1,.of [.int .i64 (.var 4 s),.slice true (.ro (.var 1 k)) (.lit 0) (.var 2 n),.slice true (.ro (.var 5 kp)) (.lit 0) (.var 6 m)]⟩])=(
  (decide (((i:Int):Int)<(n:Int))=true→(decide (((i:Int):Int)<20)=true→decide ((0:Int)≤(i:Int))=true∧decide (((i:Int):Int)<(n:Int))=true∧Fd (G k) (i*4+2)=true∧Q .normal [.ptr (.rw 0) 0,.bool false,.int .i64 (IntKind.wrap .i64 (x+(if 99999<((C7 (G k) (i*4+2):Nat):Int) then 99999 else ((C7 (G k) (i*4+2):Nat):Int)))),.int .i64 (IntKind.wrap .i64 ((i:Int)+1))] [some ⟨1,([.int .i64 s,.slice true (.ro k) 0 n,.slice true (.ro kp) 0 m]:List AV)⟩])∧(decide (((i:Int):Int)<20)=false→Q (.exit 0) [.ptr (.rw 0) 0,.bool false,.int .i64 x,.int .i64 ((i:Int))] [some ⟨1,([.int .i64 s,.slice true (.ro k) 0 n,.slice true (.ro kp) 0 m]:List AV)⟩]))∧(decide (((i:Int):Int)<(n:Int))=false→Q (.exit 0) [.ptr (.rw 0) 0,.bool false,.int .i64 x,.int .i64 ((i:Int))] [some ⟨1,([.int .i64 s,.slice true (.ro k) 0 n,.slice true (.ro kp) 0 m]:List AV)⟩])):=by kernel_rfl
def Ns (cs:List AV):Nat→Int
 | 0=>0
 | i+1=>IntKind.wrap .i64 (Ns cs i+(if 99999<((C7 cs (i*4+2):Nat):Int) then 99999 else ((C7 cs (i*4+2):Nat):Int)))
def muU:List AV→Int:=fun xs=>match xs with
 | [.agg cs,.int _ n]=>Ns cs (min n.toNat 20)
 | _=>0
def muQ (G:Nat→List AV) (s:Int) (k n kp m:Nat):List AV→Bool:=Pj (I6 (G k) n) [.ptr (.rw 0) 0,.bool false,.int .i64 0,.int .i64 0] [some ⟨1,[.int .i64 s,.slice true (.ro k) 0 n,.slice true (.ro kp) 0 m]⟩]
def muO (s:Int) (k n kp m:Nat):LOut:=.one (.exit 0) [.ptr (.rw 0) (.lit 0),.undef,.int .i64 (.uf 1750 muU [.agg (.ro (.var 1 k)),.int .i64 (.ofN (.var 2 n))]),.undef] [some ⟨1,.of [.int .i64 (.var 4 s),.slice true (.ro (.var 1 k)) (.lit 0) (.var 2 n),.slice true (.ro (.var 5 kp)) (.lit 0) (.var 6 m)]⟩]
theorem t10 (s:Int) (k n kp m:Nat) (Q:Ex→List AV→Hp→Prop) (R:AV→Hp→Prop):vT G Q R (G0 (Dc Try.prog [] [] [(D6 1751 (muQ G s k n kp m) 0 40 [1,2,3,4] (muO s k n kp m))] 1) 300 20 Try.f10 [.agg (.of [.int .i64 (.var 4 s),.slice true (.ro (.var 1 k)) (.lit 0) (.var 2 n),.slice true (.ro (.var 5 kp)) (.lit 0) (.var 6 m)])] [] 0)=(
  (muQ G s k n kp m) [.agg ([.ptr (.rw 0) 0,.bool false,.int .i64 0,.int .i64 0]:List AV),.agg ([.tup [.int .i64 1,.agg ([.int .i64 s,.slice true (.ro k) 0 n,.slice true (.ro kp) 0 m]:List AV)]]:List AV)]=true∧(decide (((n:Int):Int)>20)=true→R (.bool true) [])∧(decide (((n:Int):Int)>20)=false→(decide (((m:Int):Int)>1000)=true→R (.bool true) [])∧(decide (((m:Int):Int)>1000)=false→R (.bool (decide ((muU [.agg (G k),.int .i64 ((n:Int))]:Int)>60000))) []))):=by kernel_rfl
theorem yU {cs:List AV} {n:Nat}:muU [.agg cs,.int .i64 (n:Int)]=Ns cs (min n 20):=by simp only [muU,F9]
theorem muL_ok (s:Int) (k n kp m:Nat):H5 (⟨Try.prog,G,B⟩:A0) 1 (A2 Try.f10 0) (D6 1751 (muQ G s k n kp m) 0 40 [1,2,3,4] (muO s k n kp m)):=by
 refine Dq rfl fun hk=>?_;refine X7 (min n 20) (fun i=>[.ptr (.rw 0) 0,.bool false,.int .i64 (Ns (G k) i),.int .i64 (i:Int)]) (fun _=>[some ⟨1,[.int .i64 s,.slice true (.ro k) 0 n,.slice true (.ro kp) 0 m]⟩]) fun i hi=>?_
 refine D1 (C:=(⟨Try.prog,G,B⟩:A0)) (by rw [show B5 (A2 Try.f10 0)=[] by kernel_rfl];exact D7 (inl:=[]) (ls:=[]) (M:=1) (K6 G B) (by kernel_rfl) .nil .nil) (fuel:=300) (n0:=20) (m:=1) (c:=A2 Try.f10 0) (vs:=[.ptr (.rw 0) (.lit 0),.bool (.lit false),.int .i64 (.var 8 (Ns (G k) i)),.int .i64 (.ofN (.var 9 i))]) (H:=[some ⟨1,.of [.int .i64 (.var 4 s),.slice true (.ro (.var 1 k)) (.lit 0) (.var 2 n),.slice true (.ro (.var 5 kp)) (.lit 0) (.var 6 m)]⟩]) (by simp) ?_;rw [mu_b]
 have fin:¬(i<n∧i<20)→(muO s k n kp m).post G 1 (.exit 0) [.ptr (.rw 0) 0,.bool false,.int .i64 (Ns (G k) i),.int .i64 (i:Int)] [some ⟨1,[.int .i64 s,.slice true (.ro k) 0 n,.slice true (.ro kp) 0 m]⟩]:=fun h=>by
  refine ⟨rfl,.inl ⟨?_,rfl⟩⟩;show wk [.ptr (.rw 0) 0,.undef,.int .i64 (muU [.agg (G k),.int .i64 (n:Int)]),.undef] _;rw [yU,show min n 20=i by omega];simp [wk]
 refine ⟨fun h1=>⟨fun h2=>?_,fun h2=>?_⟩,fun h1=>?_⟩
 ·have h1':=yL h1;have h2':(i:Int)<20:=yL h2;rw [B6 (n:=(i:Int)+1) (by omega)];exact ⟨yM (by omega),h1,(gU hk (by omega)).2,by omega,.inl ⟨rfl,rfl⟩⟩
 ·have h2':¬(i:Int)<20:=yP h2;exact fin (by omega)
 ·have h1':=yP h1;exact fin (by omega)
def Aa (cs:List AV) (n m:Nat):Bool:=decide (n>20)||(decide (m>1000)||decide (Ns cs (min n 20)>60000))
def bC:List AV→Bool:=fun xs=>match xs with
 | [.agg cs,.int _ n,.int _ m]=>Aa cs n.toNat m.toNat
 | _=>false
theorem Zb {cs:List AV} {n m:Nat}:bC [.agg cs,.int .i64 (n:Int),.int .i64 (m:Int)]=Aa cs n m:=by simp only [bC,F9]
def secOkU:List AV→Bool:=fun xs=>match xs with
 | [.agg cs,.int _ n]=>I6 cs n.toNat
 | _=>false
theorem yS (s:Int) (k n kp m:Nat) (hk:I6 (G k) n=true):ACalls (⟨Try.prog,G,B⟩:A0) 10 [.agg [.int .i64 s,.slice true (.ro k) 0 n,.slice true (.ro kp) 0 m]] [] fun v _=>v=.bool (Aa (G k) n m):=by
 have:=C1 (C:=(⟨Try.prog,G,B⟩:A0)) (fuel:=300) (n0:=20) (f:=10) (fn:=Try.f10) (args:=[.agg (.of [.int .i64 (.var 4 s),.slice true (.ro (.var 1 k)) (.lit 0) (.var 2 n),.slice true (.ro (.var 5 kp)) (.lit 0) (.var 6 m)])]) (H:=[]) (keep:=0)
  (R:=fun v _=>v=.bool (Aa (G k) n m)) (D7 (inl:=[]) (ls:=[(D6 1751 (muQ G s k n kp m) 0 40 [1,2,3,4] (muO s k n kp m))]) (M:=1) (K6 G B) (by kernel_rfl) .nil (.cast (.cons (i:=0) (by kernel_rfl) rfl (muL_ok G B s k n kp m) .nil) (by kernel_rfl))) (by kernel_rfl) (by kernel_rfl) (by kernel_rfl) (by
  rw [t10,yU];refine ⟨Av hk rfl rfl,fun h1=>?_,fun h1=>⟨fun h2=>?_,fun h2=>?_⟩⟩
  ·have h1:(n:Int)>20:=yL h1;unfold Aa;rw [yM (p:=n>20) (by omega)];rfl
  ·have h2:(m:Int)>1000:=yL h2;unfold Aa;rw [yM (p:=m>1000) (by omega),Bool.true_or,Bool.or_true]
  ·have h1:¬(n:Int)>20:=yP h1;have h2:¬(m:Int)>1000:=yP h2
   unfold Aa;rw [yR (p:=n>20) (by omega),yR (p:=m>1000) (by omega)];rfl)
 exact this.monoK fun v H h=>h
def muchS:DSum:=fun args _=>match args with
 | [.agg (.of [.int .i64 _,.slice _ (.ro k) (.lit 0) n,.slice _ (.ro _) (.lit 0) m])]=>some (.chk (.uf 1753 secOkU [.agg (.ro k),.int .i64 (.ofN n)]) (.one (.bool (.uf 1752 bC [.agg (.ro k),.int .i64 (.ofN n),.int .i64 (.ofN m)])) []))
 | _=>none
theorem mW :D4 (⟨Try.prog,G,B⟩:A0) 10 muchS:=by
 intro args H o ho;unfold muchS at ho;split at ho
 ·rename_i s mb k n mb' k' m;simp only [zK] at ho;subst ho;intro hk
  have hk:I6 (G (vN G k)) (vN G n)=true:=by
   have hk:secOkU [.agg (G (vN G k)),.int .i64 (vN G n:Int)]=true:=hk;simpa only [secOkU,F9] using hk
  have key:=ACalls.drop0 (yS G B (vI G s) (vN G k) (vN G n) (vN G k') (vN G m) hk) rfl (by simp);rw [←Zb] at key;refine E0.ro0 (C:=(⟨Try.prog,G,B⟩:A0)) (key.weaken fun ρ vs hv=>?_) (by simp [vVs,vV,vL,vR,A3,A8]) (by simp [vV,A8]);simp only [vVs,vV,vL,vR,vN,VRs,VR] at hv ⊢;obtain ⟨v,vs',e,⟨ws,e2,w1,t1,e3,q1,w2,t2,e4,q2,w3,t3,e5,q3,q4⟩,q6⟩:=hv
  exact ⟨v,vs',e,⟨ws,e2,w1,t1,e3,q1,w2,t2,e4,(by have:=T1 (show VR ρ (.slice mb (.ro (vN G k)) 0 (vN G n)) w2 by simpa only [VR] using q2);simpa only [VR] using this),w3,t3,e5,(by have:=T1 (show VR ρ (.slice mb' (.ro (vN G k')) 0 (vN G m)) w3 by simpa only [VR] using q3);simpa only [VR] using this),q4⟩,q6⟩
 ·simp at ho
end
def Aw (G:Nat→List AV):List AV→Bool:=fun xs=>match xs with
 | [.int _ s,.agg cs,.int _ n,.agg ps,.int _ m,.int _ sv,.agg cs2,.int _ nv,.agg ps2,.int _ m2]=>Ni G s cs n.toNat ps m.toNat sv cs2 nv.toNat ps2 m2.toNat
 | _=>false
def Af (G:Nat→List AV):List AV→Bool:=fun xs=>match xs with
 | [.int _ _,.agg cs,.int _ n,.agg ps,.int _ m,.int _ _,.agg cs2,.int _ nv,.agg ps2,.int _ m2]=>(Co G cs n.toNat&&Co G cs2 nv.toNat)&&(Cs ps m.toNat&&Cs ps2 m2.toNat)
 | _=>false
theorem Yv {G:Nat→List AV} {s sv:Int} {cs cs2 ps ps2:List AV} {n m nv m2:Nat}:Aw G [.int .i64 s,.agg cs,.int .i64 (n:Int),.agg ps,.int .i64 (m:Int),.int .i64 sv,.agg cs2,.int .i64 (nv:Int),.agg ps2,.int .i64 (m2:Int)]=Ni G s cs n ps m sv cs2 nv ps2 m2:=by simp only [Aw,F9]
theorem aL {G:Nat→List AV} {s sv:Int} {cs cs2 ps ps2:List AV} {n m nv m2:Nat}:Af G [.int .i64 s,.agg cs,.int .i64 (n:Int),.agg ps,.int .i64 (m:Int),.int .i64 sv,.agg cs2,.int .i64 (nv:Int),.agg ps2,.int .i64 (m2:Int)]=true↔(Co G cs n=true∧Co G cs2 nv=true)∧(Cs ps m=true∧Cs ps2 m2=true):=by simp only [Af,F9,zN]
def Wh (G:Nat→List AV):DSum:=fun args _=>match args with
 | [.agg (.of [.int .i64 s,.slice _ (.ro k) (.lit 0) n,.slice _ (.ro kp) (.lit 0) m]),.agg (.of [.int .i64 sv,.slice _ (.ro k2) (.lit 0) nv,.slice _ (.ro kp2) (.lit 0) m2])]=>some (.chk (.uf 1760 (Af G) [.int .i64 s,.agg (.ro k),.int .i64 (.ofN n),.agg (.ro kp),.int .i64 (.ofN m),.int .i64 sv,.agg (.ro k2),.int .i64 (.ofN nv),.agg (.ro kp2),.int .i64 (.ofN m2)]) (.one (.bool (.uf 1761 (Aw G) [.int .i64 s,.agg (.ro k),.int .i64 (.ofN n),.agg (.ro kp),.int .i64 (.ofN m),.int .i64 sv,.agg (.ro k2),.int .i64 (.ofN nv),.agg (.ro kp2),.int .i64 (.ofN m2)])) []))
 | _=>none
theorem aF7 (G:Nat→List AV) (B:Nat) {f:Nat} (hf:∀ (s sv:Int) (k k2 n nv kp kp2 m m2:Nat) (_:Co G (G k) n=true) (_:Co G (G k2) nv=true) (_:Cs (G kp) m=true) (_:Cs (G kp2) m2=true),ACalls (⟨Try.prog,G,B⟩:A0) f [.agg [.int .i64 s,.slice true (.ro k) 0 n,.slice true (.ro kp) 0 m],.agg [.int .i64 sv,.slice true (.ro k2) 0 nv,.slice true (.ro kp2) 0 m2]] [] fun v _=>v=.bool (Ni G s (G k) n (G kp) m sv (G k2) nv (G kp2) m2)):D4 (⟨Try.prog,G,B⟩:A0) f (Wh G):=by
 intro args H o ho;unfold Wh at ho;split at ho
 ·rename_i s mb k n mb2 kp m sv mb3 k2 nv mb4 kp2 m2;simp only [zK] at ho;subst ho;intro hk;obtain ⟨⟨h1,h2⟩,h3,h4⟩:=aL.1 hk;have key:=ACalls.drop0 (hf (vI G s) (vI G sv) (vN G k) (vN G k2) (vN G n) (vN G nv) (vN G kp) (vN G kp2) (vN G m) (vN G m2) h1 h2 h3 h4) rfl (by simp);rw [←Yv] at key;refine E0.ro0 (C:=(⟨Try.prog,G,B⟩:A0)) (key.weaken fun ρ vs hv=>?_) (by simp [vVs,vV,vL,vR,A3,A8]) (by simp [vV,A8]);simp only [vVs,vV,vL,vR,vN,VRs,VR] at hv ⊢
  obtain ⟨v,vs',e,⟨ws,e2,w1,t1,e3,q1,w2,t2,e4,q2,w3,t3,e5,q3,q4⟩,v',vs2,e6,⟨us,e7,u1,y1,e8,r1,u2,y2,e9,r2,u3,y3,e10,r3,r4⟩,q6⟩:=hv
  have may:∀ {b:Bool} {r:Ref} {n:Nat} {w:Value},X2 ρ b r 0 n w→X2 ρ true r 0 n w:=fun {b r n w} h=>by
   have:=T1 (show VR ρ (.slice b r 0 n) w by simpa only [VR] using h)
   simpa only [VR] using this
  exact ⟨v,vs',e,⟨ws,e2,w1,t1,e3,q1,w2,t2,e4,may q2,w3,t3,e5,may q3,q4⟩,v',vs2,e6,⟨us,e7,u1,y1,e8,r1,u2,y2,e9,may r2,u3,y3,e10,may r3,r4⟩,q6⟩
 ·simp at ho
theorem gZ (G:Nat→List AV) (B:Nat):D4 (⟨Try.prog,G,B⟩:A0) 15 (Wh G):=aF7 G B fun s sv k k2 n nv kp kp2 m m2 h1 h2 h3 h4=>uH G B s sv k k2 n nv kp kp2 m m2 h1 h2 h3 h4
section
variable (G:Nat→List AV) (B:Nat)
theorem v78 (k o n:Nat) (Q:Ex→List AV→Hp→Prop) (R:AV→Hp→Prop):vT G Q R (G0 (Dc Try.prog [] [] [] 0) 300 20 Try.f78 [.slice false (.ro (.var 1 k)) (.var 3 o) (.var 2 n)] [] 2)=(
  leB (o+n*4) (List.length (G k))=true∧cellsB (A9 (G k) o (n*4))=true∧leB (n*48) 140737488355328=true∧R (.slice false (.rw 1) 0 n) [none,some ⟨4,(A9 (G k) o (n*4))⟩]):=by kernel_rfl
theorem v79 (k o n:Nat) (Q:Ex→List AV→Hp→Prop) (R:AV→Hp→Prop):vT G Q R (G0 (Dc Try.prog [] [] [] 0) 300 20 Try.f79 [.slice false (.ro (.var 1 k)) (.var 3 o) (.var 2 n)] [] 2)=(
  leB (o+n*2) (List.length (G k))=true∧cellsB (A9 (G k) o (n*2))=true∧leB (n*16) 140737488355328=true∧R (.slice false (.rw 1) 0 n) [none,some ⟨2,(A9 (G k) o (n*2))⟩]):=by kernel_rfl
theorem v80 (k o n:Nat) (Q:Ex→List AV→Hp→Prop) (R:AV→Hp→Prop):vT G Q R (G0 (Dc Try.prog [] [] [] 0) 300 20 Try.f80 [.slice false (.ro (.var 1 k)) (.var 3 o) (.var 2 n)] [] 2)=(
  leB (o+n) (List.length (G k))=true∧cellsB (A9 (G k) o n)=true∧leB n 140737488355328=true∧R (.slice false (.rw 1) 0 n) [none,some ⟨1,(A9 (G k) o n)⟩]):=by kernel_rfl
theorem v78n (k:Nat) (Q:Ex→List AV→Hp→Prop) (R:AV→Hp→Prop):vT G Q R (G0 (Dc Try.prog [] [] [] 0) 300 20 Try.f78 [.nils] [] 0)=(
  R (.nils) []):=by kernel_rfl
theorem v79n (k:Nat) (Q:Ex→List AV→Hp→Prop) (R:AV→Hp→Prop):vT G Q R (G0 (Dc Try.prog [] [] [] 0) 300 20 Try.f79 [.nils] [] 0)=(
  R (.nils) []):=by kernel_rfl
theorem v80n (k:Nat) (Q:Ex→List AV→Hp→Prop) (R:AV→Hp→Prop):vT G Q R (G0 (Dc Try.prog [] [] [] 0) 300 20 Try.f80 [.nils] [] 0)=(
  R (.nils) []):=by kernel_rfl
theorem cH {c:Code} (h:B5 c=[]):L6 (⟨Try.prog,G,B⟩:A0) (Dc Try.prog [] [] [] 0) (B5 c):=by rw [h];exact D7 (K6 G B) (by kernel_rfl) .nil .nil
theorem aD8 {H:Hp} {K:Hp} {k:Nat} (h:H.take k=K) {j:Nat} (hj:j<k):H[j]?=K[j]?:=by rw [←h,qL,if_pos hj]
theorem ACalls.mbe {C:A0} {f:FuncId} {r:Ref} {o n:Nat} {rest:List AV} {H:Hp} {K:AV→Hp→Prop} (h0:n=0→ACalls C f (.nils::rest) H K) (h1:ACalls C f (.slice false r o n::rest) H K):ACalls C f (.slice true r o n::rest) H K:=by
 refine ⟨h1.1,fun ρ w cargs hH hv=>?_⟩;have hv0:=hv;simp only [VRs,VR] at hv;obtain ⟨v,vs,rfl,⟨ca,cap,rfl,hl,hc⟩,hvs⟩:=hv;rcases hc with ⟨rfl,rfl,_⟩ | hc
 ·have e:n=0:=by omega
  refine (h0 e).2 ρ w _ hH ?_;simp only [VRs,VR];exact ⟨_,vs,rfl,by rw [e],hvs⟩
 ·refine h1.2 ρ w _ hH ?_;simp only [VRs,VR];exact ⟨_,vs,rfl,⟨ca,cap,rfl,hl,.inr hc⟩,hvs⟩
def Hf (z:Nat) (cs:List AV) (o n:Nat):Bool:=(leB (o+n*z) cs.length&&cellsB (A9 cs o (n*z)))&&(Nat.ble n 1000000&&A3 0 (A9 cs o (n*z)))
theorem L1 {z:Nat} {cs:List AV} {o n:Nat}:Hf z cs o n=true↔(leB (o+n*z) cs.length=true∧cellsB (A9 cs o (n*z))=true)∧n≤1000000∧A3 0 (A9 cs o (n*z))=true:=by
 simp only [Hf,zN];exact ⟨fun ⟨h1,h2,h3⟩=>⟨h1,rR h2,h3⟩,fun ⟨h1,h2,h3⟩=>⟨h1,Nat.ble_eq_true_of_le h2,h3⟩⟩
theorem oV {f:FuncId} (z k o n:Nat) (hc:Hf z (G k) o n=true)
  (h:ACalls (⟨Try.prog,G,B⟩:A0) f [.slice false (.ro k) o n] [] fun v H'=>v=.slice false (.rw 1) 0 n∧H'.take 2=[none,some ⟨z,A9 (G k) o (n*z)⟩]) (hn:ACalls (⟨Try.prog,G,B⟩:A0) f [.nils] [] fun v H'=>v=.nils) :
  ACalls (⟨Try.prog,G,B⟩:A0) f [.slice true (.ro k) o n] [] fun v H'=>v=.slice true (.rw 0) 0 n∧H'=[some ⟨z,A9 (G k) o (n*z)⟩]:=by
 obtain ⟨_,_,flat⟩:=L1.1 hc;refine ACalls.mbe (fun e0=>?_) ?_
 ·subst e0;refine ACalls.one hn flat (by simp [A8]) (fun j=>by simp [C0]) fun v H' q=>.inr ⟨by simp [A9],?_⟩;subst q;exact .inr ⟨rfl,rfl⟩
 ·have h1:ACalls (⟨Try.prog,G,B⟩:A0) f [.slice false (.ro k) o n] [] fun v H'=>v=.slice false (.rw 0) 0 n∧H'=[some ⟨z,A9 (G k) o (n*z)⟩]:=
   ACalls.one h flat (by simp [A8]) (fun j=>by simp [C0]) fun v H' ⟨q1,q2⟩=>.inl ⟨1,by have:=aD8 q2 (j:=1) (by omega);simpa using this,by rw [q1];simp [C0]⟩
  exact h1.conv fun v H' ⟨q1,q2⟩=>⟨_,⟨rfl,q2⟩,fun ρ cv hv=>by subst q1;exact T1 hv⟩
theorem cl78 (k o n:Nat) (hc:Hf 4 (G k) o n=true):ACalls (⟨Try.prog,G,B⟩:A0) 78 [.slice true (.ro k) o n] [] fun v H'=>v=.slice true (.rw 0) 0 n∧H'=[some ⟨4,A9 (G k) o (n*4)⟩]:=by
 obtain ⟨⟨h1,h2⟩,h3,_⟩:=L1.1 hc;refine oV G B 4 k o n hc ?_ ?_
 ·exact C1 (C:=(⟨Try.prog,G,B⟩:A0)) (fuel:=300) (n0:=20) (f:=78) (fn:=Try.f78) (args:=[.slice false (.ro (.var 1 k)) (.var 3 o) (.var 2 n)]) (H:=[]) (keep:=2) (R:=fun v H=>v=.slice false (.rw 1) 0 n∧H=[none,some ⟨4,A9 (G k) o (n*4)⟩]) (cH G B (by kernel_rfl)) (by kernel_rfl) (by kernel_rfl) (by kernel_rfl) (by
   rw [v78]
   exact ⟨h1,h2,B2.2 (by omega),rfl,rfl⟩)
 ·have:=C1 (C:=(⟨Try.prog,G,B⟩:A0)) (fuel:=300) (n0:=20) (f:=78) (fn:=Try.f78) (args:=[.nils]) (H:=[]) (keep:=0) (R:=fun v _=>v=.nils) (cH G B (by kernel_rfl)) (by kernel_rfl) (by kernel_rfl) (by kernel_rfl) (by
   rw [v78n G k])
  exact this.monoK fun v H' h=>h
theorem cl79 (k o n:Nat) (hc:Hf 2 (G k) o n=true):ACalls (⟨Try.prog,G,B⟩:A0) 79 [.slice true (.ro k) o n] [] fun v H'=>v=.slice true (.rw 0) 0 n∧H'=[some ⟨2,A9 (G k) o (n*2)⟩]:=by
 obtain ⟨⟨h1,h2⟩,h3,_⟩:=L1.1 hc;refine oV G B 2 k o n hc ?_ ?_
 ·exact C1 (C:=(⟨Try.prog,G,B⟩:A0)) (fuel:=300) (n0:=20) (f:=79) (fn:=Try.f79) (args:=[.slice false (.ro (.var 1 k)) (.var 3 o) (.var 2 n)]) (H:=[]) (keep:=2) (R:=fun v H=>v=.slice false (.rw 1) 0 n∧H=[none,some ⟨2,A9 (G k) o (n*2)⟩]) (cH G B (by kernel_rfl)) (by kernel_rfl) (by kernel_rfl) (by kernel_rfl) (by
   rw [v79]
   exact ⟨h1,h2,B2.2 (by omega),rfl,rfl⟩)
 ·have:=C1 (C:=(⟨Try.prog,G,B⟩:A0)) (fuel:=300) (n0:=20) (f:=79) (fn:=Try.f79) (args:=[.nils]) (H:=[]) (keep:=0) (R:=fun v _=>v=.nils) (cH G B (by kernel_rfl)) (by kernel_rfl) (by kernel_rfl) (by kernel_rfl) (by
   rw [v79n G k])
  exact this.monoK fun v H' h=>h
theorem cl80 (k o n:Nat) (hc:Hf 1 (G k) o n=true):ACalls (⟨Try.prog,G,B⟩:A0) 80 [.slice true (.ro k) o n] [] fun v H'=>v=.slice true (.rw 0) 0 n∧H'=[some ⟨1,A9 (G k) o (n*1)⟩]:=by
 obtain ⟨⟨h1,h2⟩,h3,_⟩:=L1.1 hc;rw [Nat.mul_one] at h1 h2;refine oV G B 1 k o n hc ?_ ?_
 ·exact C1 (C:=(⟨Try.prog,G,B⟩:A0)) (fuel:=300) (n0:=20) (f:=80) (fn:=Try.f80) (args:=[.slice false (.ro (.var 1 k)) (.var 3 o) (.var 2 n)]) (H:=[]) (keep:=2) (R:=fun v H=>v=.slice false (.rw 1) 0 n∧H=[none,some ⟨1,A9 (G k) o (n*1)⟩]) (cH G B (by kernel_rfl)) (by kernel_rfl) (by kernel_rfl) (by kernel_rfl) (by
   rw [v80,Nat.mul_one]
   exact ⟨h1,h2,B2.2 (by omega),rfl,rfl⟩)
 ·have:=C1 (C:=(⟨Try.prog,G,B⟩:A0)) (fuel:=300) (n0:=20) (f:=80) (fn:=Try.f80) (args:=[.nils]) (H:=[]) (keep:=0) (R:=fun v _=>v=.nils) (cH G B (by kernel_rfl)) (by kernel_rfl) (by kernel_rfl) (by kernel_rfl) (by
   rw [v80n G k])
  exact this.monoK fun v H' h=>h
def fX (z:Nat):List AV→Bool:=fun xs=>match xs with
 | [.agg cs,.int _ o,.int _ n]=>Hf z cs o.toNat n.toNat
 | _=>false
def oW (tg z:Nat):DSum:=fun args H=>match args with
 | [.slice _ (.ro k) o n]=>some (.chk (.uf tg (fX z) [.agg (.ro k),.int .i64 (Dm o),.int .i64 (Dm n)]) (.one (.slice true (.rw H.length) (.lit 0) n) [.new ⟨z,.sub (.ro k) o (T5 n z)⟩]))
 | [.nils]=>some (.one (.slice true (.rw H.length) (.lit 0) (.lit 0)) [.new ⟨z,.of []⟩])
 | _=>none
theorem fY {f:FuncId} {tg z:Nat} (h:∀ k o n,Hf z (G k) o n=true→ACalls (⟨Try.prog,G,B⟩:A0) f [.slice true (.ro k) o n] [] fun v H'=>v=.slice true (.rw 0) 0 n∧H'=[some ⟨z,A9 (G k) o (n*z)⟩]) (hn:ACalls (⟨Try.prog,G,B⟩:A0) f [.nils] [] fun v H'=>v=.slice true (.rw 0) 0 0∧H'=[some ⟨z,[]⟩]):D4 (⟨Try.prog,G,B⟩:A0) f (oW tg z):=by
 have core:∀ {args:List EV} {args0:List AV} {H:DHp} {n:EN} {N:Nat} {l:EL} {L:List AV},A3 0 L=true→vVs G args=args0→A3 0 args0=true→vN G n=N→vL G l=L→ACalls (⟨Try.prog,G,B⟩:A0) f args0 [] (fun v H'=>v=.slice true (.rw 0) 0 N∧H'=[some ⟨z,L⟩])→E0 (⟨Try.prog,G,B⟩:A0) f args H (.slice true (.rw H.length) (.lit 0) n) [.new ⟨z,l⟩]:=by
  intro args args0 H n N l L hL he hb eN eL hc;refine E0.fr (C:=(⟨Try.prog,G,B⟩:A0)) (θ:=[]) (H0:=[]) (H1:=[some ⟨z,L⟩]) (v0:=.slice true (.rw 0) 0 N) (args0:=args0) List.nodup_nil rfl (fun k b hk=>by simp at hk) hb (by rw [he,B9 _ _ hb]) hc (zA2 _) rfl (by simp only [H9,G6 (zA2 _) _ hL,Bool.and_self]) ?_ ?_
  ·show AV.slice true (.rw H.length) 0 (vN G n)=AV.slice true (.rw ((N7 [] H.length 1).getD 0 0)) 0 N;rw [eN];rfl
  ·show B7 G H++[some (⟨z,vL G l⟩:Blk)]=B7 G H++[R9 _ (some ⟨z,L⟩)];rw [eL];simp only [R9,Option.map_some,K3,B9 _ _ hL]
 intro args H o ho;unfold oW at ho;split at ho
 ·rename_i mb k off n;simp only [zK] at ho;subst ho;intro h1;have h1:Hf z (G (vN G k)) ((vI G (Dm off)).toNat) ((vI G (Dm n)).toNat)=true:=h1;rw [At,At,F9,F9] at h1;obtain ⟨_,_,flat⟩:=L1.1 h1;have hc:=h (vN G k) (vN G off) (vN G n) h1;have hb:(A3 0 [.slice true (.ro (vN G k)) (vN G off) (vN G n)]=true):=rfl;cases mb with
  | true=>exact core (args0:=[.slice true (.ro (vN G k)) (vN G off) (vN G n)]) flat rfl rfl rfl (by simp only [vL,P8]) hc
  | false=>
   refine core (args0:=[.slice false (.ro (vN G k)) (vN G off) (vN G n)]) flat rfl rfl rfl (by simp only [vL,P8]) (ACalls.weaken hc ?_);intro ρ vs hv;simp only [VRs] at hv ⊢;obtain ⟨v,vs',r1,r2,r3⟩:=hv;exact ⟨v,vs',r1,T1 r2,r3⟩
 ·simp only [zK] at ho;subst ho;exact core (args0:=[.nils]) (L:=[]) rfl rfl rfl rfl rfl hn
 ·cases ho
theorem eW {f:FuncId} (z:Nat) (hn:ACalls (⟨Try.prog,G,B⟩:A0) f [.nils] [] fun v H'=>v=.nils):ACalls (⟨Try.prog,G,B⟩:A0) f [.nils] [] fun v H'=>v=.slice true (.rw 0) 0 0∧H'=[some ⟨z,[]⟩]:=
 ACalls.one (b:=⟨z,[]⟩) hn rfl (by simp [A8]) (fun j=>by simp [C0]) fun v H' q=>.inr ⟨rfl,by subst q;exact .inr ⟨rfl,rfl⟩⟩
theorem cl78n :ACalls (⟨Try.prog,G,B⟩:A0) 78 [.nils] [] fun v H'=>v=.nils:=by
 have:=C1 (C:=(⟨Try.prog,G,B⟩:A0)) (fuel:=300) (n0:=20) (f:=78) (fn:=Try.f78) (args:=[.nils]) (H:=[]) (keep:=0) (R:=fun v _=>v=.nils) (cH G B (by kernel_rfl)) (by kernel_rfl) (by kernel_rfl) (by kernel_rfl) (by rw [v78n G 0])
 exact this.monoK fun v H' h=>h
theorem cl79n :ACalls (⟨Try.prog,G,B⟩:A0) 79 [.nils] [] fun v H'=>v=.nils:=by
 have:=C1 (C:=(⟨Try.prog,G,B⟩:A0)) (fuel:=300) (n0:=20) (f:=79) (fn:=Try.f79) (args:=[.nils]) (H:=[]) (keep:=0) (R:=fun v _=>v=.nils) (cH G B (by kernel_rfl)) (by kernel_rfl) (by kernel_rfl) (by kernel_rfl) (by rw [v79n G 0])
 exact this.monoK fun v H' h=>h
theorem cl80n :ACalls (⟨Try.prog,G,B⟩:A0) 80 [.nils] [] fun v H'=>v=.nils:=by
 have:=C1 (C:=(⟨Try.prog,G,B⟩:A0)) (fuel:=300) (n0:=20) (f:=80) (fn:=Try.f80) (args:=[.nils]) (H:=[]) (keep:=0) (R:=fun v _=>v=.nils) (cH G B (by kernel_rfl)) (by kernel_rfl) (by kernel_rfl) (by kernel_rfl) (by rw [v80n G 0])
 exact this.monoK fun v H' h=>h
def clRs:List (Nat×DSum):=[(78,oW 1803 4),(79,oW 1802 2),(80,oW 1801 1)]
theorem tC :Q8 (⟨Try.prog,G,B⟩:A0) clRs:=.cons (fY G B (fun k o n h=>cl78 G B k o n h) (eW G B 4 (cl78n G B))) (.cons (fY G B (fun k o n h=>cl79 G B k o n h) (eW G B 2 (cl79n G B))) (.cons (fY G B (fun k o n h=>cl80 G B k o n h) (eW G B 1 (cl80n G B))) .nil))
end
theorem cm_b (G:Nat→List AV) (sc pl dl:List AV) (s:Int) (n m i:Nat) (Q:Ex→List AV→Hp→Prop) (R:AV→Hp→Prop):vT G Q R (G3 (Df Try.prog [(37,4,0)] [] clRs [] 0) 300 20 0 (A2 Try.f33 0) 32 [1,2,14,15] [.ptr (.rw 0) (.lit 0),.ptr (.rw 1) (.lit 0),.int .i64 (.ofN (.var 3 n)),.int .i64 (.ofN (.var 8 i))] [some ⟨1,.of [.int .i64 (.var 1 s),.slice true (.rw 2) (.lit 0) (.var 3 n),.slice true (.rw 3) (.lit 0) (.var 4 m)]⟩,some ⟨1,.of [.int .i64 (.lit 0),.nils,.nils]⟩,some ⟨4,.var 21 sc⟩,some ⟨2,.var 7 pl⟩,some ⟨1,.row (.var 22 dl) (.lit 0)⟩,some ⟨1,.row (.var 22 dl) (.lit 1)⟩,some ⟨1,.row (.var 22 dl) (.lit 2)⟩,some ⟨1,.row (.var 22 dl) (.lit 3)⟩,some ⟨1,.row (.var 22 dl) (.lit 4)⟩,some ⟨1,.row (.var 22 dl) (.lit 5)⟩,some ⟨1,.row (.var 22 dl) (.lit 6)⟩,some ⟨1,.row (.var 22 dl) (.lit 7)⟩])=(
  (decide (((i:Int):Int)<(n:Int))=true→decide ((0:Int)≤(i:Int))=true∧decide (((i:Int):Int)<(n:Int))=true∧isRXU [.agg sc,.int .i64 (((i*4+2:Nat):Int))]=true∧(fX 1) [.agg (G (C8 sc (i*4+2))),.int .i64 (((E9 sc (i*4+2):Nat):Int)),.int .i64 (((C7 sc (i*4+2):Nat):Int))]=true∧decide ((0:Int)≤(i:Int))=true∧decide (((i:Int):Int)<(n:Int))=true∧leB (i*4+3) (List.length sc)=true∧Q .normal [.ptr (.rw 0) 0,.ptr (.rw 1) 0,.int .i64 ((n:Int)),.int .i64 (IntKind.wrap .i64 ((i:Int)+1))] [some ⟨1,([.int .i64 s,.slice true (.rw 2) 0 n,.slice true (.rw 3) 0 m]:List AV)⟩,some ⟨1,([.int .i64 0,.nils,.nils]:List AV)⟩,some ⟨4,(E2 sc (i*4+2) (.slice true (.rw 12) 0 (C7 sc (i*4+2))))⟩,some ⟨2,pl⟩,some ⟨1,(A4 dl 0)⟩,some ⟨1,(A4 dl 1)⟩,some ⟨1,(A4 dl 2)⟩,some ⟨1,(A4 dl 3)⟩,some ⟨1,(A4 dl 4)⟩,some ⟨1,(A4 dl 5)⟩,some ⟨1,(A4 dl 6)⟩,some ⟨1,(A4 dl 7)⟩,some ⟨1,(A9 (G (C8 sc (i*4+2))) (E9 sc (i*4+2)) (C7 sc (i*4+2)))⟩])∧(decide (((i:Int):Int)<(n:Int))=false→Q (.exit 0) [.ptr (.rw 0) 0,.ptr (.rw 1) 0,.int .i64 ((n:Int)),.int .i64 ((i:Int))] [some ⟨1,([.int .i64 s,.slice true (.rw 2) 0 n,.slice true (.rw 3) 0 m]:List AV)⟩,some ⟨1,([.int .i64 0,.nils,.nils]:List AV)⟩,some ⟨4,sc⟩,some ⟨2,pl⟩,some ⟨1,(A4 dl 0)⟩,some ⟨1,(A4 dl 1)⟩,some ⟨1,(A4 dl 2)⟩,some ⟨1,(A4 dl 3)⟩,some ⟨1,(A4 dl 4)⟩,some ⟨1,(A4 dl 5)⟩,some ⟨1,(A4 dl 6)⟩,some ⟨1,(A4 dl 7)⟩])):=by kernel_rfl
theorem cm_c (G:Nat→List AV) (rl:List AV→Bool) (sc pl dl:List AV) (s:Int) (ks kp n m:Nat) (Q:Ex→List AV→Hp→Prop) (R:AV→Hp→Prop):vT G Q R (G0 (Dc Try.prog [] clRs [D6 1810 rl 0 32 [1,2,14,15] (.one (.exit 0) [.ptr (.rw 0) (.lit 0),.ptr (.rw 1) (.lit 0),.undef,.undef] [some ⟨1,.of [.int .i64 (.var 1 s),.slice true (.rw 2) (.lit 0) (.var 3 n),.slice true (.rw 3) (.lit 0) (.var 4 m)]⟩,some ⟨1,.of [.int .i64 (.lit 0),.nils,.nils]⟩,some ⟨4,.var 21 sc⟩,some ⟨2,.var 7 pl⟩,some ⟨1,.row (.var 22 dl) (.lit 0)⟩,some ⟨1,.row (.var 22 dl) (.lit 1)⟩,some ⟨1,.row (.var 22 dl) (.lit 2)⟩,some ⟨1,.row (.var 22 dl) (.lit 3)⟩,some ⟨1,.row (.var 22 dl) (.lit 4)⟩,some ⟨1,.row (.var 22 dl) (.lit 5)⟩,some ⟨1,.row (.var 22 dl) (.lit 6)⟩,some ⟨1,.row (.var 22 dl) (.lit 7)⟩])] 0) 300 20 Try.f33 [.agg (.of [.int .i64 (.var 1 s),.slice true (.ro (.var 2 ks)) (.lit 0) (.var 3 n),.slice true (.ro (.var 5 kp)) (.lit 0) (.var 4 m)])] [] 12)=(
  (fX 4) [.agg (G ks),.int .i64 0,.int .i64 ((n:Int))]=true∧(fX 2) [.agg (G kp),.int .i64 0,.int .i64 ((m:Int))]=true∧rl [.agg ([.ptr (.rw 0) 0,.ptr (.rw 1) 0,.int .i64 ((n:Int)),.int .i64 0]:List AV),.agg ([.tup [.int .i64 1,.agg ([.int .i64 s,.slice true (.rw 2) 0 n,.slice true (.rw 3) 0 m]:List AV)],.tup [.int .i64 1,.agg ([.int .i64 0,.nils,.nils]:List AV)],.tup [.int .i64 4,.agg (A9 (G ks) 0 (n*4))],.tup [.int .i64 2,.agg (A9 (G kp) 0 (m*2))]]:List AV)]=true∧R (.agg ([.int .i64 s,.slice true (.rw 2) 0 n,.slice true (.rw 3) 0 m]:List AV)) [some ⟨1,([.int .i64 s,.slice true (.rw 2) 0 n,.slice true (.rw 3) 0 m]:List AV)⟩,some ⟨1,([.int .i64 s,.slice true (.rw 2) 0 n,.slice true (.rw 3) 0 m]:List AV)⟩,some ⟨4,sc⟩,some ⟨2,pl⟩,some ⟨1,(A4 dl 0)⟩,some ⟨1,(A4 dl 1)⟩,some ⟨1,(A4 dl 2)⟩,some ⟨1,(A4 dl 3)⟩,some ⟨1,(A4 dl 4)⟩,some ⟨1,(A4 dl 5)⟩,some ⟨1,(A4 dl 6)⟩,some ⟨1,(A4 dl 7)⟩]):=by kernel_rfl
theorem xX {θ:List Nat} {m z:Nat} {f:Nat→Nat→AV}:rens θ (M7 m z f)=M7 m z fun a b=>C0 θ (f a b):=by
 rw [I7];unfold M7;rw [List.map_map];rfl
theorem Oe {N m z:Nat} {f:Nat→Nat→AV} (h:∀ a b,a<m→b<z→A8 N (f a b)=true):A3 N (M7 m z f)=true:=by
 rw [L2,xM];intro v hv;unfold M7 at hv;obtain ⟨j,hj,rfl⟩:=List.mem_map.1 hv;obtain ⟨h1,h2,_⟩:=Xo (List.mem_range.1 hj);exact h _ _ h1 h2
def Ty (cs:List AV) (d:Nat→AV) (j:Nat):Nat→AV
 | 0=>.int .i64 (sA cs j)
 | 1=>.int .i64 (sR cs j)
 | 2=>d j
 | _=>.int .i64 (sZ cs j)
def dR (cs:List AV) (j:Nat):AV:=.slice true (.ro (C8 cs (j*4+2))) (E9 cs (j*4+2)) (sN cs j)
def dW (b:Nat) (cs:List AV) (j:Nat):AV:=.slice true (.rw (b+j)) 0 (sN cs j)
def dX (b:Nat) (cs:List AV) (i j:Nat):AV:=if j<i then dW b cs j else dR cs j
def D2 (cs:List AV) (n:Nat) (d:Nat→AV):List AV:=M7 n 4 (Ty cs d)
theorem Pp {cs:List AV} {n:Nat} {d:Nat→AV}:(D2 cs n d).length=n*4:=Ck
theorem dO {cs:List AV} {n:Nat} {d:Nat→AV} {j:Nat} (h:j<n):(D2 cs n d)[j*4+2]?=some (d j):=P9 (f:=Ty cs d) h (by omega)
theorem aU4 {cs:List AV} {n:Nat} {d:Nat→AV} {i:Nat} {v:AV} (hv:∀ l,v≠.agg l):E2 (D2 cs n d) (i*4+2) v=D2 cs n (fun j=>if j=i then v else d j):=by
 have e:E2 (D2 cs n d) (i*4+2) v=(D2 cs n d).set (i*4+2) v:=by
  unfold E2;cases v<;>first | rfl | exact absurd rfl (hv _)
 rw [e];unfold D2;rw [Yo (by omega)];refine J0 fun a b ha hb=>?_;by_cases h:a=i∧b=2
 ·rw [if_pos h];obtain ⟨rfl,rfl⟩:=h;show v=if a=a then v else d a
  rw [if_pos rfl]
 ·rw [if_neg h]
  match b,hb with
  | 0,_=>rfl
  | 1,_=>rfl
  | 2,_=>
   show d a=if a=i then v else d a
   rw [if_neg fun e=>h ⟨e,rfl⟩]
  | 3,_=>rfl
theorem dM {θ:List Nat} {cs:List AV} {n:Nat} {d:Nat→AV}:rens θ (D2 cs n d)=D2 cs n fun j=>C0 θ (d j):=by
 unfold D2;rw [xX];refine J0 fun a b ha hb=>?_
 match b,hb with
 | 0,_=>rfl
 | 1,_=>rfl
 | 2,_=>rfl
 | 3,_=>rfl
theorem Iz {cs:List AV} {n:Nat} {d d':Nat→AV} (h:∀ j,j<n→d j=d' j):D2 cs n d=D2 cs n d':=by
 unfold D2;refine J0 fun a b ha hb=>?_
 match b,hb with
 | 0,_=>rfl
 | 1,_=>rfl
 | 2,_=>exact h a ha
 | 3,_=>rfl
theorem Pq {N:Nat} {cs:List AV} {n:Nat} {d:Nat→AV} (h:∀ j,j<n→A8 N (d j)=true):A3 N (D2 cs n d)=true:=by
 unfold D2;refine Oe fun a b ha hb=>?_
 match b,hb with
 | 0,_=>rfl
 | 1,_=>rfl
 | 2,_=>exact h a ha
 | 3,_=>rfl
theorem xG {cs:List AV} {n:Nat} (h:I6 cs n=true) (hl:n*4≤cs.length):aG ⟨4,A9 cs 0 (n*4)⟩ ⟨4,D2 cs n (dR cs)⟩:=by
 have hlen:(A9 cs 0 (n*4)).length=n*4:=by unfold A9;rw [List.drop_zero,List.length_take];omega
 refine .inr ⟨rfl,rfl,by rw [hlen,Pp],fun j v hv=>?_⟩;have hj:j<n*4:=by rw [←Pp (cs:=cs) (d:=dR cs)];exact (zQ.1 hv).1
 obtain ⟨h1,h2,h3⟩:=Xo hj;have hs:=M9 h h1
 have hv':Ty cs (dR cs) (j / 4) (j % 4)=v:=by
  have:=P9 (f:=Ty cs (dR cs)) h1 h2
  rw [←h3] at this;unfold D2 at hv;rw [this] at hv;exact Option.some.inj hv
 have hg:(A9 cs 0 (n*4))[j]?=cs[j]?:=by unfold A9;rw [List.drop_zero,qL,if_pos hj]
 generalize j / 4=a at *;generalize j % 4=b at *;subst h3;rw [hg];simp only [E5,Ak,zN] at hs;obtain ⟨q0,q1,q2,q3,_⟩:=hs
 match b,h2 with
 | 0,_=>
  have:=Cw q0
  rw [Nat.add_zero];exact ⟨_,this,by subst hv';exact fun ρ cv h=>h⟩
 | 1,_=>exact ⟨_,Cw q1,by subst hv';exact fun ρ cv h=>h⟩
 | 2,_=>
  subst hv';unfold Fd at q2;split at q2
  ·rename_i e;refine ⟨_,e,fun ρ cv h=>?_⟩;show VR ρ (.slice true _ _ (C7 cs (a*4+2))) cv;have e0:C7 cs (a*4+2)=0:=by unfold C7;rw [show cs[a*4+2]?=some .nils from e]
   have e1:E9 cs (a*4+2)=0:=by unfold E9;rw [show cs[a*4+2]?=some .nils from e]
   rw [e0,e1];exact Ll _ _ h
  ·rename_i mb k o m e;refine ⟨_,e,fun ρ cv h=>?_⟩;have e0:C7 cs (a*4+2)=m:=by unfold C7;rw [show cs[a*4+2]?=_ from e]
   have e1:E9 cs (a*4+2)=o:=by unfold E9;rw [show cs[a*4+2]?=_ from e]
   have e2:C8 cs (a*4+2)=k:=by unfold C8;rw [show cs[a*4+2]?=_ from e]
   show VR ρ (.slice true (.ro (C8 cs (a*4+2))) (E9 cs (a*4+2)) (C7 cs (a*4+2))) cv;rw [e0,e1,e2];exact T1 h
  ·cases q2
 | 3,_=>exact ⟨_,Cw q3,by subst hv';exact fun ρ cv h=>h⟩
end Go.Am
