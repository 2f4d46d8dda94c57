/-
  The document's reading of an image: its call's tree. ImageBack: places moved twice are moved by both: the plain law.
-/
import Derived.Test.YthejjolnlngahaaPart24
import Derived.Test.YthejjolnlngahaaPart18
import Derived.Test.YthejjolnlngahaaPart12
import Derived.Test.YthejjolnlngahaaPart22
import Derived.Test.YthejjolnlngahaaPart11
import Derived.Test.YthejjolnlngahaaPart15
import Derived.Test.YthejjolnlngahaaPart21
namespace Go.Am
open Go.Proofs
open IntKind renaming wrap → wS
open Int renaming toNat → wZ
set_option maxRecDepth 100000
theorem dr_c (G:Nat→List AV) (q1 q2 q3:List AV→Bool) (kb L n kS kP K M:Nat) (s a1 a2:Int) (w1 w2:Bool) (f:List AV) (Q:Ex→List AV→Hp→Prop) (R:AV→Hp→Prop):vT G Q R (H5 (Dc Try.prog [] [(94,dreadS),(75,dnumS),(76,dbytesR),(77,dflagS),(21,mayrS),(30,Nf 2555 q3 (.var 22 f))] [D4 2553 q1 0 143 [0,2,4,5,6,7] (.one (.exit 0) [.slice true (.ro (.var 6 kb)) (.lit 0) (.var 14 L),.ptr (.rw 0) (.lit 0),.ptr (.rw 2) (.lit 0),.ptr (.rw 3) (.lit 0),.undef,.undef] [some ⟨1,.of [.int .i64 (.lit 0),.nils,.nils]⟩,some ⟨1,.of [.slice true (.ro (.var 6 kb)) (.lit 4) (.var 4 n),.int .i64 (.var 31 a1)]⟩,some ⟨1,.of [.ptr (.rw 1) (.lit 0),.bool (.var 32 w1)]⟩,some ⟨1,.of [.int .i64 (.var 1 s),.slice true (.ro (.var 24 kS)) (.lit 0) (.var 9 K),.nils]⟩,none]),D4 2554 q2 2 143 [0,2,4,5,6,11] (.one (.exit 2) [.slice true (.ro (.var 6 kb)) (.lit 0) (.var 14 L),.ptr (.rw 0) (.lit 0),.ptr (.rw 2) (.lit 0),.ptr (.rw 3) (.lit 0),.undef,.undef] [some ⟨1,.of [.int .i64 (.lit 0),.nils,.nils]⟩,some ⟨1,.of [.slice true (.ro (.var 6 kb)) (.lit 4) (.var 4 n),.int .i64 (.var 33 a2)]⟩,some ⟨1,.of [.ptr (.rw 1) (.lit 0),.bool (.var 34 w2)]⟩,some ⟨1,.of [.int .i64 (.var 1 s),.slice true (.ro (.var 24 kS)) (.lit 0) (.var 9 K),.slice true (.ro (.var 25 kP)) (.lit 0) (.var 8 M)]⟩,none])] 0) 500 20 Try.f31 [.slice true (.ro (.var 6 kb)) (.lit 0) (.var 14 L)] [] 0)=(
  (decide (((L:Int):Int)<8)=true→R (.tup [.agg ([.int .i64 0,.nils,.nils]:List AV),.int .i64 4]) [])∧(decide (((L:Int):Int)<8)=false→decide ((4:Int)≤wS .i64 ((L:Int) - 4))=true∧decide ((wS .i64 ((L:Int) - 4):Int)≤(L:Int))=true∧okRdU [.agg (A0 (G kb) 4 ((wZ (wS .i64 ((L:Int) - 4))) - 4)),.ptr (.rw 0) ((wZ (wS .i64 ((L:Int) - 4))) - 4),.int .i64 0]=true∧okRdU [.agg (A0 (G kb) 4 ((wZ (wS .i64 ((L:Int) - 4))) - 4)),.ptr (.rw 0) ((wZ (wS .i64 ((L:Int) - 4))) - 4),.int .i64 (A3 [.agg (A0 (G kb) 4 ((wZ (wS .i64 ((L:Int) - 4))) - 4)),.int .i64 0])]=true∧
 q1 [.agg ([.slice true (.ro kb) 0 L,.ptr (.rw 0) 0,.ptr (.rw 2) 0,.ptr (.rw 3) 0,.int .i64 (L2 [.agg (A0 (G kb) 4 ((wZ (wS .i64 ((L:Int) - 4))) - 4)),.int .i64 (A3 [.agg (A0 (G kb) 4 ((wZ (wS .i64 ((L:Int) - 4))) - 4)),.int .i64 0])]),.int .i64 0]:List AV),.agg ([.tup [.int .i64 1,.agg ([.int .i64 0,.nils,.nils]:List AV)],.tup [.int .i64 1,.agg ([.slice true (.ro kb) 4 ((wZ (wS .i64 ((L:Int) - 4))) - 4),.int .i64 (A3 [.agg (A0 (G kb) 4 ((wZ (wS .i64 ((L:Int) - 4))) - 4)),.int .i64 (A3 [.agg (A0 (G kb) 4 ((wZ (wS .i64 ((L:Int) - 4))) - 4)),.int .i64 0])])]:List AV)],.tup [.int .i64 1,.agg ([.ptr (.rw 1) 0,.bool (((true&&Gr [.agg (A0 (G kb) 4 ((wZ (wS .i64 ((L:Int) - 4))) - 4)),.int .i64 0])&&Gr [.agg (A0 (G kb) 4 ((wZ (wS .i64 ((L:Int) - 4))) - 4)),.int .i64 (A3 [.agg (A0 (G kb) 4 ((wZ (wS .i64 ((L:Int) - 4))) - 4)),.int .i64 0])]))]:List AV)],.tup [.int .i64 1,.agg ([.int .i64 (L2 [.agg (A0 (G kb) 4 ((wZ (wS .i64 ((L:Int) - 4))) - 4)),.int .i64 0]),.nils,.nils]:List AV)]]:List AV)]=true∧okRdU [.agg (A0 (G kb) 4 n),.ptr (.rw 0) n,.int .i64 a1]=true∧
 q2 [.agg ([.slice true (.ro kb) 0 L,.ptr (.rw 0) 0,.ptr (.rw 2) 0,.ptr (.rw 3) 0,.int .i64 (L2 [.agg (A0 (G kb) 4 n),.int .i64 a1]),.int .i64 0]:List AV),.agg ([.tup [.int .i64 1,.agg ([.int .i64 0,.nils,.nils]:List AV)],.tup [.int .i64 1,.agg ([.slice true (.ro kb) 4 n,.int .i64 (A3 [.agg (A0 (G kb) 4 n),.int .i64 a1])]:List AV)],.tup [.int .i64 1,.agg ([.ptr (.rw 1) 0,.bool ((w1&&Gr [.agg (A0 (G kb) 4 n),.int .i64 a1]))]:List AV)],.tup [.int .i64 1,.agg ([.int .i64 s,.slice true (.ro kS) 0 K,.nils]:List AV)],.undef]:List AV)]=true∧(w2=true→U9 [.agg (G kS),.int .i64 ((K:Int))]=true∧Ol [.agg (G kP),.int .i64 ((M:Int))]=true∧(bC [.int .i64 s,.agg (G kS),.int .i64 ((K:Int)),.agg (G kP),.int .i64 ((M:Int))]=true→q3 [.agg ([.agg ([.int .i64 s,.slice true (.ro kS) 0 K,.slice true (.ro kP) 0 M]:List AV)]:List AV),.agg ([]:List AV)]=true∧leB (List.length f) (List.length f)=true∧u8s (A0 f 0 (List.length f))=true∧leB L (List.length (G kb))=true∧u8s (A0 (G kb) 0 L)=true∧((((F8 (A0 f 0 (List.length f))):List UInt8)==(F8 (A0 (G kb) 0 L)))=true→R (.tup [.agg ([.int .i64 s,.slice true (.ro kS) 0 K,.slice true (.ro kP) 0 M]:List AV),.int .i64 0]) [])∧((((F8 (A0 f 0 (List.length f))):List UInt8)==(F8 (A0 (G kb) 0 L)))=false→R (.tup [.agg ([.int .i64 0,.nils,.nils]:List AV),.int .i64 4]) []))∧(bC [.int .i64 s,.agg (G kS),.int .i64 ((K:Int)),.agg (G kP),.int .i64 ((M:Int))]=false→R (.tup [.agg ([.int .i64 0,.nils,.nils]:List AV),.int .i64 4]) []))∧(w2=false→R (.tup [.agg ([.int .i64 0,.nils,.nils]:List AV),.int .i64 4]) []))):=by kernel_rfl
open Go.RowKit
theorem Ry {s:List AV} {n:Nat} {a:Int} {kd:Nat→Nat} {k j b:Nat} (hj:j<k) (hb:b<4):((eT s n a kd k))[j*4+b]?=some (eC s n a kd j b):=P0 (f:=eC s n a kd) hj hb
theorem fT_at {s:List AV} {a:Int} {k j b:Nat} (hj:j<k) (hb:b<2):((fT s a k))[j*2+b]?=some (fC s a j b):=P0 (f:=fC s a) hj hb
theorem kF {s:List AV} {n:Nat} {a:Int} {kd:Nat→Nat} {k j:Nat} (hj:j<k):sA (eT s n a kd k) j=L0 s (D6 s n a j)∧sR (eT s n a kd k) j=L0 s (T0 s (D6 s n a j))∧sN (eT s n a kd k) j=eN s n (D6 s n a j)∧sZ (eT s n a kd k) j=eZ s n (D6 s n a j)∧H8 (eT s n a kd k) (j*4+2)=0∧G0 (eT s n a kd k) (j*4+2)=kd j:=by
 have e0:=Ry (s:=s) (n:=n) (a:=a) (kd:=kd) hj (b:=0) (by omega);have e1:=Ry (s:=s) (n:=n) (a:=a) (kd:=kd) hj (b:=1) (by omega);have e2:=Ry (s:=s) (n:=n) (a:=a) (kd:=kd) hj (b:=2) (by omega);have e3:=Ry (s:=s) (n:=n) (a:=a) (kd:=kd) hj (b:=3) (by omega);rw [Nat.add_zero] at e0;refine ⟨?_,?_,?_,?_,?_,?_⟩
 ·unfold sA A2;rw [e0];rfl
 ·unfold sR A2;rw [e1];rfl
 ·unfold sN D1;rw [e2];rfl
 ·unfold sZ A2;rw [e3];rfl
 ·unfold H8;rw [e2];rfl
 ·unfold G0;rw [e2];rfl
theorem fT_is {s:List AV} {a:Int} {k j:Nat} (hj:j<k):xP (fT s a k) j=L0 s (R6 s a j)∧hP (fT s a k) j=fH s (R6 s a j):=by
 have e0:=fT_at (s:=s) (a:=a) hj (b:=0) (by omega);have e1:=fT_at (s:=s) (a:=a) hj (b:=1) (by omega);rw [Nat.add_zero] at e0;refine ⟨?_,?_⟩
 ·unfold xP A2;rw [e0];rfl
 ·unfold hP G8;rw [e1];rfl
theorem vY {s:List AV} {n:Nat} {a:Int} {kd:Nat→Nat} {k:Nat}:P2 (eT s n a kd k) k=true:=E7.2 fun j hj=>by
 have e:∀ b,b<4→((eT s n a kd k))[j*4+b]?=some (eC s n a kd j b):=fun b hb=>Ry hj hb;have e0:=e 0 (by omega);rw [Nat.add_zero] at e0;have e2:Ey (eT s n a kd k) (j*4+1+1)=true:=by unfold Ey;rw [e 2 (by omega)];rfl
 simp only [G6,Ao,isI,e0,e 1 (by omega),e2,zO];have e3:=e 3 (by omega);rw [show j*4+1+1+1=j*4+3 by omega,e3];exact ⟨rfl,rfl,trivial,rfl,trivial⟩
theorem aB0 {s:List AV} {a:Int} {k:Nat}:(fT s a k)=I8 (xP (fT s a k)) (fT s a k) k:=by
 have:fT s a k=L6 k 2 (Tv (xP (fT s a k)) (fT s a k)):=U8 fun i b hi hb=>by
  obtain ⟨h1,h2⟩:=fT_is (s:=s) (a:=a) hi
  match b,hb with
  | 0,_=>show AV.int .i64 _=.int .i64 (xP (fT s a k) i);rw [h1]
  | 1,_=>show AV.bool _=.bool (hP (fT s a k) i);rw [h2]
 exact this
theorem fT_ok {s:List AV} {n:Nat} {a:Int} {k:Nat} (h:D8 s n a):Y7 (fT s a k) k=true:=by
 have:=zD (f:=xP (fT s a k)) (ps:=(fT s a k)) (m:=k) fun j hj=>by
  have:=mS (fF h j)
  rw [(fT_is hj).1];omega
 rw [←aB0] at this;exact this
theorem eT_sec {s:List AV} {n:Nat} {a:Int} {kd:Nat→Nat} {k:Nat}:(eT s n a kd k)=G7 (eT s n a kd k) k (dR (eT s n a kd k)):=by
 have:eT s n a kd k=L6 k 4 (V0 (eT s n a kd k) (dR (eT s n a kd k))):=U8 fun i b hi hb=>by
  obtain ⟨h1,h2,h3,h4,h5,h6⟩:=kF (s:=s) (n:=n) (a:=a) (kd:=kd) hi
  match b,hb with
  | 0,_=>show AV.int .i64 _=.int .i64 (sA (eT s n a kd k) i);rw [h1]
  | 1,_=>show AV.int .i64 _=.int .i64 (sR (eT s n a kd k) i);rw [h2]
  | 2,_=>show AV.slice true (.ro (kd i)) 0 (eN s n (D6 s n a i))=dR (eT s n a kd k) i;unfold dR;rw [h3,h5,h6]
  | 3,_=>show AV.int .i64 _=.int .i64 (sZ (eT s n a kd k) i);rw [h4]
 exact this
theorem ey_imB {G:Nat→List AV} {s:List AV} {n k m kS kP:Nat} {a a':Int} {kd:Nat→Nat} (h:D8 s n a) (h':D8 s n a') (h8:k≤8) (h512:m≤512)
  (hS:G kS=eT s n a kd k) (hP:G kP=fT s a' m) (hD:∀ j,j<k→G (kd j)=eD s n (D6 s n a j)):Ad G kS kP k m∧Z4 G kS kP k m:=by
 have lS:(eT s n a kd k).length=k*4:=aB4;have lP:(fT s a' m).length=m*2:=aB1
 have dat:∀ j,j<k→G (G0 (G kS) (j*4+2))=eD s n (D6 s n a j)∧F7 G (G kS) j=eD s n (D6 s n a j):=fun j hj=>by
  obtain ⟨_,_,e3,_,e5,e6⟩:=kF (s:=s) (n:=n) (a:=a) (kd:=kd) hj;have e3:D1 (eT s n a kd k) (j*4+2)=eN s n (D6 s n a j):=e3;have g:=kG (Ik h j);rw [hS];refine ⟨by rw [e6,hD j hj],?_⟩;unfold F7;rw [e3,e5,e6,hD j hj];exact Q5 g.1
 have cS:cellsB (eT s n a kd k)=true:=by
  unfold cellsB;rw [qD];intro v hv;unfold eT L6 at hv;obtain ⟨j,hj,rfl⟩:=List.mem_map.1 hv;have hb:j % 4<4:=Nat.mod_lt _ (by omega);generalize j % 4=b at hb
  match b,hb with
  | 0,_=>rfl
  | 1,_=>rfl
  | 2,_=>rfl
  | 3,_=>rfl
 have cP:cellsB (fT s a' m)=true:=by
  unfold cellsB;rw [qD];intro v hv;unfold fT L6 at hv;obtain ⟨j,hj,rfl⟩:=List.mem_map.1 hv;have hb:j % 2<2:=Nat.mod_lt _ (by omega);generalize j % 2=b at hb
  match b,hb with
  | 0,_=>rfl
  | 1,_=>rfl
 refine ⟨⟨by rw [hS];exact vY,by rw [hP];exact fT_ok h',Qd.2 ⟨⟨by rw [hS];exact vY,?_⟩,?_,fun j hj=>?_⟩,fun j hj=>?_⟩,⟨by rw [hS];exact eT_sec,fun j hj=>by rw [hS];exact (kF hj).2.2.2.2.1,fun j hj=>by rw [(dat j hj).1,(dat j hj).2],by rw [hP];exact aB0⟩⟩
 ·rw [hS];refine Dv.2 ⟨⟨A8.2 (by omega),?_⟩,by omega,?_⟩
  ·rw [Q5 lS];exact cS
  ·rw [Q5 lS];exact Xl
 ·rw [hP];refine Dv.2 ⟨⟨A8.2 (by omega),?_⟩,by omega,?_⟩
  ·rw [Q5 lP];exact cP
  ·rw [Q5 lP];exact fE
 ·have g:=kG (Ik h j);obtain ⟨_,_,e3,_,e5,e6⟩:=kF (s:=s) (n:=n) (a:=a) (kd:=kd) hj;rw [(dat j hj).1,hS,e3,e5];have hu:=G9 g.2.2;refine Dv.2 ⟨⟨A8.2 (by rw [g.1];omega),?_⟩,by have:=g.2;omega,?_⟩
  ·rw [Nat.mul_one,Q5 g.1];exact F9 hu
  ·rw [Nat.mul_one,Q5 g.1];exact B7 hu
 ·rw [(dat j hj).2];exact cG (kG (Ik h j)).2.2
def yS (l:List AV):Int:=L0 (rzT l) 0
def yA1 (l:List AV):Int:=T0 (rzT l) 0
def yC1 (l:List AV):Nat:=(L0 (rzT l) (yA1 l)).toNat
def Cj (l:List AV):Int:=T0 (rzT l) (yA1 l)
def Xw (l:List AV):Bool:=X9 (rzT l) 0&&X9 (rzT l) (yA1 l)
def yK (l:List AV):Nat:=eK (rzT l) (rzN l) (Cj l) (Xw l) (yC1 l)
def Xx (l:List AV):Int:=D6 (rzT l) (rzN l) (Cj l) (yK l)
def yW1 (l:List AV):Bool:=Y2 (rzT l) (rzN l) (Cj l) (Xw l) (yK l)
def yC2 (l:List AV):Nat:=(L0 (rzT l) (Xx l)).toNat
def Gg (l:List AV):Int:=T0 (rzT l) (Xx l)
def Si (l:List AV):Bool:=yW1 l&&X9 (rzT l) (Xx l)
def yM (l:List AV):Nat:=fM (rzT l) (Gg l) (Si l) (yC2 l)
def yE (l:List AV):Int:=R6 (rzT l) (Gg l) (yM l)
def yW3 (l:List AV):Bool:=Ap (rzT l) (Gg l) (Si l) (yM l)
structure YG (G:Nat→List AV) (kS kP:Nat) (kd:Nat→Nat) (l:List AV):Prop where
 d:∀ j,j<yK l→G (kd j)=eD (rzT l) (rzN l) (D6 (rzT l) (rzN l) (Cj l) j)
 s:G kS=eT (rzT l) (rzN l) (Cj l) kd (yK l)
 p:G kP=fT (rzT l) (Gg l) (yM l)
def cO (G:Nat→List AV) (kS kP:Nat) (l:List AV):Bool:=K1 (yS l) (G kS) (yK l) (G kP) (yM l)
def yF (G:Nat→List AV) (kS kP:Nat) (l:List AV):List AV:=E3 G (yS l) (G kS) (yK l) (G kP) (yM l)
def Sq (G:Nat→List AV) (kS kP:Nat) (l:List AV):Bool:=decide (8≤l.length)&&(yW3 l&&(cO G kS kP l&&((F8 (yF G kS kP l):List UInt8)==F8 l)))
theorem kR {l:List AV} (h:E4 l=true) (hL:l.length≤1000000):D8 (rzT l) (rzN l) (Cj l):=Da (Da (aH h hL))
theorem kQ {l:List AV} (h:E4 l=true) (hL:l.length≤1000000):D8 (rzT l) (rzN l) (Xx l):=Ik (kR h hL) _
theorem wV {l:List AV} (h:E4 l=true) (hL:l.length≤1000000):D8 (rzT l) (rzN l) (Gg l):=Da (kQ h hL)
theorem wU {l:List AV} (h:E4 l=true) (hL:l.length≤1000000):yC1 l≤99999∧L0 (rzT l) (yA1 l)=(yC1 l:Int):=by
 have:=mS (Da (aH h hL))
 unfold yC1 yA1;omega
theorem wT {l:List AV} (h:E4 l=true) (hL:l.length≤1000000):yC2 l≤99999∧L0 (rzT l) (Xx l)=(yC2 l:Int):=by
 have:=mS (kQ h hL)
 unfold yC2;omega
theorem jO {l:List AV} (h:E4 l=true) (hL:l.length≤1000000):yK l≤99999:=Nat.le_trans (K2 (p:=fun k=>!Y2 (rzT l) (rzN l) (Cj l) (Xw l) k) (k:=yC1 l)).1 (wU h hL).1
theorem yM_le {l:List AV} (h:E4 l=true) (hL:l.length≤1000000):yM l≤99999:=Nat.le_trans (K2 (p:=fun k=>!Ap (rzT l) (Gg l) (Si l) k) (k:=yC2 l)).1 (wT h hL).1
theorem tI {G:Nat→List AV} {kS kP:Nat} {kd:Nat→Nat} {l:List AV} (g:YG G kS kP kd l) (h:E4 l=true) (hL:l.length≤1000000) (hy:cO G kS kP l=true):Ad G kS kP (yK l) (yM l)∧Z4 G kS kP (yK l) (yM l):=
 ey_imB (kR h hL) (wV h hL) (Fw hy).1.1 (Fw hy).1.2 g.s g.p g.d
theorem tX {C:A1} {f j:Nat} {x:EL} {q:List AV→Bool} (P:Prop) (h:P→DSumOk C f (Nf j q x)):∃ q',DSumOk C f (Nf j q' x)∧(P→q'=q):=by
 by_cases hP:P
 ·exact ⟨q,h hP,fun _=>rfl⟩
 ·exact ⟨fun _=>false,aI1,fun h=>absurd h hP⟩
theorem aU {G:Nat→List AV} {kS kP:Nat} {l:List AV} (h:Sq G kS kP l=true→False):Sq G kS kP l=false:=by
 cases e:Sq G kS kP l with
 | true=>exact (h e).elim
 | false=>rfl
theorem Ib {G:Nat→List AV} {kS kP:Nat} {l:List AV}:Sq G kS kP l=true↔8≤l.length∧yW3 l=true∧cO G kS kP l=true∧((F8 (yF G kS kP l):List UInt8)==F8 l)=true:=by
 simp only [Sq,zO,qC]
theorem qZ (G:Nat→List AV) (B:Nat) (kb kS kP L:Nat) (kd:Nat→Nat) (h8:E4 (G kb)=true) (hl:(G kb).length=L) (hL:L≤1000000) (g:YG G kS kP kd (G kb)):ACalls (za G B) 31 [AV.slice true (.ro kb) 0 L] [] fun v _=>v=(AV.tup (if Sq G kS kP (G kb)=true then [.agg [.int .i64 (yS (G kb)),.slice true (.ro kS) 0 (yK (G kb)),.slice true (.ro kP) 0 (yM (G kb))],.int .i64 0] else [.agg [.int .i64 0,.nils,.nils],.int .i64 4])):=by
 have hL':(G kb).length≤1000000:=by omega
 have r0:=aH h8 hL';have rA2:=kR h8 hL';have rB1:=kQ h8 hL';have rB2:=wV h8 hL';have hN:(rzN (G kb))≤1000000:=by unfold rzN;omega
 obtain ⟨c1,e1⟩:=wU h8 hL';obtain ⟨c2,e2⟩:=wT h8 hL';have hK:=jO h8 hL';have hM:=yM_le h8 hL';have l31:loopsOf (C3 Try.f31)=[A5 Try.f31 0,A5 Try.f31 1]:=by kernel_rfl
 have d1:F5 (za G B) 0 (A5 Try.f31 0) (D4 2553 (D9 [AV.slice true (.ro kb) 0 L,.ptr (.rw 0) 0,.ptr (.rw 2) 0,.ptr (.rw 3) 0,.int .i64 (yC1 (G kb):Int),.int .i64 0] [some ⟨1,[.int .i64 0,.nils,.nils]⟩,some ⟨1,[.slice true (.ro kb) 4 (rzN (G kb)),.int .i64 (Cj (G kb))]⟩,some ⟨1,[.ptr (.rw 1) 0,.bool (Xw (G kb))]⟩,some ⟨1,[.int .i64 (yS (G kb)),.nils,.nils]⟩]) 0 143 [0,2,4,5,6,7] (.one (.exit 0) [.slice true (.ro (.var 6 kb)) (.lit 0) (.var 14 L),.ptr (.rw 0) (.lit 0),.ptr (.rw 2) (.lit 0),.ptr (.rw 3) (.lit 0),.undef,.undef] [some ⟨1,.of [.int .i64 (.lit 0),.nils,.nils]⟩,some ⟨1,.of [.slice true (.ro (.var 6 kb)) (.lit 4) (.var 4 (rzN (G kb))),.int .i64 (.var 31 (Xx (G kb)))]⟩,some ⟨1,.of [.ptr (.rw 1) (.lit 0),.bool (.var 32 (yW1 (G kb)))]⟩,some ⟨1,.of [.int .i64 (.var 1 (yS (G kb))),.slice true (.ro (.var 24 kS)) (.lit 0) (.var 9 (yK (G kb))),.nils]⟩,none])):=by
  refine N7 rfl ((bC9 G B kb (rzN (G kb)) L (yC1 (G kb)) (Cj (G kb)) (yS (G kb)) (Xw (G kb)) kS kd rA2 hN c1 g.d g.s).lmono ?_);rintro e vs H ⟨rfl,hw,rfl⟩;exact ⟨rfl,.inl ⟨hw,rfl⟩⟩
 have d2:F5 (za G B) 0 (A5 Try.f31 1) (D4 2554 (D9 [AV.slice true (.ro kb) 0 L,.ptr (.rw 0) 0,.ptr (.rw 2) 0,.ptr (.rw 3) 0,.int .i64 (yC2 (G kb):Int),.int .i64 0] [some ⟨1,[.int .i64 0,.nils,.nils]⟩,some ⟨1,[.slice true (.ro kb) 4 (rzN (G kb)),.int .i64 (Gg (G kb))]⟩,some ⟨1,[.ptr (.rw 1) 0,.bool (Si (G kb))]⟩,some ⟨1,[.int .i64 (yS (G kb)),.slice true (.ro kS) 0 (yK (G kb)),.nils]⟩,none]) 2 143 [0,2,4,5,6,11] (.one (.exit 2) [.slice true (.ro (.var 6 kb)) (.lit 0) (.var 14 L),.ptr (.rw 0) (.lit 0),.ptr (.rw 2) (.lit 0),.ptr (.rw 3) (.lit 0),.undef,.undef] [some ⟨1,.of [.int .i64 (.lit 0),.nils,.nils]⟩,some ⟨1,.of [.slice true (.ro (.var 6 kb)) (.lit 4) (.var 4 (rzN (G kb))),.int .i64 (.var 33 (yE (G kb)))]⟩,some ⟨1,.of [.ptr (.rw 1) (.lit 0),.bool (.var 34 (yW3 (G kb)))]⟩,some ⟨1,.of [.int .i64 (.var 1 (yS (G kb))),.slice true (.ro (.var 24 kS)) (.lit 0) (.var 9 (yK (G kb))),.slice true (.ro (.var 25 kP)) (.lit 0) (.var 8 (yM (G kb)))]⟩,none])):=by
  refine N7 rfl ?_;refine AWp.forget (H:=[some ⟨1,[.int .i64 0,.nils,.nils]⟩,some ⟨1,[.slice true (.ro kb) 4 (rzN (G kb)),.int .i64 (Gg (G kb))]⟩,some ⟨1,[.ptr (.rw 1) 0,.bool (Si (G kb))]⟩,some ⟨1,[.int .i64 (yS (G kb)),.slice true (.ro kS) 0 (yK (G kb)),.nils]⟩]) (G:=[none]) (zA8 _) (by simp [I1,A6,B0]) (by simp [A6,B0]) ?_;refine (bD1 G B kb (rzN (G kb)) L (yC2 (G kb)) kS kP (yK (G kb)) (Gg (G kb)) (yS (G kb)) (Si (G kb)) rB2 hN c2 g.p).lmono ?_;rintro e vs H ⟨rfl,hw,rfl⟩;exact ⟨rfl,.inl ⟨hw,rfl⟩⟩
 obtain ⟨q3,s30,e3⟩:=tX (C:=(za G B)) (f:=30) (j:=2555) (q:=D9 [.agg [.int .i64 (yS (G kb)),.slice true (.ro kS) 0 (yK (G kb)),.slice true (.ro kP) 0 (yM (G kb))]] []) (x:=.var 22 (yF G kS kP (G kb))) (cO G kS kP (G kb)=true) fun hy=>by
  obtain ⟨hb,hw⟩:=tI g h8 hL' hy;exact aI0 rfl (aK3 G B kS kP (yK (G kb)) (yM (G kb)) (yS (G kb)) hb hw hy) rfl (Dh (Dl hb hw hy))
 have u1:U9 [.agg (G kS),.int .i64 ((yK (G kb)):Int)]=true:=R3.2 ⟨by rw [g.s];exact vY,by omega⟩;have u2:Ol [.agg (G kP),.int .i64 ((yM (G kb)):Int)]=true:=Hy.2 ⟨by rw [g.p];exact fT_ok rB2,by omega⟩;have no:Sq G kS kP (G kb)=false→(AV.tup [.agg [.int .i64 0,.nils,.nils],.int .i64 4]:AV)=(AV.tup (if Sq G kS kP (G kb)=true then [.agg [.int .i64 (yS (G kb)),.slice true (.ro kS) 0 (yK (G kb)),.slice true (.ro kP) 0 (yM (G kb))],.int .i64 0] else [.agg [.int .i64 0,.nils,.nils],.int .i64 4])):=fun h=>by rw [if_neg (by rw [h];decide)]
 have key:=C8 (C:=(za G B)) (K:=(Dc Try.prog [] ([(94,dreadS),(75,dnumS),(76,dbytesR),(77,dflagS),(21,mayrS),(30,Nf 2555 q3 (.var 22 (yF G kS kP (G kb))))]) [D4 2553 (D9 [AV.slice true (.ro kb) 0 L,.ptr (.rw 0) 0,.ptr (.rw 2) 0,.ptr (.rw 3) 0,.int .i64 (yC1 (G kb):Int),.int .i64 0] [some ⟨1,[.int .i64 0,.nils,.nils]⟩,some ⟨1,[.slice true (.ro kb) 4 (rzN (G kb)),.int .i64 (Cj (G kb))]⟩,some ⟨1,[.ptr (.rw 1) 0,.bool (Xw (G kb))]⟩,some ⟨1,[.int .i64 (yS (G kb)),.nils,.nils]⟩]) 0 143 [0,2,4,5,6,7] (.one (.exit 0) [.slice true (.ro (.var 6 kb)) (.lit 0) (.var 14 L),.ptr (.rw 0) (.lit 0),.ptr (.rw 2) (.lit 0),.ptr (.rw 3) (.lit 0),.undef,.undef] [some ⟨1,.of [.int .i64 (.lit 0),.nils,.nils]⟩,some ⟨1,.of [.slice true (.ro (.var 6 kb)) (.lit 4) (.var 4 (rzN (G kb))),.int .i64 (.var 31 (Xx (G kb)))]⟩,some ⟨1,.of [.ptr (.rw 1) (.lit 0),.bool (.var 32 (yW1 (G kb)))]⟩,some ⟨1,.of [.int .i64 (.var 1 (yS (G kb))),.slice true (.ro (.var 24 kS)) (.lit 0) (.var 9 (yK (G kb))),.nils]⟩,none]),D4 2554 (D9 [AV.slice true (.ro kb) 0 L,.ptr (.rw 0) 0,.ptr (.rw 2) 0,.ptr (.rw 3) 0,.int .i64 (yC2 (G kb):Int),.int .i64 0] [some ⟨1,[.int .i64 0,.nils,.nils]⟩,some ⟨1,[.slice true (.ro kb) 4 (rzN (G kb)),.int .i64 (Gg (G kb))]⟩,some ⟨1,[.ptr (.rw 1) 0,.bool (Si (G kb))]⟩,some ⟨1,[.int .i64 (yS (G kb)),.slice true (.ro kS) 0 (yK (G kb)),.nils]⟩,none]) 2 143 [0,2,4,5,6,11] (.one (.exit 2) [.slice true (.ro (.var 6 kb)) (.lit 0) (.var 14 L),.ptr (.rw 0) (.lit 0),.ptr (.rw 2) (.lit 0),.ptr (.rw 3) (.lit 0),.undef,.undef] [some ⟨1,.of [.int .i64 (.lit 0),.nils,.nils]⟩,some ⟨1,.of [.slice true (.ro (.var 6 kb)) (.lit 4) (.var 4 (rzN (G kb))),.int .i64 (.var 33 (yE (G kb)))]⟩,some ⟨1,.of [.ptr (.rw 1) (.lit 0),.bool (.var 34 (yW3 (G kb)))]⟩,some ⟨1,.of [.int .i64 (.var 1 (yS (G kb))),.slice true (.ro (.var 24 kS)) (.lit 0) (.var 9 (yK (G kb))),.slice true (.ro (.var 25 kP)) (.lit 0) (.var 8 (yM (G kb)))]⟩,none])] 0)) (R:=fun v _=>v=(AV.tup (if Sq G kS kP (G kb)=true then [.agg [.int .i64 (yS (G kb)),.slice true (.ro kS) 0 (yK (G kb)),.slice true (.ro kP) 0 (yM (G kb))],.int .i64 0] else [.agg [.int .i64 0,.nils,.nils],.int .i64 4]))) (by rw [l31];exact C7 (mix G B) (by kernel_rfl) (.cons (Vg G B) (.cons (oJ G B) (.cons (bZ G B) (.cons (iQ G B) (.cons (aM7 G B) (.cons s30 .nil)))))) (.cons (i:=0) (by kernel_rfl) rfl d1 (.cons (i:=2) (by kernel_rfl) rfl d2 .nil))) (fuel:=500) (n0:=20) (f:=31) (fn:=Try.f31) (args:=[.slice true (.ro (.var 6 kb)) (.lit 0) (.var 14 L)]) (H:=[]) (keep:=0) (by kernel_rfl) (by kernel_rfl) (by kernel_rfl) (by
  rw [dr_c,aM6];refine ⟨fun h=>no ?_,fun h=>?_⟩
  ·have h:=zR h;exact aU fun o=>by have:=(Ib.1 o).1;omega
  ·have h:=sJ h;have eN:Int.toNat (IntKind.wrap .i64 ((L:Int) - 4)) - 4=(rzN (G kb)):=by rw [B5 (by omega)];unfold rzN;omega
   rw [eN,B5 (n:=(L:Int) - 4) (by omega)];have n0:L2 [.agg (A0 (G kb) 4 (rzN (G kb))),.int .i64 (A3 [.agg (A0 (G kb) 4 (rzN (G kb))),.int .i64 0])]=(yC1 (G kb):Int):=e1;have n1:L2 [.agg (A0 (G kb) 4 (rzN (G kb))),.int .i64 (Xx (G kb))]=(yC2 (G kb):Int):=e2;rw [n0,n1]
   have q1:(D9 [AV.slice true (.ro kb) 0 L,.ptr (.rw 0) 0,.ptr (.rw 2) 0,.ptr (.rw 3) 0,.int .i64 (yC1 (G kb):Int),.int .i64 0] [some ⟨1,[.int .i64 0,.nils,.nils]⟩,some ⟨1,[.slice true (.ro kb) 4 (rzN (G kb)),.int .i64 (Cj (G kb))]⟩,some ⟨1,[.ptr (.rw 1) 0,.bool (Xw (G kb))]⟩,some ⟨1,[.int .i64 (yS (G kb)),.nils,.nils]⟩]) [.agg [AV.slice true (.ro kb) 0 L,.ptr (.rw 0) 0,.ptr (.rw 2) 0,.ptr (.rw 3) 0,.int .i64 (yC1 (G kb):Int),.int .i64 0],.agg (O9 [some ⟨1,[.int .i64 0,.nils,.nils]⟩,some ⟨1,[.slice true (.ro kb) 4 (rzN (G kb)),.int .i64 (Cj (G kb))]⟩,some ⟨1,[.ptr (.rw 1) 0,.bool (Xw (G kb))]⟩,some ⟨1,[.int .i64 (yS (G kb)),.nils,.nils]⟩])]=true:=D2
   have q2:(D9 [AV.slice true (.ro kb) 0 L,.ptr (.rw 0) 0,.ptr (.rw 2) 0,.ptr (.rw 3) 0,.int .i64 (yC2 (G kb):Int),.int .i64 0] [some ⟨1,[.int .i64 0,.nils,.nils]⟩,some ⟨1,[.slice true (.ro kb) 4 (rzN (G kb)),.int .i64 (Gg (G kb))]⟩,some ⟨1,[.ptr (.rw 1) 0,.bool (Si (G kb))]⟩,some ⟨1,[.int .i64 (yS (G kb)),.slice true (.ro kS) 0 (yK (G kb)),.nils]⟩,none]) [.agg [AV.slice true (.ro kb) 0 L,.ptr (.rw 0) 0,.ptr (.rw 2) 0,.ptr (.rw 3) 0,.int .i64 (yC2 (G kb):Int),.int .i64 0],.agg (O9 [some ⟨1,[.int .i64 0,.nils,.nils]⟩,some ⟨1,[.slice true (.ro kb) 4 (rzN (G kb)),.int .i64 (Gg (G kb))]⟩,some ⟨1,[.ptr (.rw 1) 0,.bool (Si (G kb))]⟩,some ⟨1,[.int .i64 (yS (G kb)),.slice true (.ro kS) 0 (yK (G kb)),.nils]⟩,none])]=true:=D2
   refine ⟨yI (by omega),yI (by omega),E0.2 r0,E0.2 (Da r0),q1,E0.2 rB1,q2,fun hw=>⟨u1,u2,fun hy=>⟨by rw [e3 hy];exact D2,A8.2 (zA7 _),?_,A8.2 (Nat.le_of_eq hl.symm),?_,fun hf=>?_,fun hf=>no ?_⟩,fun hy=>no ?_⟩,fun hw=>no ?_⟩
   ·obtain ⟨hb,hw⟩:=tI g h8 hL' hy;rw [L3 rfl];exact Dh (Dl hb hw hy)
   ·rw [L3 hl];exact G9 h8
   ·rw [L3 rfl,L3 hl] at hf;rw [if_pos (Ib.2 ⟨by omega,hw,hy,hf⟩)]
   ·rw [L3 rfl,L3 hl] at hf;exact aU fun o=>by rw [(Ib.1 o).2.2.2] at hf;cases hf
   ·exact aU fun o=>by
     have:=(Ib.1 o).2.2.1
     unfold cO at this;rw [this] at hy;cases hy
   ·exact aU fun o=>by
     have:=(Ib.1 o).2.1
     have hw:yW3 (G kb)=false:=hw
     rw [this] at hw;cases hw)
 exact key.monoK fun v H h=>h
theorem Rh {s:List AV} {a:Int} (h:C0 [.agg s,.int .i64 a]=0) (hv:A7 [.agg s,.int .i64 a]≤99999):X9 s a=true∧L0 s a=A7 [.agg s,.int .i64 a]:=by
 have:X9 s a=true:=by unfold X9;rw [h,yI hv];rfl
 exact ⟨this,by unfold L0;rw [if_pos this]⟩
theorem aZ2 {s:List AV} {n:Nat} {a:Int} (h:L7 [.agg s,.ptr (.rw 0) n,.int .i64 a,.int .i64 8192]=0):L7 [.agg s,.ptr (.rw 0) n,.int .i64 a,.int .i64 99999]=0∧I4 [.agg s,.ptr (.rw 0) n,.int .i64 a,.int .i64 99999]=I4 [.agg s,.ptr (.rw 0) n,.int .i64 a,.int .i64 8192]∧J9 [.agg s,.ptr (.rw 0) n,.int .i64 a,.int .i64 99999]=J9 [.agg s,.ptr (.rw 0) n,.int .i64 a,.int .i64 8192]∧D5 [.agg s,.ptr (.rw 0) n,.int .i64 a,.int .i64 99999]=D5 [.agg s,.ptr (.rw 0) n,.int .i64 a,.int .i64 8192]:=by
 simp only [L7] at h;by_cases e:C0 [.agg s,.int .i64 a]=0
 ·rw [if_pos e] at h;by_cases v:A7 [.agg s,.int .i64 a]≤8192
  ·rw [if_pos v] at h;by_cases r:A7 [.agg s,.int .i64 a]≤(n:Int) - A3 [.agg s,.int .i64 a]
   ·have ok:M6 s n a 8192=true:=by unfold M6;rw [yI e,yI v,yI r];rfl
    have ok':M6 s n a 99999=true:=by unfold M6;rw [yI e,yI (by omega),yI r];rfl
    refine ⟨?_,?_,?_,?_⟩
    ·simp only [L7];rw [if_pos e,if_pos (by omega),if_pos r]
    ·simp only [I4];rw [ok,ok']
    ·simp only [J9];rw [ok,ok']
    ·simp only [D5];rw [ok,ok']
   ·rw [if_neg r] at h;cases h
  ·rw [if_neg v] at h;cases h
 ·rw [if_neg e] at h;exact absurd h e
theorem Ys {s:List AV} {n:Nat} {p:Int} (h:X6 s n p=true) (ha:dA s p≤8192) (hr:At s p≤8192) (hz:dZ s n p≤8192) :
  oI s n p=true∧eQ4 s n p=d4 s n p∧L0 s p=dA s p∧L0 s (T0 s p)=At s p∧eN s n p=dN s n p∧eD s n p=dD s n p∧eZ s n p=dZ s n p:=by
 obtain ⟨o1,o2,o3,o4⟩:=gM.1 h;obtain ⟨k1,v1⟩:=Rh (N9.1 o1).1 (by have:A7 [.agg s,.int .i64 p]≤8192:=ha;omega);obtain ⟨k2,v2⟩:=Rh (N9.1 o2).1 (by have:A7 [.agg s,.int .i64 (d1 s p)]≤8192:=hr;omega);obtain ⟨k4,v4⟩:=Rh (N9.1 o4).1 (by have:A7 [.agg s,.int .i64 (d3 s n p)]≤8192:=hz;omega);obtain ⟨b1,b2,b3,b4⟩:=aZ2 (a:=d2 s p) (eq_of_beq o3);have e3:eQ3 s n p=d3 s n p:=b4;have k2:X9 s (T0 s p)=true:=k2;refine ⟨?_,?_,v1,v2,b2,b3,?_⟩
 ·unfold oI;have b1:L7 [.agg s,.ptr (.rw 0) n,.int .i64 (eQ2 s p),.int .i64 99999]=0:=b1;rw [k1,k2,b1,e3,k4];rfl
 ·unfold eQ4;rw [e3];rfl
 ·unfold eZ;rw [e3];exact v4
theorem mK {s:List AV} {p:Int} (h:Az s p=true) (ha:dA s p≤8192):fOk s p=true∧fQ2 s p=d5 s p∧L0 s p=dA s p∧fH s p=dP s p:=by
 simp only [Az,zO] at h;obtain ⟨k1,v1⟩:=Rh (N9.1 h.1).1 (by have:A7 [.agg s,.int .i64 p]≤8192:=ha;omega);refine ⟨?_,rfl,v1,rfl⟩;unfold fOk;rw [k1];exact h.2
theorem nN {p:Nat→Bool} {c:Nat} (h:∀ j,j<c→p j=false):L9 p c=c:=by
 obtain ⟨h1,h2,_⟩:=K2 (p:=p) (k:=c);rcases Nat.lt_or_ge (L9 p c) c with q | q
 ·have:=h2 q
  rw [h _ q] at this;cases this
 ·omega
theorem aL5 {G:Nat→List AV} {ks kp:Nat} {kd:Nat→Nat} {l:List AV} (h8:E4 l=true) (hL:l.length≤1000000) (g:Yh G ks kp kd l) (o:Y1 G ks kp l=true):YG G ks kp kd l∧Sq G ks kp l=true:=by
 obtain ⟨⟨l8,_⟩,q1,⟨q2,_⟩,⟨q3,_⟩,_,my,ef⟩:=En o;have z:=rz_3 h8 hL (by simp only [Y1,zO] at o;exact o.1);have sec:=Ie my;obtain ⟨hb,_⟩:=lR g z;have hx:=uX my hb.pls;have n8:=(Fw my).1;obtain ⟨c1,c2⟩:=N9.1 q1;obtain ⟨c3,c4⟩:=P5.1 q2;obtain ⟨c5,c6⟩:=P5.1 q3;have s8:=mX my;obtain ⟨k0,v0⟩:=Rh c1 (by have:A7 [.agg (rzT l),.int .i64 0]≤8192:=s8.2;omega);obtain ⟨k1,v1⟩:=Rh c3 (by omega);have eS:yS l=Gk l:=v0;have eA:Cj l=d1 (rzT l) (rzA l):=rfl
 have eC:yC1 l=rzn l:=by
  show (L0 (rzT l) (rzA l)).toNat=_;rw [v1];unfold rzn Cc;rw [if_pos q2]
 have eW:Xw l=true:=by
  show (X9 (rzT l) 0&&X9 (rzT l) (rzA l))=true;rw [k0,k1];rfl
 have at_:∀ j,j<rzn l→X6 (rzT l) (rzN l) (B3 (rzT l) (rzN l) (d1 (rzT l) (rzA l)) j)=true∧dA (rzT l) (B3 (rzT l) (rzN l) (d1 (rzT l) (rzA l)) j)≤8192∧At (rzT l) (B3 (rzT l) (rzN l) (d1 (rzT l) (rzA l)) j)≤8192∧dZ (rzT l) (rzN l) (B3 (rzT l) (rzN l) (d1 (rzT l) (rzA l)) j)≤8192:=fun j hj=>by
  have t:=Q6.1 (sec j hj).2.2.2;rw [g.s] at t;obtain ⟨e1,e2,e3,e4,_⟩:=cB (s:=rzT l) (N:=rzN l) (p:=d1 (rzT l) (rzA l)) (kd:=kd) hj;rw [e1,e2,e3,e4] at t;exact ⟨E7.1 z.z2.all j hj,t.2.1.2.1,by have:=t.2.2.1.2;omega,t.1.2.1⟩
 have cl:∀ j,j≤rzn l→D6 (rzT l) (rzN l) (Cj l) j=B3 (rzT l) (rzN l) (d1 (rzT l) (rzA l)) j∧Y2 (rzT l) (rzN l) (Cj l) (Xw l) j=true:=by
  intro j
  induction j with
  | zero=>intro _;exact ⟨rfl,eW⟩
  | succ j ih=>
   intro hj;obtain ⟨i1,i2⟩:=ih (by omega);obtain ⟨a1,a2,a3,a4⟩:=at_ j (by omega);obtain ⟨r1,r2,_⟩:=Ys a1 a2 a3 a4;exact ⟨by rw [D6,B3,i1,r2],by rw [Y2,i2,i1,r1];rfl⟩
 have eK:yK l=rzn l:=by
  unfold yK Go.Am.eK;rw [eC];exact nN fun j hj=>by rw [(cl j (by omega)).2];rfl
 have eX:rzX l=B3 (rzT l) (rzN l) (d1 (rzT l) (rzA l)) (rzn l):=by unfold rzX gQ rzn;rw [if_pos q2]
 have eB1:Xx l=rzX l:=by unfold Xx;rw [eK,(cl _ (zA7 _)).1,eX]
 have eW1:yW1 l=true:=by unfold yW1;rw [eK];exact (cl _ (zA7 _)).2
 obtain ⟨k2,v2⟩:=Rh c5 (by omega)
 have eC2:yC2 l=rzm l:=by
  unfold yC2;rw [eB1,v2];unfold rzm Cc;rw [if_pos q3]
 have eB2:Gg l=d1 (rzT l) (rzX l):=by unfold Gg;rw [eB1];rfl
 have eW2:Si l=true:=by unfold Si;rw [eW1,eB1,k2];rfl
 have at2:∀ j,j<rzm l→Az (rzT l) (H6 (rzT l) (d1 (rzT l) (rzX l)) j)=true∧dA (rzT l) (H6 (rzT l) (d1 (rzT l) (rzX l)) j)≤8192:=fun j hj=>by
  have t:=(hx j hj).2;rw [g.p] at t;have e0:=kI (s:=rzT l) (p':=d1 (rzT l) (rzX l)) hj (b:=0) (by omega);rw [Nat.add_zero] at e0;have e:xP (R4 (rzT l) (d1 (rzT l) (rzX l)) (rzm l)) j=dA (rzT l) (H6 (rzT l) (d1 (rzT l) (rzX l)) j):=by unfold xP A2;rw [e0];rfl
  rw [e] at t;exact ⟨E7.1 z.all j hj,t⟩
 have cl2:∀ j,j≤rzm l→R6 (rzT l) (Gg l) j=H6 (rzT l) (d1 (rzT l) (rzX l)) j∧Ap (rzT l) (Gg l) (Si l) j=true:=by
  intro j
  induction j with
  | zero=>intro _;exact ⟨eB2,eW2⟩
  | succ j ih=>
   intro hj;obtain ⟨i1,i2⟩:=ih (by omega);obtain ⟨a1,a2⟩:=at2 j (by omega);obtain ⟨r1,r2,_⟩:=mK a1 a2;exact ⟨by rw [R6,H6,i1,r2],by rw [Ap,i2,i1,r1];rfl⟩
 have eM:yM l=rzm l:=by
  unfold yM fM;rw [eC2];exact nN fun j hj=>by rw [(cl2 j (by omega)).2];rfl
 refine ⟨⟨fun j hj=>?_,?_,?_⟩,Ib.2 ⟨l8,?_,?_,?_⟩⟩
 ·rw [eK] at hj;obtain ⟨a1,a2,a3,a4⟩:=at_ j hj;rw [(cl j (by omega)).1,(Ys a1 a2 a3 a4).2.2.2.2.2.1];exact g.d j hj
 ·rw [eK];refine Eq.trans g.s (U8 fun i b hi hb'=>?_);obtain ⟨a1,a2,a3,a4⟩:=at_ i hi;obtain ⟨_,_,r3,r4,r5,_,r7⟩:=Ys a1 a2 a3 a4;have ec:=(cl i (by omega)).1
  match b,hb' with
  | 0,_=>show AV.int .i64 _=.int .i64 (L0 (rzT l) (D6 (rzT l) (rzN l) (Cj l) i));rw [ec,r3]
  | 1,_=>show AV.int .i64 _=.int .i64 (L0 (rzT l) (T0 (rzT l) (D6 (rzT l) (rzN l) (Cj l) i)));rw [ec,r4]
  | 2,_=>show AV.slice true (.ro (kd i)) 0 _=.slice true (.ro (kd i)) 0 (eN (rzT l) (rzN l) (D6 (rzT l) (rzN l) (Cj l) i));rw [ec,r5]
  | 3,_=>show AV.int .i64 _=.int .i64 (eZ (rzT l) (rzN l) (D6 (rzT l) (rzN l) (Cj l) i));rw [ec,r7]
 ·rw [eM];refine Eq.trans g.p (U8 fun i b hi hb'=>?_);obtain ⟨a1,a2⟩:=at2 i hi;obtain ⟨_,_,r3,r4⟩:=mK a1 a2;have ec:=(cl2 i (by omega)).1
  match b,hb' with
  | 0,_=>show AV.int .i64 _=.int .i64 (L0 (rzT l) (R6 (rzT l) (Gg l) i));rw [ec,r3]
  | 1,_=>show AV.bool _=.bool (fH (rzT l) (R6 (rzT l) (Gg l) i));rw [ec,r4]
 ·unfold yW3;rw [eM];exact (cl2 _ (zA7 _)).2
 ·unfold cO;rw [eS,eK,eM];exact my
 ·unfold yF;rw [eS,eK,eM];exact ef
open List renaming length → wW
def sLen (h:Nat) (a b:DSum):DSum:=fun args H=>match Nat.beq H.length h with
 | true=>a args H
 | false=>b args H
theorem cZ {C:A1} {f h:Nat} {a b:DSum} (ha:DSumOk C f a) (hb:DSumOk C f b):DSumOk C f (sLen h a b):=by
 intro args H o ho;unfold sLen at ho;split at ho
 ·exact ha _ _ _ ho
 ·exact hb _ _ _ ho
def tY (k:Nat) (a b:DSum):DSum:=fun args H=>match args with
 | .agg (.of [_,.slice _ (.rw i) _ _,_])::_=>(match Nat.beq i k with
  | true=>a args H
  | false=>b args H)
 | _=>none
theorem aX9 {C:A1} {f k:Nat} {a b:DSum} (ha:DSumOk C f a) (hb:DSumOk C f b):DSumOk C f (tY k a b):=by
 intro args H o ho;unfold tY at ho;split at ho
 ·split at ho
  ·exact ha _ _ _ ho
  ·exact hb _ _ _ ho
 ·cases ho
theorem yT (G:Nat→List AV) (q1 q2 q3 q4 q5 q6:List AV→Bool) (kb L:Nat) (ow:List AV) (Q:Ex→List AV→Hp→Prop) (R:AV→Hp→Prop):vT G Q R (H5 (Dc Try.prog [16] [(11,trueS),(29,sLen 3 (Bl 2570 q1 (.one (.tup [(.agg (.of [.int .i64 (.lit 0),.nils,.nils])),.int .i64 (.lit 4)]) [])) (Bl 2576 q6 (.one (.tup [(.agg (.of [.int .i64 (.lit 0),.nils,.nils])),.int .i64 (.lit 4)]) []))),(31,Fs 2571 q2 (.one (.tup [(.agg (.of [.int .i64 (.lit 0),.nils,.nils])),.int .i64 (.lit 4)]) [])),(15,Fs 2572 q3 (.one (.bool (.lit true)) []))] [D4 2573 q4 0 106 [3,4,6,8,10] (.one (.exit 0) [.undef,.ptr (.rw 3) (.lit 0),.ptr (.rw 4) (.lit 0),.ptr (.rw 5) (.lit 0),.undef] [none,some ⟨1,.of [.int .u8 (.lit 119)]⟩,some ⟨1,.var 12 ow⟩,some ⟨1,.of [.int .i64 (.lit 0),.nils,.nils]⟩,some ⟨1,.of [.int .i64 (.lit 0),.nils,.nils]⟩,some ⟨1,.of [.int .i64 (.lit 0),.nils,.nils]⟩]),D4 2574 q5 2 106 [4,6,8,11] (.one (.exit 2) [.undef,.ptr (.rw 4) (.lit 0),.ptr (.rw 5) (.lit 0),.undef] [none,some ⟨1,.of [.int .u8 (.lit 119)]⟩,some ⟨1,.var 12 ow⟩,some ⟨1,.of [.int .i64 (.lit 0),.nils,.nils]⟩,some ⟨1,.of [.int .i64 (.lit 0),.nils,.nils]⟩,some ⟨1,.of [.int .i64 (.lit 0),.nils,.nils]⟩])] 0) 500 20 Try.f8 [.slice true (.ro (.var 26 kb)) (.lit 0) (.var 5 L)] [] 0)=(
  (decide (((L:Int):Int)>20000)=true→R (.bool true) [])∧(decide (((L:Int):Int)>20000)=false→leB L (wW (G kb))=true∧cellsB (A0 (G kb) 0 L)=true∧leB L 140737488355328=true∧leB (L+1) 140737488355328=true∧Nat.beq (wW (A0 (G kb) 0 L)) L=true∧decide ((0:Int)≤(L:Int))=true∧decide (((L:Int):Int)≤((L+1:Nat):Int))=true∧q1 [.agg ([.slice true (.rw 2) 0 L]:List AV),.agg ([.undef,.tup [.int .i64 1,.agg ([.int .u8 119]:List AV)],.tup [.int .i64 1,.agg ((A0 (G kb) 0 L)++([.int .u8 119]:List AV))]]:List AV)]=true∧decide ((0:Int)≤(L:Int))=true∧decide (((L:Int):Int)≤((L+1:Nat):Int))=true∧q6 [.agg ([.slice true (.rw 2) 0 L]:List AV),.agg ([.undef,.tup [.int .i64 1,.agg ([.int .u8 119]:List AV)],.tup [.int .i64 1,.agg ((A0 (G kb) 0 L)++([.int .u8 119]:List AV))],.tup [.int .i64 1,.agg ([.int .i64 0,.nils,.nils]:List AV)]]:List AV)]=true∧q2 [.agg ([.slice true (.ro kb) 0 L]:List AV),.agg ([]:List AV)]=true∧leB (L+1) (wW ((A0 (G kb) 0 L)++([.int .u8 119]:List AV)))=true∧u8s (A0 ((A0 (G kb) 0 L)++([.int .u8 119]:List AV)) 0 (L+1))=true∧leB L (wW (G kb))=true∧u8s (A0 (G kb) 0 L)=true∧leB (wW (F8 (A0 (G kb) 0 L))+1) 9223372036854775807=true∧((((F8 (A0 ((A0 (G kb) 0 L)++([.int .u8 119]:List AV)) 0 (L+1))):List UInt8)==((F8 (A0 (G kb) 0 L))++([119]:List UInt8)))=true→q3 [.agg ([.agg ([.int .i64 0,.nils,.nils]:List AV),.agg ([.int .i64 0,.nils,.nils]:List AV)]:List AV),.agg ([]:List AV)]=true∧
 q4 [.agg ([.slice true (.rw 2) 0 (L+1),.ptr (.rw 3) 0,.ptr (.rw 4) 0,.ptr (.rw 5) 0,.int .i64 0]:List AV),.agg ([.undef,.tup [.int .i64 1,.agg ([.int .u8 119]:List AV)],.tup [.int .i64 1,.agg ((A0 (G kb) 0 L)++([.int .u8 119]:List AV))],.tup [.int .i64 1,.agg ([.int .i64 0,.nils,.nils]:List AV)],.tup [.int .i64 1,.agg ([.int .i64 0,.nils,.nils]:List AV)],.tup [.int .i64 1,.agg ([.int .i64 0,.nils,.nils]:List AV)]]:List AV)]=true∧q5 [.agg ([.ptr (.rw 3) 0,.ptr (.rw 4) 0,.ptr (.rw 5) 0,.int .i64 0]:List AV),.agg ([.undef,.tup [.int .i64 1,.agg ([.int .u8 119]:List AV)],.tup [.int .i64 1,.agg ow],.tup [.int .i64 1,.agg ([.int .i64 0,.nils,.nils]:List AV)],.tup [.int .i64 1,.agg ([.int .i64 0,.nils,.nils]:List AV)],.tup [.int .i64 1,.agg ([.int .i64 0,.nils,.nils]:List AV)]]:List AV)]=true∧q3 [.agg ([.agg ([.int .i64 0,.nils,.nils]:List AV),.agg ([.int .i64 0,.nils,.nils]:List AV)]:List AV),.agg ([]:List AV)]=true∧R (.bool true) [])∧((((F8 (A0 ((A0 (G kb) 0 L)++([.int .u8 119]:List AV)) 0 (L+1))):List UInt8)==((F8 (A0 (G kb) 0 L))++([119]:List UInt8)))=false→R (.bool false) []))):=by kernel_rfl
def aO (ks:Nat) (kp:Nat) (n:Nat) (m:Nat) (s:Int):List AV:=[.tup [.int .i64 1,.agg ([.int .i64 s,.slice true (.rw 14) 0 n,.slice true (.rw 15) 0 m]:List AV)], .tup [.int .i64 1,.agg ([.int .i64 s,.slice true (.ro ks) 0 n,.slice true (.ro kp) 0 m]:List AV)]]
def Tq (n:Nat) (m:Nat) (s:Int):List AV:=[.int .i64 1,.agg ([.int .i64 s,.slice true (.rw 3) 0 n,.slice true (.rw 4) 0 m]:List AV)]
theorem ry_law (G:Nat→List AV) (q1 q2 q3 q4 q5 q6 q7:List AV→Bool) (ks kp kb L n m:Nat) (s:Int) (ow sc sc2 pl dl sf df:List AV) (Q:Ex→List AV→Hp→Prop) (R:AV→Hp→Prop):vT G Q R (H5 (Dc Try.prog [16] [(11,trueS),(29,sLen 3 (Bl 2570 q1 (.one (.tup [.agg (.of [.int .i64 (.var 1 s),.slice true (.rw 3) (.lit 0) (.var 3 n),.slice true (.rw 4) (.lit 0) (.var 4 m)]),.int .i64 (.lit 0)]) (.new ⟨4,.var 21 sc⟩ :: .new ⟨2,.var 7 pl⟩ :: rN8 (.var 22 dl) []))) (Bl 2576 q6 (.one (.tup [.agg (.of [.int .i64 (.var 1 s),.slice true (.rw 14) (.lit 0) (.var 3 n),.slice true (.rw 15) (.lit 0) (.var 4 m)]),.int .i64 (.lit 0)]) (.new ⟨4,.var 31 sc2⟩ :: .new ⟨2,.var 7 pl⟩ :: rN8 (.var 22 dl) [])))),(31,Fs 2571 q2 (.one (.tup [.agg (.of [.int .i64 (.var 1 s),.slice true (.ro (.var 24 ks)) (.lit 0) (.var 3 n),.slice true (.ro (.var 25 kp)) (.lit 0) (.var 4 m)]),.int .i64 (.lit 0)]) [])),(15,tY 3 (Bl 2572 q3 (.one (.bool (.lit true)) [])) (Bl 2575 q7 (.one (.bool (.lit true)) [])))] [D4 2573 q4 0 106 [3,4,6,8,10] (.one (.exit 0) [.undef,.ptr (.rw 13) (.lit 0),.ptr (.rw 24) (.lit 0),.ptr (.rw 25) (.lit 0),.undef] (none :: some ⟨1,.of [.int .u8 (.lit 119)]⟩ :: some ⟨1,.var 12 ow⟩ :: some ⟨4,.var 21 sc⟩ :: some ⟨2,.var 7 pl⟩ :: U7 (.var 22 dl) (some ⟨1,.of [.int .i64 (.var 1 s),.slice true (.rw 3) (.lit 0) (.var 3 n),.slice true (.rw 4) (.lit 0) (.var 4 m)]⟩ :: some ⟨4,.var 31 sc2⟩ :: some ⟨2,.var 7 pl⟩ :: U7 (.var 22 dl) [some ⟨1,.of [.int .i64 (.var 1 s),.slice true (.rw 14) (.lit 0) (.var 3 n),.slice true (.rw 15) (.lit 0) (.var 4 m)]⟩, some ⟨1,.of [.int .i64 (.var 1 s),.slice true (.ro (.var 24 ks)) (.lit 0) (.var 3 n),.slice true (.ro (.var 25 kp)) (.lit 0) (.var 4 m)]⟩]))),D4 2574 q5 2 106 [4,6,8,11] (.one (.exit 2) [.undef,.ptr (.rw 24) (.lit 0),.ptr (.rw 25) (.lit 0),.undef] (none :: some ⟨1,.of [.int .u8 (.lit 119)]⟩ :: some ⟨1,.var 12 ow⟩ :: some ⟨4,.var 41 sf⟩ :: some ⟨2,.var 7 pl⟩ :: U7 (.var 43 df) (some ⟨1,.of [.int .i64 (.var 1 s),.slice true (.rw 3) (.lit 0) (.var 3 n),.slice true (.rw 4) (.lit 0) (.var 4 m)]⟩ :: some ⟨4,.var 31 sc2⟩ :: some ⟨2,.var 7 pl⟩ :: U7 (.var 22 dl) [some ⟨1,.of [.int .i64 (.var 1 s),.slice true (.rw 14) (.lit 0) (.var 3 n),.slice true (.rw 15) (.lit 0) (.var 4 m)]⟩, some ⟨1,.of [.int .i64 (.var 1 s),.slice true (.ro (.var 24 ks)) (.lit 0) (.var 3 n),.slice true (.ro (.var 25 kp)) (.lit 0) (.var 4 m)]⟩])))] 0) 500 20 Try.f8 [.slice true (.ro (.var 26 kb)) (.lit 0) (.var 5 L)] [] 0)=(
  (decide (((L:Int):Int)>20000)=true→R (.bool true) [])∧(decide (((L:Int):Int)>20000)=false→leB L (wW (G kb))=true∧cellsB (A0 (G kb) 0 L)=true∧leB L 140737488355328=true∧leB (L+1) 140737488355328=true∧Nat.beq (wW (A0 (G kb) 0 L)) L=true∧decide ((0:Int)≤(L:Int))=true∧decide (((L:Int):Int)≤((L+1:Nat):Int))=true∧q1 [.agg ([.slice true (.rw 2) 0 L]:List AV),.agg ([.undef,.tup [.int .i64 1,.agg ([.int .u8 119]:List AV)],.tup [.int .i64 1,.agg ((A0 (G kb) 0 L)++([.int .u8 119]:List AV))]]:List AV)]=true∧decide ((0:Int)≤(L:Int))=true∧decide (((L:Int):Int)≤((L+1:Nat):Int))=true∧q6 [.agg ([.slice true (.rw 2) 0 L]:List AV),.agg ((.undef :: .tup [.int .i64 1,.agg ([.int .u8 119]:List AV)] :: .tup [.int .i64 1,.agg ((A0 (G kb) 0 L)++([.int .u8 119]:List AV))] :: .tup [.int .i64 4,.agg sc] :: .tup [.int .i64 2,.agg pl] :: Sn dl [.tup (Tq n m s)]):List AV)]=true∧q2 [.agg ([.slice true (.ro kb) 0 L]:List AV),.agg ([]:List AV)]=true∧leB (L+1) (wW ((A0 (G kb) 0 L)++([.int .u8 119]:List AV)))=true∧u8s (A0 ((A0 (G kb) 0 L)++([.int .u8 119]:List AV)) 0 (L+1))=true∧leB L (wW (G kb))=true∧u8s (A0 (G kb) 0 L)=true∧leB (wW (F8 (A0 (G kb) 0 L))+1) 9223372036854775807=true∧((((F8 (A0 ((A0 (G kb) 0 L)++([.int .u8 119]:List AV)) 0 (L+1))):List UInt8)==((F8 (A0 (G kb) 0 L))++([119]:List UInt8)))=true→
 q3 [.agg ([.agg ([.int .i64 s,.slice true (.rw 3) 0 n,.slice true (.rw 4) 0 m]:List AV),.agg ([.int .i64 s,.slice true (.ro ks) 0 n,.slice true (.ro kp) 0 m]:List AV)]:List AV),.agg ((.undef :: .tup [.int .i64 1,.agg ([.int .u8 119]:List AV)] :: .tup [.int .i64 1,.agg ((A0 (G kb) 0 L)++([.int .u8 119]:List AV))] :: .tup [.int .i64 4,.agg sc] :: .tup [.int .i64 2,.agg pl] :: Sn dl (.tup (Tq n m s) :: .tup [.int .i64 4,.agg sc2] :: .tup [.int .i64 2,.agg pl] :: Sn dl (aO ks kp n m s))):List AV)]=true∧q4 [.agg ([.slice true (.rw 2) 0 (L+1),.ptr (.rw 13) 0,.ptr (.rw 24) 0,.ptr (.rw 25) 0,.int .i64 0]:List AV),.agg ((.undef :: .tup [.int .i64 1,.agg ([.int .u8 119]:List AV)] :: .tup [.int .i64 1,.agg ((A0 (G kb) 0 L)++([.int .u8 119]:List AV))] :: .tup [.int .i64 4,.agg sc] :: .tup [.int .i64 2,.agg pl] :: Sn dl (.tup (Tq n m s) :: .tup [.int .i64 4,.agg sc2] :: .tup [.int .i64 2,.agg pl] :: Sn dl (aO ks kp n m s))):List AV)]=true∧q5 [.agg ([.ptr (.rw 13) 0,.ptr (.rw 24) 0,.ptr (.rw 25) 0,.int .i64 0]:List AV),.agg ((.undef :: .tup [.int .i64 1,.agg ([.int .u8 119]:List AV)] :: .tup [.int .i64 1,.agg ow] :: .tup [.int .i64 4,.agg sc] :: .tup [.int .i64 2,.agg pl] :: Sn dl (.tup (Tq n m s) :: .tup [.int .i64 4,.agg sc2] :: .tup [.int .i64 2,.agg pl] :: Sn dl (aO ks kp n m s))):List AV)]=true∧
 q7 [.agg ([.agg ([.int .i64 s,.slice true (.rw 14) 0 n,.slice true (.rw 15) 0 m]:List AV),.agg ([.int .i64 s,.slice true (.ro ks) 0 n,.slice true (.ro kp) 0 m]:List AV)]:List AV),.agg ((.undef :: .tup [.int .i64 1,.agg ([.int .u8 119]:List AV)] :: .tup [.int .i64 1,.agg ow] :: .tup [.int .i64 4,.agg sf] :: .tup [.int .i64 2,.agg pl] :: Sn df (.tup (Tq n m s) :: .tup [.int .i64 4,.agg sc2] :: .tup [.int .i64 2,.agg pl] :: Sn dl (aO ks kp n m s))):List AV)]=true∧R (.bool true) [])∧((((F8 (A0 ((A0 (G kb) 0 L)++([.int .u8 119]:List AV)) 0 (L+1))):List UInt8)==((F8 (A0 (G kb) 0 L))++([119]:List UInt8)))=false→R (.bool false) []))):=by kernel_rfl
end Go.Am
