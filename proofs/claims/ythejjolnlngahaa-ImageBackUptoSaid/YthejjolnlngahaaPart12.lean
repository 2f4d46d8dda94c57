/-
  Images moved: a place's bytes read and laid anew: the four loops. Images moved: the reference's two inner loops.
-/
import Derived.Test.YthejjolnlngahaaPart11
import Derived.Test.YthejjolnlngahaaPart8
import Derived.Test.YthejjolnlngahaaBase5
namespace Go.Am
open Go.Proofs
set_option maxRecDepth 100000
theorem mv_rd (G:Nat→List AV) (B:Nat) (b0 b1 sc pl b12 b13:List AV) (D:Nat→List Nat) (j a w m i:Nat) (by_:Int) (hj:j<8) (hw:w≤4) (hb:Ao (D j)) (ha:a+w≤(D j).length):AWp (⟨Try.prog,G,B⟩:A0) 14 (.loop (A2 Try.f13 1)) (fl 108 [1,4,5,7,9,11,12,36,37,38,62,63] [.int .i64 by_,.ptr (.rw 1) 0,.int .i64 0,.ptr (.rw 12) 0,.ptr (.rw 13) 0,.slice true (.rw (4+j)) a w,.int .u32 0,.slice true (.rw 3) 0 m,.int .i64 (m:Int),.int .i64 (i:Int),.int .i64 (w:Int),.int .i64 0]) (Dt b0 b1 sc pl (A7 D) b12 b13) (lv 108 [1,4,5,7,9,11,12,36,37,38,62,63] fun e vs H=>e=.exit 2∧wk [.int .i64 by_,.ptr (.rw 1) 0,.int .i64 0,.ptr (.rw 12) 0,.ptr (.rw 13) 0,.slice true (.rw (4+j)) a w,.int .u32 (leN (D j) a w:Int),.slice true (.rw 3) 0 m,.int .i64 (m:Int),.int .i64 (i:Int),.undef,.undef] vs∧H=Dt b0 b1 sc pl (A7 D) b12 b13):=by
 refine X7 w (fun q=>[.int .i64 by_,.ptr (.rw 1) 0,.int .i64 0,.ptr (.rw 12) 0,.ptr (.rw 13) 0,.slice true (.rw (4+j)) a w,.int .u32 (leN (D j) a q:Int),.slice true (.rw 3) 0 m,.int .i64 (m:Int),.int .i64 (i:Int),.int .i64 (w:Int),.int .i64 (q:Int)]) (fun _=>Dt b0 b1 sc pl (A7 D) b12 b13) fun q hq=>?_
 refine D1 (C:=(⟨Try.prog,G,B⟩:A0)) (K:=Df Try.prog [(37,4,8)] [] [] [] 14) (by rw [show B5 (A2 Try.f13 1)=[] by kernel_rfl];exact Bm (K6 G B) (by kernel_rfl) .nil .nil) (fuel:=300) (n0:=20) (m:=14) (c:=A2 Try.f13 1) (vs:=[.int .i64 (.var 1 by_),.ptr (.rw 1) (.lit 0),.int .i64 (.lit 0),.ptr (.rw 12) (.lit 0),.ptr (.rw 13) (.lit 0),.slice true (.fm 4 8 (.var 11 j)) (.var 12 a) (.var 13 w),.int .u32 (.var 14 (leN (D j) a q:Int)),.slice true (.rw 3) (.lit 0) (.var 4 m),.int .i64 (.ofN (.var 4 m)),.int .i64 (.ofN (.var 8 i)),.int .i64 (.ofN (.var 13 w)),.int .i64 (.ofN (.var 9 q))]) (H:=[some ⟨1,.var 31 b0⟩,some ⟨1,.var 32 b1⟩,some ⟨4,.var 21 sc⟩,some ⟨2,.var 7 pl⟩,some ⟨1,.row (.var 22 (A7 D)) (.lit 0)⟩,some ⟨1,.row (.var 22 (A7 D)) (.lit 1)⟩,some ⟨1,.row (.var 22 (A7 D)) (.lit 2)⟩,some ⟨1,.row (.var 22 (A7 D)) (.lit 3)⟩,some ⟨1,.row (.var 22 (A7 D)) (.lit 4)⟩,some ⟨1,.row (.var 22 (A7 D)) (.lit 5)⟩,some ⟨1,.row (.var 22 (A7 D)) (.lit 6)⟩,some ⟨1,.row (.var 22 (A7 D)) (.lit 7)⟩,some ⟨1,.var 33 b12⟩,some ⟨1,.var 34 b13⟩]) (zA1 _) ?_
 rw [mv_r];refine ⟨fun h1=>?_,fun h1=>?_⟩
 ·have hqw:q<w:=by have:=yL h1;omega
  have lt:q+a<(D j).length:=by omega
  rw [Rm hj,Zv lt,Nat.add_comm q a,aX8 (by omega) hb,B6 (n:=(q:Int)+1) (by omega)];refine ⟨yM (by omega),h1,B2.2 (by omega),aP,bB0 (by omega),?_,hqw,.inl ⟨rfl,rfl⟩⟩;exact yM (by rw [B6 (by omega)];omega)
 ·have:q=w:=by have:=yP h1;omega
  subst this;exact ⟨rfl,by simp [wk],rfl⟩
theorem mv_wr (G:Nat→List AV) (B:Nat) (b0 b1 sc pl b12 b13:List AV) (D:Nat→List Nat) (j a w m i v:Nat) (by_:Int) (hj:j<8) (hw:w≤4) (ha:a+w≤(D j).length):AWp (⟨Try.prog,G,B⟩:A0) 14 (.loop (A2 Try.f13 2)) (fl 108 [1,4,5,7,11,12,36,37,38,89,90] [.int .i64 by_,.ptr (.rw 1) 0,.int .i64 0,.ptr (.rw 12) 0,.slice true (.rw (4+j)) a w,.int .u32 (v:Int),.slice true (.rw 3) 0 m,.int .i64 (m:Int),.int .i64 (i:Int),.int .i64 (w:Int),.int .i64 0]) (Dt b0 b1 sc pl (A7 D) b12 b13) (lv 108 [1,4,5,7,11,12,36,37,38,89,90] fun e vs H=>e=.exit 4∧wk [.int .i64 by_,.ptr (.rw 1) 0,.int .i64 0,.ptr (.rw 12) 0,.undef,.undef,.slice true (.rw 3) 0 m,.int .i64 (m:Int),.int .i64 (i:Int),.undef,.undef] vs∧H=Dt b0 b1 sc pl (A7 (updD D j (Bh (D j) a v w))) b12 b13):=by
 have e0:Dt b0 b1 sc pl (A7 D) b12 b13=Dt b0 b1 sc pl (A7 (updD D j (Bh (D j) a v 0))) b12 b13:=by rw [Bh,wU]
 rw [e0];refine X7 w (fun q=>[.int .i64 by_,.ptr (.rw 1) 0,.int .i64 0,.ptr (.rw 12) 0,.slice true (.rw (4+j)) a w,.int .u32 (v:Int),.slice true (.rw 3) 0 m,.int .i64 (m:Int),.int .i64 (i:Int),.int .i64 (w:Int),.int .i64 (q:Int)]) (fun q=>Dt b0 b1 sc pl (A7 (updD D j (Bh (D j) a v q))) b12 b13) fun q hq=>?_;generalize hE:updD D j (Bh (D j) a v q)=E
 refine D1 (C:=(⟨Try.prog,G,B⟩:A0)) (K:=Df Try.prog [(37,4,8)] [] [] [] 14) (by rw [show B5 (A2 Try.f13 2)=[] by kernel_rfl];exact Bm (K6 G B) (by kernel_rfl) .nil .nil) (fuel:=300) (n0:=20) (m:=14) (c:=A2 Try.f13 2) (vs:=[.int .i64 (.var 1 by_),.ptr (.rw 1) (.lit 0),.int .i64 (.lit 0),.ptr (.rw 12) (.lit 0),.slice true (.fm 4 8 (.var 11 j)) (.var 12 a) (.var 13 w),.int .u32 (.var 14 (v:Int)),.slice true (.rw 3) (.lit 0) (.var 4 m),.int .i64 (.ofN (.var 4 m)),.int .i64 (.ofN (.var 8 i)),.int .i64 (.ofN (.var 13 w)),.int .i64 (.ofN (.var 9 q))]) (H:=[some ⟨1,.var 31 b0⟩,some ⟨1,.var 32 b1⟩,some ⟨4,.var 21 sc⟩,some ⟨2,.var 7 pl⟩,some ⟨1,.row (.var 22 (A7 E)) (.lit 0)⟩,some ⟨1,.row (.var 22 (A7 E)) (.lit 1)⟩,some ⟨1,.row (.var 22 (A7 E)) (.lit 2)⟩,some ⟨1,.row (.var 22 (A7 E)) (.lit 3)⟩,some ⟨1,.row (.var 22 (A7 E)) (.lit 4)⟩,some ⟨1,.row (.var 22 (A7 E)) (.lit 5)⟩,some ⟨1,.row (.var 22 (A7 E)) (.lit 6)⟩,some ⟨1,.row (.var 22 (A7 E)) (.lit 7)⟩,some ⟨1,.var 33 b12⟩,some ⟨1,.var 34 b13⟩]) (zA1 _) ?_
 rw [mv_w];have hEj:E j=Bh (D j) a v q:=by rw [←hE];exact qJ
 refine ⟨fun h1=>?_,fun h1=>?_⟩
 ·have hqw:q<w:=by have:=yL h1;omega
  have e1:IntKind.wrap .i64 (8*(q:Int))=((8*q:Nat):Int):=by rw [B6 (by omega)];omega
  rw [Rm hj,e1,shr_by (by omega),bA9,xR hj,B6 (n:=(q:Int)+1) (by omega)];refine ⟨yM (by omega),yM (by omega),h1,B2.2 (by omega),aP,B2.2 (by rw [xS];omega),B2.2 (by rw [Ga,hEj,Wb];omega),hqw,.inl ⟨rfl,?_⟩⟩
  have e2:updD E j ((E j).set (q+a) (v / 256^q % 256))=updD D j (Bh (D j) a v (q+1)):=by
   rw [hEj,←hE,aD4,Bh,Nat.add_comm q a]
  rw [e2];rfl
 ·have:q=w:=by have:=yP h1;omega
  subst this;exact ⟨rfl,by simp [wk],by rw [hE];rfl⟩
def wdN (h:Bool):Nat:=if h then 2 else 4
theorem wR {h:Bool}:P4 h=(wdN h:Int):=by cases h<;>rfl
theorem wQ {h:Bool}:wdN h≤4∧1≤wdN h:=by cases h<;>decide
def Jc (n:Nat) (m:Nat) (s:Int):List AV:=[.int .i64 s,.slice true (.rw 2) 0 n,.slice true (.rw 3) 0 m]
theorem mv_o (G:Nat→List AV) (q0 q1 q2:List AV→Bool) (b0 b1 sc pl dl dl2:List AV) (n m i j a w v:Nat) (by_ s x:Int) (h:Bool) (Q:Ex→List AV→Hp→Prop) (R:AV→Hp→Prop):vT G Q R (G3 (Df Try.prog [(37,4,8),(40,0,0)] [] ((34,Ee 1820 q0 (.one (.ptr (.rw 2) (.mul (.var 11 j) 4)) []))::progIb) [D6 1821 q1 2 108 [1,4,5,7,9,11,12,36,37,38,62,63] (.one (.exit 2) [.int .i64 (.var 2 by_),.ptr (.rw 1) (.lit 0),.int .i64 (.lit 0),.ptr (.rw 12) (.lit 0),.ptr (.rw 13) (.lit 0),.slice true (.fm 4 8 (.var 11 j)) (.var 12 a) (.var 13 w),.int .u32 (.ofN (.var 14 v)),.slice true (.rw 3) (.lit 0) (.var 4 m),.int .i64 (.ofN (.var 4 m)),.int .i64 (.ofN (.var 8 i)),.undef,.undef] [some ⟨1,.var 31 b0⟩,some ⟨1,.var 32 b1⟩,some ⟨4,.var 21 sc⟩,some ⟨2,.var 7 pl⟩,some ⟨1,.row (.var 22 dl) (.lit 0)⟩,some ⟨1,.row (.var 22 dl) (.lit 1)⟩,some ⟨1,.row (.var 22 dl) (.lit 2)⟩,some ⟨1,.row (.var 22 dl) (.lit 3)⟩,some ⟨1,.row (.var 22 dl) (.lit 4)⟩,some ⟨1,.row (.var 22 dl) (.lit 5)⟩,some ⟨1,.row (.var 22 dl) (.lit 6)⟩,some ⟨1,.row (.var 22 dl) (.lit 7)⟩,some ⟨1,.of [.int .i64 (.var 1 s),.slice true (.rw 2) (.lit 0) (.var 3 n),.slice true (.rw 3) (.lit 0) (.var 4 m)]⟩,some ⟨1,.of [.int .i64 (.var 6 x),.bool (.var 9 h)]⟩]),D6 1822 q2 4 108 [1,4,5,7,11,12,36,37,38,89,90] (.one (.exit 4) [.int .i64 (.var 2 by_),.ptr (.rw 1) (.lit 0),.int .i64 (.lit 0),.ptr (.rw 12) (.lit 0),.undef,.undef,.slice true (.rw 3) (.lit 0) (.var 4 m),.int .i64 (.ofN (.var 4 m)),.int .i64 (.ofN (.var 8 i)),.undef,.undef] [some ⟨1,.var 31 b0⟩,some ⟨1,.var 32 b1⟩,some ⟨4,.var 21 sc⟩,some ⟨2,.var 7 pl⟩,some ⟨1,.row (.var 23 dl2) (.lit 0)⟩,some ⟨1,.row (.var 23 dl2) (.lit 1)⟩,some ⟨1,.row (.var 23 dl2) (.lit 2)⟩,some ⟨1,.row (.var 23 dl2) (.lit 3)⟩,some ⟨1,.row (.var 23 dl2) (.lit 4)⟩,some ⟨1,.row (.var 23 dl2) (.lit 5)⟩,some ⟨1,.row (.var 23 dl2) (.lit 6)⟩,some ⟨1,.row (.var 23 dl2) (.lit 7)⟩,some ⟨1,.of [.int .i64 (.var 1 s),.slice true (.rw 2) (.lit 0) (.var 3 n),.slice true (.rw 3) (.lit 0) (.var 4 m)]⟩,some ⟨1,.of [.int .i64 (.var 6 x),.bool (.var 9 h)]⟩])] 14) 500 20 13 (A2 Try.f13 0) 108 [1,4,5,7,36,37,38] [.int .i64 (.var 2 by_),.ptr (.rw 1) (.lit 0),.int .i64 (.lit 0),.ptr (.rw 12) (.lit 0),.slice true (.rw 3) (.lit 0) (.var 4 m),.int .i64 (.ofN (.var 4 m)),.int .i64 (.ofN (.var 8 i))] [some ⟨1,.var 31 b0⟩,some ⟨1,.var 32 b1⟩,some ⟨4,.var 21 sc⟩,some ⟨2,.var 7 pl⟩,some ⟨1,.row (.var 22 dl) (.lit 0)⟩,some ⟨1,.row (.var 22 dl) (.lit 1)⟩,some ⟨1,.row (.var 22 dl) (.lit 2)⟩,some ⟨1,.row (.var 22 dl) (.lit 3)⟩,some ⟨1,.row (.var 22 dl) (.lit 4)⟩,some ⟨1,.row (.var 22 dl) (.lit 5)⟩,some ⟨1,.row (.var 22 dl) (.lit 6)⟩,some ⟨1,.row (.var 22 dl) (.lit 7)⟩,some ⟨1,.of [.int .i64 (.var 1 s),.slice true (.rw 2) (.lit 0) (.var 3 n),.slice true (.rw 3) (.lit 0) (.var 4 m)]⟩])=(
  (decide (((i:Int):Int)<(m:Int))=true→decide ((0:Int)≤(i:Int))=true∧decide (((i:Int):Int)<(m:Int))=true∧isI .i64 pl (i*2)=true∧isB pl (i*2+1)=true∧q0 [.agg ([.slice true (.rw 2) 0 n,.agg ([.int .i64 (A1 pl (i*2)),.bool (E1 pl (i*2+1))]:List AV)]:List AV),.agg ([.tup [.int .i64 1,.agg b0],.tup [.int .i64 1,.agg b1],.tup [.int .i64 4,.agg sc],.tup [.int .i64 2,.agg pl],.tup [.int .i64 1,.agg (A4 dl 0)],.tup [.int .i64 1,.agg (A4 dl 1)],.tup [.int .i64 1,.agg (A4 dl 2)],.tup [.int .i64 1,.agg (A4 dl 3)],.tup [.int .i64 1,.agg (A4 dl 4)],.tup [.int .i64 1,.agg (A4 dl 5)],.tup [.int .i64 1,.agg (A4 dl 6)],.tup [.int .i64 1,.agg (A4 dl 7)],.tup [.int .i64 1,.agg (Jc n m s)],.tup [.int .i64 1,.agg ([.int .i64 (A1 pl (i*2)),.bool (E1 pl (i*2+1))]:List AV)]]:List AV)]=true∧Zg 4 8 sc (j*4+2)=true∧isI .i64 sc (j*4)=true∧decide ((0:Int)≤IntKind.wrap .i64 (A1 pl (i*2) - A1 sc (j*4)))=true∧decide ((IntKind.wrap .i64 (A1 pl (i*2) - A1 sc (j*4)):Int)≤((Tf sc (j*4+2):Nat):Int))=true∧decide ((((Tf sc (j*4+2):Nat):Int):Int)≤((Tf sc (j*4+2):Nat):Int))=true∧decide ((0:Int)≤Gc [.bool (E1 pl (i*2+1))])=true∧decide ((Gc [.bool (E1 pl (i*2+1))]:Int)≤(((Tf sc (j*4+2)) - (Int.toNat (IntKind.wrap .i64 (A1 pl (i*2) - A1 sc (j*4)))):Nat):Int))=true∧
 q1 [.agg ([.int .i64 by_,.ptr (.rw 1) 0,.int .i64 0,.ptr (.rw 12) 0,.ptr (.rw 13) 0,.slice true (.rw (4+(Tg 4 sc (j*4+2)))) (Int.toNat (IntKind.wrap .i64 (A1 pl (i*2) - A1 sc (j*4)))+Ye sc (j*4+2)) (Int.toNat (Gc [.bool (E1 pl (i*2+1))])),.int .u32 0,.slice true (.rw 3) 0 m,.int .i64 ((m:Int)),.int .i64 ((i:Int)),.int .i64 (((Int.toNat (Gc [.bool (E1 pl (i*2+1))]):Nat):Int)),.int .i64 0]:List AV),.agg ([.tup [.int .i64 1,.agg b0],.tup [.int .i64 1,.agg b1],.tup [.int .i64 4,.agg sc],.tup [.int .i64 2,.agg pl],.tup [.int .i64 1,.agg (A4 dl 0)],.tup [.int .i64 1,.agg (A4 dl 1)],.tup [.int .i64 1,.agg (A4 dl 2)],.tup [.int .i64 1,.agg (A4 dl 3)],.tup [.int .i64 1,.agg (A4 dl 4)],.tup [.int .i64 1,.agg (A4 dl 5)],.tup [.int .i64 1,.agg (A4 dl 6)],.tup [.int .i64 1,.agg (A4 dl 7)],.tup [.int .i64 1,.agg (Jc n m s)],.tup [.int .i64 1,.agg ([.int .i64 (A1 pl (i*2)),.bool (E1 pl (i*2+1))]:List AV)]]:List AV)]=true∧(h=true→(decide ((IntKind.wrap .u32 ((v:Int)+IntKind.wrap .u32 by_):Int)>65535)=true→leB 3 (List.length b1)=true∧Q .ret [.int .i64 by_,.ptr (.rw 1) 0,.int .i64 2,.ptr (.rw 12) 0,.slice true (.rw 3) 0 m,.int .i64 ((m:Int)),.int .i64 ((i:Int))] [some ⟨1,b0⟩,some ⟨1,(E2 b1 0 (.agg ([.int .i64 0,.nils,.nils]:List AV)))⟩,some ⟨4,sc⟩,some ⟨2,pl⟩,some ⟨1,(A4 dl 0)⟩,some ⟨1,(A4 dl 1)⟩,some ⟨1,(A4 dl 2)⟩,some ⟨1,(A4 dl 3)⟩,some ⟨1,(A4 dl 4)⟩,some ⟨1,(A4 dl 5)⟩,some ⟨1,(A4 dl 6)⟩,some ⟨1,(A4 dl 7)⟩,some ⟨1,(Jc n m s)⟩,some ⟨1,([.int .i64 x,.bool h]:List AV)⟩])∧(decide ((IntKind.wrap .u32 ((v:Int)+IntKind.wrap .u32 by_):Int)>65535)=false→
 q2 [.agg ([.int .i64 by_,.ptr (.rw 1) 0,.int .i64 0,.ptr (.rw 12) 0,.slice true (.rw (4+j)) a w,.int .u32 (IntKind.wrap .u32 ((v:Int)+IntKind.wrap .u32 by_)),.slice true (.rw 3) 0 m,.int .i64 ((m:Int)),.int .i64 ((i:Int)),.int .i64 ((w:Int)),.int .i64 0]:List AV),.agg ([.tup [.int .i64 1,.agg b0],.tup [.int .i64 1,.agg b1],.tup [.int .i64 4,.agg sc],.tup [.int .i64 2,.agg pl],.tup [.int .i64 1,.agg (A4 dl 0)],.tup [.int .i64 1,.agg (A4 dl 1)],.tup [.int .i64 1,.agg (A4 dl 2)],.tup [.int .i64 1,.agg (A4 dl 3)],.tup [.int .i64 1,.agg (A4 dl 4)],.tup [.int .i64 1,.agg (A4 dl 5)],.tup [.int .i64 1,.agg (A4 dl 6)],.tup [.int .i64 1,.agg (A4 dl 7)],.tup [.int .i64 1,.agg (Jc n m s)],.tup [.int .i64 1,.agg ([.int .i64 x,.bool h]:List AV)]]:List AV)]=true∧Q .normal [.int .i64 by_,.ptr (.rw 1) 0,.int .i64 0,.ptr (.rw 12) 0,.slice true (.rw 3) 0 m,.int .i64 ((m:Int)),.int .i64 (IntKind.wrap .i64 ((i:Int)+1))] [some ⟨1,b0⟩,some ⟨1,b1⟩,some ⟨4,sc⟩,some ⟨2,pl⟩,some ⟨1,(A4 dl2 0)⟩,some ⟨1,(A4 dl2 1)⟩,some ⟨1,(A4 dl2 2)⟩,some ⟨1,(A4 dl2 3)⟩,some ⟨1,(A4 dl2 4)⟩,some ⟨1,(A4 dl2 5)⟩,some ⟨1,(A4 dl2 6)⟩,some ⟨1,(A4 dl2 7)⟩,some ⟨1,(Jc n m s)⟩,some ⟨1,([.int .i64 x,.bool h]:List AV)⟩]))∧(h=false→
 q2 [.agg ([.int .i64 by_,.ptr (.rw 1) 0,.int .i64 0,.ptr (.rw 12) 0,.slice true (.rw (4+j)) a w,.int .u32 (IntKind.wrap .u32 ((v:Int)+IntKind.wrap .u32 by_)),.slice true (.rw 3) 0 m,.int .i64 ((m:Int)),.int .i64 ((i:Int)),.int .i64 ((w:Int)),.int .i64 0]:List AV),.agg ([.tup [.int .i64 1,.agg b0],.tup [.int .i64 1,.agg b1],.tup [.int .i64 4,.agg sc],.tup [.int .i64 2,.agg pl],.tup [.int .i64 1,.agg (A4 dl 0)],.tup [.int .i64 1,.agg (A4 dl 1)],.tup [.int .i64 1,.agg (A4 dl 2)],.tup [.int .i64 1,.agg (A4 dl 3)],.tup [.int .i64 1,.agg (A4 dl 4)],.tup [.int .i64 1,.agg (A4 dl 5)],.tup [.int .i64 1,.agg (A4 dl 6)],.tup [.int .i64 1,.agg (A4 dl 7)],.tup [.int .i64 1,.agg (Jc n m s)],.tup [.int .i64 1,.agg ([.int .i64 x,.bool h]:List AV)]]:List AV)]=true∧Q .normal [.int .i64 by_,.ptr (.rw 1) 0,.int .i64 0,.ptr (.rw 12) 0,.slice true (.rw 3) 0 m,.int .i64 ((m:Int)),.int .i64 (IntKind.wrap .i64 ((i:Int)+1))] [some ⟨1,b0⟩,some ⟨1,b1⟩,some ⟨4,sc⟩,some ⟨2,pl⟩,some ⟨1,(A4 dl2 0)⟩,some ⟨1,(A4 dl2 1)⟩,some ⟨1,(A4 dl2 2)⟩,some ⟨1,(A4 dl2 3)⟩,some ⟨1,(A4 dl2 4)⟩,some ⟨1,(A4 dl2 5)⟩,some ⟨1,(A4 dl2 6)⟩,some ⟨1,(A4 dl2 7)⟩,some ⟨1,(Jc n m s)⟩,some ⟨1,([.int .i64 x,.bool h]:List AV)⟩]))∧(decide (((i:Int):Int)<(m:Int))=false→
 Q (.exit 0) [.int .i64 by_,.ptr (.rw 1) 0,.int .i64 0,.ptr (.rw 12) 0,.slice true (.rw 3) 0 m,.int .i64 ((m:Int)),.int .i64 ((i:Int))] [some ⟨1,b0⟩,some ⟨1,b1⟩,some ⟨4,sc⟩,some ⟨2,pl⟩,some ⟨1,(A4 dl 0)⟩,some ⟨1,(A4 dl 1)⟩,some ⟨1,(A4 dl 2)⟩,some ⟨1,(A4 dl 3)⟩,some ⟨1,(A4 dl 4)⟩,some ⟨1,(A4 dl 5)⟩,some ⟨1,(A4 dl 6)⟩,some ⟨1,(A4 dl 7)⟩,some ⟨1,(Jc n m s)⟩])):=by kernel_rfl
structure pH (cs:List AV) (n:Nat) (x:Int) (h:Bool):Prop where
 lt:C9 cs n x h<n
 lo:0≤sA cs (C9 cs n x h)
 le:sA cs (C9 cs n x h)≤x
 hi:x≤8192
 fit:x - sA cs (C9 cs n x h)+P4 h≤(sN cs (C9 cs n x h):Int)
 small:sN cs (C9 cs n x h)≤8192
def Bx (cs:List AV) (n:Nat) (x:Int) (h:Bool):Nat:=(x - sA cs (C9 cs n x h)).toNat
def Jx (D:Nat→List Nat) (cs:List AV) (n z:Nat) (x:Int) (h:Bool):Nat:=(leN (D (C9 cs n x h)) (Bx cs n x h) (wdN h)+z) % 4294967296
def iM (D:Nat→List Nat) (cs:List AV) (n z:Nat) (x:Int) (h:Bool):Nat→List Nat:=updD D (C9 cs n x h) (Bh (D (C9 cs n x h)) (Bx cs n x h) (Jx D cs n z x h) (wdN h))
def Ru (D:Nat→List Nat) (cs:List AV) (n z:Nat) (x:Int) (h:Bool):Bool:=h&&decide (65535<Jx D cs n z x h)
def J7 (D:Nat→List Nat) (cs:List AV) (n z:Nat) (ps:List AV):Nat→Nat→List Nat
 | 0=>D
 | i+1=>iM (J7 D cs n z ps i) cs n z (xP ps i) (hP ps i)
def Ie (D:Nat→List Nat) (cs:List AV) (n z:Nat) (ps:List AV) (i:Nat):Bool:=Ru (J7 D cs n z ps i) cs n z (xP ps i) (hP ps i)
def I4 (D:Nat→List Nat) (cs:List AV) (n z:Nat) (ps:List AV) (m:Nat):Nat:=M4 (Ie D cs n z ps) m
theorem aX3 {D:Nat→List Nat} {cs:List AV} {n z:Nat} {x:Int} {h:Bool} (j:Nat):(iM D cs n z x h j).length=(D j).length:=by
 unfold iM updD;split
 ·rename_i e;rw [Wb,e]
 ·rfl
theorem mvW_ok {D:Nat→List Nat} {cs:List AV} {n z:Nat} {x:Int} {h:Bool} (hb:∀ j,Ao (D j)) (j:Nat):Ao (iM D cs n z x h j):=by
 unfold iM updD;split
 ·exact wN (hb _) _
 ·exact hb j
theorem mvD_len {D:Nat→List Nat} {cs:List AV} {n z:Nat} {ps:List AV} (j:Nat):∀ i,(J7 D cs n z ps i j).length=(D j).length
 | 0=>rfl
 | i+1=>by rw [J7,aX3,mvD_len j i]
theorem Ux {D:Nat→List Nat} {cs:List AV} {n z:Nat} {ps:List AV} (hb:∀ j,Ao (D j)):∀ i j,Ao (J7 D cs n z ps i j)
 | 0,j=>hb j
 | i+1,j=>mvW_ok (Ux hb i) j
def Hz (b0 b1 sc pl dl b12:List AV):Hp:=[some ⟨1,b0⟩,some ⟨1,b1⟩,some ⟨4,sc⟩,some ⟨2,pl⟩]++(Ax dl++[some ⟨1,b12⟩])
theorem zL {b0 b1 sc pl dl b12 b13:List AV}:Dt b0 b1 sc pl dl b12 b13=Hz b0 b1 sc pl dl b12++[some ⟨1,b13⟩]:=by
 unfold Dt Hz;rw [List.append_assoc,List.append_assoc];rfl
theorem Zk {b0 b1 sc pl dl b12:List AV}:(Hz b0 b1 sc pl dl b12).length=13:=by simp [Hz,Ar]
theorem Ly {N k:Nat} {D:Nat→List Nat} (h:k<8):A3 N (A4 (A7 D) k)=true:=by rw [Rm h];exact Zw
theorem nT {N:Nat} {b0 b1 cs pl:List AV} {D:Nat→List Nat} {n m:Nat} {s:Int} (hN:13≤N) (h8:n≤8) (h0:A3 0 b0=true) (h1:A3 0 b1=true) (hp:A3 0 pl=true):H9 N (Hz b0 b1 (D2 cs n (dW 4 cs)) pl (A7 D) [.int .i64 s,.slice true (.rw 2) 0 n,.slice true (.rw 3) 0 m])=true:=by
 have hs:A3 N (D2 cs n (dW 4 cs))=true:=Pq fun j hj=>by
  show decide (4+j<N)=true;exact yM (by omega)
 have ht:A3 N [.int .i64 s,.slice true (.rw 2) 0 n,.slice true (.rw 3) 0 m]=true:=by
  show (true&&(decide (2<N)&&(decide (3<N)&&true)))=true;rw [yM (by omega:2<N),yM (by omega:3<N)];rfl
 show (A3 N b0&&(A3 N b1&&(A3 N (D2 cs n (dW 4 cs))&&(A3 N pl&&(A3 N (A4 (A7 D) 0)&&(A3 N (A4 (A7 D) 1)&&(A3 N (A4 (A7 D) 2)&&(A3 N (A4 (A7 D) 3)&&(A3 N (A4 (A7 D) 4)&&(A3 N (A4 (A7 D) 5)&&(A3 N (A4 (A7 D) 6)&&(A3 N (A4 (A7 D) 7)&&(A3 N [.int .i64 s,.slice true (.rw 2) 0 n,.slice true (.rw 3) 0 m]&&true)))))))))))))=true
 rw [hs,ht,G6 (zA2 _) _ h0,G6 (zA2 _) _ h1,G6 (zA2 _) _ hp,Ly (by omega),Ly (by omega),Ly (by omega),Ly (by omega),Ly (by omega),Ly (by omega),Ly (by omega),Ly (by omega)];rfl
theorem Zj {N:Nat} {b:Blk} (hb:A3 N b.cells=true):∀ {H:Hp},H9 N H=true→H9 N (H++[some b])=true
 | [],_=>by
  show (A3 N b.cells&&true)=true;rw [hb];rfl
 | none::H,h=>Zj (H:=H) hb h
 | some c::H,h=>by
  have h:(A3 N c.cells&&H9 N H)=true:=h;rw [zN] at h;show (A3 N c.cells&&H9 N (H++[some b]))=true;rw [h.1,Zj hb h.2];rfl
theorem xC {cs:List AV} {n z:Nat} {x:Int} {h:Bool} {D:Nat→List Nat} (hs:pH cs n x h) (hz:z≤8192):IntKind.wrap .i64 (x - sA cs (C9 cs n x h))=((Bx cs n x h):Int)∧(Bx cs n x h)+(wdN h)≤sN cs (C9 cs n x h)∧IntKind.wrap .u32 (((leN (D (C9 cs n x h)) (Bx cs n x h) (wdN h)):Int)+IntKind.wrap .u32 (z:Int))=((Jx D cs n z x h):Int)∧(Jx D cs n z x h)≤4294967295:=by
 obtain ⟨s1,s2,s3,s4,s5,s6⟩:=hs;rw [wR] at s5;have ea:((Bx cs n x h):Int)=x - sA cs (C9 cs n x h):=by unfold Bx;omega
 refine ⟨?_,by omega,?_,?_⟩
 ·rw [B6 (by omega),ea]
 ·rw [aE (n:=(z:Int)) (by omega),lE];unfold Jx;omega
 ·unfold Jx;omega
theorem aX1 (G:Nat→List AV) (B:Nat) (b0 cs pl:List AV) (D:Nat→List Nat) (n m z i:Nat) (s x:Int) (h:Bool) (hz:z≤8192) (h8:n≤8) (hb:∀ j,Ao (D j)) (hl:∀ j,j<n→(D j).length=sN cs j) (h0:A3 0 b0=true) (hpl:A3 0 pl=true) (hs:pH cs n x h):L6 (⟨Try.prog,G,B⟩:A0) (Df Try.prog [(37,4,8),(40,0,0)] [] ((34,Ee 1820 (D9 [.slice true (.rw 2) 0 n,.agg [.int .i64 x,.bool h]] (Dt b0 [.int .i64 0,.nils,.nils] (D2 cs n (dW 4 cs)) pl (A7 D) [.int .i64 s,.slice true (.rw 2) 0 n,.slice true (.rw 3) 0 m] [.int .i64 x,.bool h])) (.one (.ptr (.rw 2) (.mul (.var 11 (C9 cs n x h)) 4)) []))::progIb) [D6 1821 (D9 [.int .i64 (z:Int),.ptr (.rw 1) 0,.int .i64 0,.ptr (.rw 12) 0,.ptr (.rw 13) 0,.slice true (.rw (4+(C9 cs n x h))) (Bx cs n x h) (wdN h),.int .u32 0,.slice true (.rw 3) 0 m,.int .i64 (m:Int),.int .i64 (i:Int),.int .i64 ((wdN h):Int),.int .i64 0] (Dt b0 [.int .i64 0,.nils,.nils] (D2 cs n (dW 4 cs)) pl (A7 D) [.int .i64 s,.slice true (.rw 2) 0 n,.slice true (.rw 3) 0 m] [.int .i64 x,.bool h])) 2 108 [1,4,5,7,9,11,12,36,37,38,62,63] (.one (.exit 2) [.int .i64 (.var 2 (z:Int)),.ptr (.rw 1) (.lit 0),.int .i64 (.lit 0),.ptr (.rw 12) (.lit 0),.ptr (.rw 13) (.lit 0),.slice true (.fm 4 8 (.var 11 (C9 cs n x h))) (.var 12 (Bx cs n x h)) (.var 13 (wdN h)),.int .u32 (.ofN (.var 14 (leN (D (C9 cs n x h)) (Bx cs n x h) (wdN h)))),.slice true (.rw 3) (.lit 0) (.var 4 m),.int .i64 (.ofN (.var 4 m)),.int .i64 (.ofN (.var 8 i)),.undef,.undef] [some ⟨1,.var 31 b0⟩,some ⟨1,.var 32 [.int .i64 0,.nils,.nils]⟩,some ⟨4,.var 21 (D2 cs n (dW 4 cs))⟩,some ⟨2,.var 7 pl⟩,some ⟨1,.row (.var 22 (A7 D)) (.lit 0)⟩,some ⟨1,.row (.var 22 (A7 D)) (.lit 1)⟩,some ⟨1,.row (.var 22 (A7 D)) (.lit 2)⟩,some ⟨1,.row (.var 22 (A7 D)) (.lit 3)⟩,some ⟨1,.row (.var 22 (A7 D)) (.lit 4)⟩,some ⟨1,.row (.var 22 (A7 D)) (.lit 5)⟩,some ⟨1,.row (.var 22 (A7 D)) (.lit 6)⟩,some ⟨1,.row (.var 22 (A7 D)) (.lit 7)⟩,some ⟨1,.of [.int .i64 (.var 1 s),.slice true (.rw 2) (.lit 0) (.var 3 n),.slice true (.rw 3) (.lit 0) (.var 4 m)]⟩,some ⟨1,.of [.int .i64 (.var 6 x),.bool (.var 9 h)]⟩]),D6 1822 (D9 [.int .i64 (z:Int),.ptr (.rw 1) 0,.int .i64 0,.ptr (.rw 12) 0,.slice true (.rw (4+(C9 cs n x h))) (Bx cs n x h) (wdN h),.int .u32 ((Jx D cs n z x h):Int),.slice true (.rw 3) 0 m,.int .i64 (m:Int),.int .i64 (i:Int),.int .i64 ((wdN h):Int),.int .i64 0] (Dt b0 [.int .i64 0,.nils,.nils] (D2 cs n (dW 4 cs)) pl (A7 D) [.int .i64 s,.slice true (.rw 2) 0 n,.slice true (.rw 3) 0 m] [.int .i64 x,.bool h])) 4 108 [1,4,5,7,11,12,36,37,38,89,90] (.one (.exit 4) [.int .i64 (.var 2 (z:Int)),.ptr (.rw 1) (.lit 0),.int .i64 (.lit 0),.ptr (.rw 12) (.lit 0),.undef,.undef,.slice true (.rw 3) (.lit 0) (.var 4 m),.int .i64 (.ofN (.var 4 m)),.int .i64 (.ofN (.var 8 i)),.undef,.undef] [some ⟨1,.var 31 b0⟩,some ⟨1,.var 32 [.int .i64 0,.nils,.nils]⟩,some ⟨4,.var 21 (D2 cs n (dW 4 cs))⟩,some ⟨2,.var 7 pl⟩,some ⟨1,.row (.var 23 (A7 (updD D (C9 cs n x h) (Bh (D (C9 cs n x h)) (Bx cs n x h) (Jx D cs n z x h) (wdN h))))) (.lit 0)⟩,some ⟨1,.row (.var 23 (A7 (updD D (C9 cs n x h) (Bh (D (C9 cs n x h)) (Bx cs n x h) (Jx D cs n z x h) (wdN h))))) (.lit 1)⟩,some ⟨1,.row (.var 23 (A7 (updD D (C9 cs n x h) (Bh (D (C9 cs n x h)) (Bx cs n x h) (Jx D cs n z x h) (wdN h))))) (.lit 2)⟩,some ⟨1,.row (.var 23 (A7 (updD D (C9 cs n x h) (Bh (D (C9 cs n x h)) (Bx cs n x h) (Jx D cs n z x h) (wdN h))))) (.lit 3)⟩,some ⟨1,.row (.var 23 (A7 (updD D (C9 cs n x h) (Bh (D (C9 cs n x h)) (Bx cs n x h) (Jx D cs n z x h) (wdN h))))) (.lit 4)⟩,some ⟨1,.row (.var 23 (A7 (updD D (C9 cs n x h) (Bh (D (C9 cs n x h)) (Bx cs n x h) (Jx D cs n z x h) (wdN h))))) (.lit 5)⟩,some ⟨1,.row (.var 23 (A7 (updD D (C9 cs n x h) (Bh (D (C9 cs n x h)) (Bx cs n x h) (Jx D cs n z x h) (wdN h))))) (.lit 6)⟩,some ⟨1,.row (.var 23 (A7 (updD D (C9 cs n x h) (Bh (D (C9 cs n x h)) (Bx cs n x h) (Jx D cs n z x h) (wdN h))))) (.lit 7)⟩,some ⟨1,.of [.int .i64 (.var 1 s),.slice true (.rw 2) (.lit 0) (.var 3 n),.slice true (.rw 3) (.lit 0) (.var 4 m)]⟩,some ⟨1,.of [.int .i64 (.var 6 x),.bool (.var 9 h)]⟩])] 14) (B5 (A2 Try.f13 0)):=by
 rw [show B5 (A2 Try.f13 0)=[A2 Try.f13 1,A2 Try.f13 2] by kernel_rfl];obtain ⟨v1,v2,v3,v4⟩:=xC (z:=z) (D:=D) hs hz;have lt:=hs.lt
 have hb14:H9 14 (Dt b0 [.int .i64 0,.nils,.nils] (D2 cs n (dW 4 cs)) pl (A7 D) [.int .i64 s,.slice true (.rw 2) 0 n,.slice true (.rw 3) 0 m] [.int .i64 x,.bool h])=true:=by
  rw [zL];exact Zj rfl (nT (by omega) h8 h0 rfl hpl)
 have c34:ACalls (⟨Try.prog,G,B⟩:A0) 34 [.slice true (.rw 2) 0 n,.agg [.int .i64 x,.bool h]] (Dt b0 [.int .i64 0,.nils,.nils] (D2 cs n (dW 4 cs)) pl (A7 D) [.int .i64 s,.slice true (.rw 2) 0 n,.slice true (.rw 3) 0 m] [.int .i64 x,.bool h]) (Ju G (Dt b0 [.int .i64 0,.nils,.nils] (D2 cs n (dW 4 cs)) pl (A7 D) [.int .i64 s,.slice true (.rw 2) 0 n,.slice true (.rw 3) 0 m] [.int .i64 x,.bool h]) (.one (.ptr (.rw 2) (.mul (.var 11 (C9 cs n x h)) 4)) [])):=by
  refine (bA0 G B b0 [.int .i64 0,.nils,.nils] pl (A7 D) [.int .i64 s,.slice true (.rw 2) 0 n,.slice true (.rw 3) 0 m] [.int .i64 x,.bool h] cs n x h h8 hb14).monoK fun v H' hv=>?_;rw [if_pos lt] at hv;exact hv
 refine Bm (K6 G B) (by kernel_rfl) (.cons (Lw rfl c34) (Y3 G B)) (.cons (i:=2) (by kernel_rfl) rfl (P1 rfl ?_) (.cons (i:=4) (by kernel_rfl) rfl (P1 rfl ?_) .nil))
 ·refine (mv_rd G B b0 [.int .i64 0,.nils,.nils] (D2 cs n (dW 4 cs)) pl [.int .i64 s,.slice true (.rw 2) 0 n,.slice true (.rw 3) 0 m] [.int .i64 x,.bool h] D (C9 cs n x h) (Bx cs n x h) (wdN h) m i (z:Int) (by omega) wQ.1 (hb _) (by rw [hl _ lt];exact v2)).lmono ?_;rintro e vs H ⟨rfl,q,rfl⟩;exact ⟨rfl,.inl ⟨q,rfl⟩⟩
 ·refine (mv_wr G B b0 [.int .i64 0,.nils,.nils] (D2 cs n (dW 4 cs)) pl [.int .i64 s,.slice true (.rw 2) 0 n,.slice true (.rw 3) 0 m] [.int .i64 x,.bool h] D (C9 cs n x h) (Bx cs n x h) (wdN h) m i (Jx D cs n z x h) (z:Int) (by omega) wQ.1 (by rw [hl _ lt];exact v2)).lmono ?_;rintro e vs H ⟨rfl,q,rfl⟩;exact ⟨rfl,.inl ⟨q,rfl⟩⟩
theorem Xx {C:A0} {M:Nat} {c:Code} {j ex N:Nat} {live:List Nat} {o:LOut}:H5 C M c (D6 j (fun _=>false) ex N live o):=by
 intro m vs H o' hm ho n Q hQ;simp only [D6,zK] at ho;subst ho;exact absurd hQ.1 (by simp [vB])
theorem Ua {C:A0} {f j:Nat} {o:Outs}:D4 C f (Ee j (fun _=>false) o):=by
 intro args H o' ho;simp only [Ee,zK] at ho;subst ho;intro h;exact absurd h (by simp [vB])
theorem mv_lp (G:Nat→List AV) (B:Nat) (b0 cs pl:List AV) (D:Nat→List Nat) (n m z:Nat) (s:Int) (hm:m≤1000) (hz:z≤8192) (h8:n≤8) (hb:∀ j,Ao (D j)) (hl:∀ j,j<n→(D j).length=sN cs j) (h0:A3 0 b0=true) (hpl:A3 0 pl=true) (hsc:I6 cs n=true) (hp:∀ i,i<m→isI .i64 pl (i*2)=true∧isB pl (i*2+1)=true∧pH cs n (xP pl i) (hP pl i)):AWp (⟨Try.prog,G,B⟩:A0) 13 (.loop (A2 Try.f13 0)) (fl 108 [1,4,5,7,36,37,38] [.int .i64 (z:Int),.ptr (.rw 1) 0,.int .i64 0,.ptr (.rw 12) 0,.slice true (.rw 3) 0 m,.int .i64 (m:Int),.int .i64 0]) (Hz b0 [.int .i64 0,.nils,.nils] (D2 cs n (dW 4 cs)) pl (A7 D) [.int .i64 s,.slice true (.rw 2) 0 n,.slice true (.rw 3) 0 m]) (lv 108 [1,4,5,7,36,37,38] fun e vs H=>((I4 D cs n z pl m)<m∧e=.ret∧wk [.undef,.ptr (.rw 1) 0,.int .i64 2,.undef,.undef,.undef,.undef] vs∧∃ Y,H=[some ⟨1,b0⟩,some ⟨1,[.int .i64 0,.nils,.nils]⟩]++Y)∨((I4 D cs n z pl m)=m∧e=.exit 0∧wk [.int .i64 (z:Int),.ptr (.rw 1) 0,.int .i64 0,.ptr (.rw 12) 0,.undef,.undef,.undef] vs∧H=Hz b0 [.int .i64 0,.nils,.nils] (D2 cs n (dW 4 cs)) pl (A7 (J7 D cs n z pl m)) [.int .i64 s,.slice true (.rw 2) 0 n,.slice true (.rw 3) 0 m])):=by
 have hle:(I4 D cs n z pl m)≤m:=K5.1;refine X7 (I4 D cs n z pl m) (fun i=>[.int .i64 (z:Int),.ptr (.rw 1) 0,.int .i64 0,.ptr (.rw 12) 0,.slice true (.rw 3) 0 m,.int .i64 (m:Int),.int .i64 (i:Int)]) (fun i=>Hz b0 [.int .i64 0,.nils,.nils] (D2 cs n (dW 4 cs)) pl (A7 (J7 D cs n z pl i)) [.int .i64 s,.slice true (.rw 2) 0 n,.slice true (.rw 3) 0 m]) fun i hi=>?_;by_cases hin:i<m
 ·obtain ⟨p1,p2,hs⟩:=hp i hin;have hbad:Ie D cs n z pl i=decide (i=(I4 D cs n z pl m)):=Ji (p:=Ie D cs n z pl) hi hin;have nxt:J7 D cs n z pl (i+1)=iM (J7 D cs n z pl i) cs n z (xP pl i) (hP pl i):=rfl;rw [nxt];have hbE:∀ j,Ao (J7 D cs n z pl i j):=Ux hb i;have hlE:∀ j,j<n→(J7 D cs n z pl i j).length=sN cs j:=fun j hj=>by rw [mvD_len,hl j hj]
  simp only [Ie] at hbad;generalize J7 D cs n z pl i=E at *;have good:=aX1 G B b0 cs pl E n m z i s (xP pl i) (hP pl i) hz h8 hbE hlE h0 hpl hs
  refine D1 (C:=(⟨Try.prog,G,B⟩:A0)) good (fuel:=500) (n0:=20) (m:=13) (c:=A2 Try.f13 0) (vs:=[.int .i64 (.var 2 (z:Int)),.ptr (.rw 1) (.lit 0),.int .i64 (.lit 0),.ptr (.rw 12) (.lit 0),.slice true (.rw 3) (.lit 0) (.var 4 m),.int .i64 (.ofN (.var 4 m)),.int .i64 (.ofN (.var 8 i))]) (H:=[some ⟨1,.var 31 b0⟩,some ⟨1,.var 32 [.int .i64 0,.nils,.nils]⟩,some ⟨4,.var 21 (D2 cs n (dW 4 cs))⟩,some ⟨2,.var 7 pl⟩,some ⟨1,.row (.var 22 (A7 E)) (.lit 0)⟩,some ⟨1,.row (.var 22 (A7 E)) (.lit 1)⟩,some ⟨1,.row (.var 22 (A7 E)) (.lit 2)⟩,some ⟨1,.row (.var 22 (A7 E)) (.lit 3)⟩,some ⟨1,.row (.var 22 (A7 E)) (.lit 4)⟩,some ⟨1,.row (.var 22 (A7 E)) (.lit 5)⟩,some ⟨1,.row (.var 22 (A7 E)) (.lit 6)⟩,some ⟨1,.row (.var 22 (A7 E)) (.lit 7)⟩,some ⟨1,.of [.int .i64 (.var 1 s),.slice true (.rw 2) (.lit 0) (.var 3 n),.slice true (.rw 3) (.lit 0) (.var 4 m)]⟩]) (zA1 _) ?_
  rw [mv_o];obtain ⟨v1,v2,v3,v4⟩:=xC (z:=z) (D:=E) hs hz;have ex:A1 pl (i*2)=xP pl i:=rfl;have eh:E1 pl (i*2+1)=hP pl i:=rfl;rw [ex,eh];generalize xP pl i=x at *;generalize hP pl i=h at *;have lt:=hs.lt;have hat:(D2 cs n (dW 4 cs))[(C9 cs n x h)*4+2]?=some (.slice true (.rw (4+(C9 cs n x h))) 0 (sN cs (C9 cs n x h))):=dO lt;obtain ⟨f1,f2,f3⟩:=fn_at hat;obtain ⟨t1,t2⟩:=scT_A (cs:=cs) (d:=dW 4 cs) lt;have ew:Gc [.bool h]=((wdN h):Int):=by rw [wdU_eq];exact wR
  have i0:∀ k:Nat,Int.toNat (k:Int)=k:=F9;rw [f1,f2,f3,t2,v1,v3,ew,i0,i0,Nat.add_zero (Bx cs n x h),B6 (n:=(i:Int)+1) (by omega)]
  have vw:C2 13 [.int .i64 (z:Int),.ptr (.rw 1) 0,.int .i64 0,.ptr (.rw 12) 0,.slice true (.rw 3) 0 m,.int .i64 (m:Int),.int .i64 ((i+1:Nat):Int)] (Hz b0 [.int .i64 0,.nils,.nils] (D2 cs n (dW 4 cs)) pl (A7 (iM E cs n z x h)) [.int .i64 s,.slice true (.rw 2) 0 n,.slice true (.rw 3) 0 m]) [.int .i64 (z:Int),.ptr (.rw 1) 0,.int .i64 0,.ptr (.rw 12) 0,.slice true (.rw 3) 0 m,.int .i64 (m:Int),.int .i64 ((i+1:Nat):Int)] (Hz b0 [.int .i64 0,.nils,.nils] (D2 cs n (dW 4 cs)) pl (A7 (iM E cs n z x h)) [.int .i64 s,.slice true (.rw 2) 0 n,.slice true (.rw 3) 0 m]++[some ⟨1,[.int .i64 x,.bool h]⟩]):=C2.same (by rw [Zk];exact zA1 _) (nT (by rw [Zk];exact zA1 _) h8 h0 rfl hpl) (by
   rw [Zk]
   exact ⟨⟨rfl,rfl⟩,⟨rfl,rfl⟩,⟨rfl,rfl⟩,⟨rfl,rfl⟩,⟨rfl,rfl⟩,⟨rfl,rfl⟩,⟨rfl,rfl⟩,trivial⟩)
  rw [←zL] at vw;refine ⟨fun h1=>?_,fun h1=>absurd (yP h1) (by omega)⟩;refine ⟨yM (by omega),h1,p1,p2,C5,zF hat (by omega),t1,yM (by omega),yM (by omega),yM (by omega),yM (by omega),yM (by omega),C5,fun hh=>⟨fun e=>?_,fun e=>?_⟩,fun hh=>?_⟩
  ·refine ⟨rfl,.inl ⟨?_,rfl,by simp [vVs,vV,vI,wk],_,rfl⟩⟩
   have:Ru E cs n z x h=true:=by
    unfold Ru;rw [hh,Bool.true_and]
    have:=yL e
    exact yM (by rw [hh] at this;omega)
   rw [this] at hbad
   have:=yL hbad.symm
   omega
  ·have:Ru E cs n z x h=false:=by
    unfold Ru;rw [hh,Bool.true_and]
    have:=yP e
    exact yR (by rw [hh] at this;omega)
   rw [this] at hbad
   have:=yP hbad.symm
   exact ⟨C5,by omega,.inr vw⟩
  ·have:Ru E cs n z x h=false:=by
    unfold Ru;rw [hh,Bool.false_and]
   rw [this] at hbad
   have:=yP hbad.symm
   exact ⟨C5,by omega,.inr vw⟩
 ·have e:i=m:=by omega
  have e2:(I4 D cs n z pl m)=m:=by omega
  have hK:(I4 D cs n z pl m)=i:=by omega
  generalize hE:J7 D cs n z pl i=E
  refine D1 (C:=(⟨Try.prog,G,B⟩:A0)) (K:=(Df Try.prog [(37,4,8),(40,0,0)] [] ((34,Ee 1820 (fun _=>false) (.one (.ptr (.rw 2) (.mul (.var 11 0) 4)) []))::progIb) [D6 1821 (fun _=>false) 2 108 [1,4,5,7,9,11,12,36,37,38,62,63] (.one (.exit 2) [.int .i64 (.var 2 (z:Int)),.ptr (.rw 1) (.lit 0),.int .i64 (.lit 0),.ptr (.rw 12) (.lit 0),.ptr (.rw 13) (.lit 0),.slice true (.fm 4 8 (.var 11 0)) (.var 12 0) (.var 13 0),.int .u32 (.ofN (.var 14 0)),.slice true (.rw 3) (.lit 0) (.var 4 m),.int .i64 (.ofN (.var 4 m)),.int .i64 (.ofN (.var 8 i)),.undef,.undef] [some ⟨1,.var 31 b0⟩,some ⟨1,.var 32 [.int .i64 0,.nils,.nils]⟩,some ⟨4,.var 21 (D2 cs n (dW 4 cs))⟩,some ⟨2,.var 7 pl⟩,some ⟨1,.row (.var 22 (A7 E)) (.lit 0)⟩,some ⟨1,.row (.var 22 (A7 E)) (.lit 1)⟩,some ⟨1,.row (.var 22 (A7 E)) (.lit 2)⟩,some ⟨1,.row (.var 22 (A7 E)) (.lit 3)⟩,some ⟨1,.row (.var 22 (A7 E)) (.lit 4)⟩,some ⟨1,.row (.var 22 (A7 E)) (.lit 5)⟩,some ⟨1,.row (.var 22 (A7 E)) (.lit 6)⟩,some ⟨1,.row (.var 22 (A7 E)) (.lit 7)⟩,some ⟨1,.of [.int .i64 (.var 1 s),.slice true (.rw 2) (.lit 0) (.var 3 n),.slice true (.rw 3) (.lit 0) (.var 4 m)]⟩,some ⟨1,.of [.int .i64 (.var 6 0),.bool (.var 9 false)]⟩]),D6 1822 (fun _=>false) 4 108 [1,4,5,7,11,12,36,37,38,89,90] (.one (.exit 4) [.int .i64 (.var 2 (z:Int)),.ptr (.rw 1) (.lit 0),.int .i64 (.lit 0),.ptr (.rw 12) (.lit 0),.undef,.undef,.slice true (.rw 3) (.lit 0) (.var 4 m),.int .i64 (.ofN (.var 4 m)),.int .i64 (.ofN (.var 8 i)),.undef,.undef] [some ⟨1,.var 31 b0⟩,some ⟨1,.var 32 [.int .i64 0,.nils,.nils]⟩,some ⟨4,.var 21 (D2 cs n (dW 4 cs))⟩,some ⟨2,.var 7 pl⟩,some ⟨1,.row (.var 23 []) (.lit 0)⟩,some ⟨1,.row (.var 23 []) (.lit 1)⟩,some ⟨1,.row (.var 23 []) (.lit 2)⟩,some ⟨1,.row (.var 23 []) (.lit 3)⟩,some ⟨1,.row (.var 23 []) (.lit 4)⟩,some ⟨1,.row (.var 23 []) (.lit 5)⟩,some ⟨1,.row (.var 23 []) (.lit 6)⟩,some ⟨1,.row (.var 23 []) (.lit 7)⟩,some ⟨1,.of [.int .i64 (.var 1 s),.slice true (.rw 2) (.lit 0) (.var 3 n),.slice true (.rw 3) (.lit 0) (.var 4 m)]⟩,some ⟨1,.of [.int .i64 (.var 6 0),.bool (.var 9 false)]⟩])] 14)) ?_ (fuel:=500) (n0:=20) (m:=13) (c:=A2 Try.f13 0) (vs:=[.int .i64 (.var 2 (z:Int)),.ptr (.rw 1) (.lit 0),.int .i64 (.lit 0),.ptr (.rw 12) (.lit 0),.slice true (.rw 3) (.lit 0) (.var 4 m),.int .i64 (.ofN (.var 4 m)),.int .i64 (.ofN (.var 8 i))]) (H:=[some ⟨1,.var 31 b0⟩,some ⟨1,.var 32 [.int .i64 0,.nils,.nils]⟩,some ⟨4,.var 21 (D2 cs n (dW 4 cs))⟩,some ⟨2,.var 7 pl⟩,some ⟨1,.row (.var 22 (A7 E)) (.lit 0)⟩,some ⟨1,.row (.var 22 (A7 E)) (.lit 1)⟩,some ⟨1,.row (.var 22 (A7 E)) (.lit 2)⟩,some ⟨1,.row (.var 22 (A7 E)) (.lit 3)⟩,some ⟨1,.row (.var 22 (A7 E)) (.lit 4)⟩,some ⟨1,.row (.var 22 (A7 E)) (.lit 5)⟩,some ⟨1,.row (.var 22 (A7 E)) (.lit 6)⟩,some ⟨1,.row (.var 22 (A7 E)) (.lit 7)⟩,some ⟨1,.of [.int .i64 (.var 1 s),.slice true (.rw 2) (.lit 0) (.var 3 n),.slice true (.rw 3) (.lit 0) (.var 4 m)]⟩]) (zA1 _) ?_
  ·rw [show B5 (A2 Try.f13 0)=[A2 Try.f13 1,A2 Try.f13 2] by kernel_rfl];exact Bm (K6 G B) (by kernel_rfl) (.cons Ua (Y3 G B)) (.cons (i:=2) (by kernel_rfl) rfl Xx (.cons (i:=4) (by kernel_rfl) rfl Xx .nil))
  ·rw [mv_o];refine ⟨fun h1=>absurd (yL h1) (by omega),fun h1=>.inr ⟨e2,rfl,by simp [vVs,vV,vI,wk],?_⟩⟩;rw [←e,hE];rfl
def mN (f:Nat→Int) (ps:List AV) (j:Nat):Nat→AV
 | 0=>.int .i64 (f j)
 | _=>.bool (hP ps j)
def G2 (f:Nat→Int) (ps:List AV) (m:Nat):List AV:=M7 m 2 (mN f ps)
theorem eQ {f:Nat→Int} {ps:List AV} {m:Nat}:(G2 f ps m).length=m*2:=Ck
theorem Hs {N:Nat} {f:Nat→Int} {ps:List AV} {m:Nat}:A3 N (G2 f ps m)=true:=Oe fun a b ha hb=>by
 match b,hb with
 | 0,_=>rfl
 | 1,_=>rfl
theorem Uj {f:Nat→Int} {ps:List AV} {m i:Nat} (h:i<m):isI .i64 (G2 f ps m) (i*2)=true∧isB (G2 f ps m) (i*2+1)=true∧xP (G2 f ps m) i=f i∧hP (G2 f ps m) i=hP ps i:=by
 have e0:(G2 f ps m)[i*2+0]?=some (.int .i64 (f i)):=P9 (f:=mN f ps) h (by omega);have e1:(G2 f ps m)[i*2+1]?=some (.bool (hP ps i)):=P9 (f:=mN f ps) h (by omega);rw [Nat.add_zero] at e0;unfold isI isB xP hP A1 E1;rw [e0,e1];exact ⟨rfl,rfl,rfl,rfl⟩
theorem yC {f g:Nat→Int} {ps:List AV} {m:Nat} (h:∀ j,j<m→f j=g j):G2 f ps m=G2 g ps m:=J0 fun a b ha hb=>by
 match b,hb with
 | 0,_=>unfold mN;rw [h a ha]
 | 1,_=>rfl
theorem aW3 {f:Nat→Int} {ps:List AV} {m i:Nat} {v:Int}:E2 (G2 f ps m) (i*2) (.int .i64 v)=G2 (fun j=>if j=i then v else f j) ps m:=by
 show (G2 f ps m).set (i*2+0) _=_;unfold G2;rw [Yo (by omega)];refine J0 fun a b ha hb=>?_
 match b,hb with
 | 0,_=>
  by_cases e:a=i
  ·subst e;rw [if_pos ⟨rfl,rfl⟩];show AV.int .i64 v=.int .i64 (if a=a then v else f a);rw [if_pos rfl]
  ·rw [if_neg fun h=>e h.1];show AV.int .i64 (f a)=.int .i64 (if a=i then v else f a);rw [if_neg e]
 | 1,_=>
  rw [if_neg fun h=>by cases h.2];rfl
theorem yB {ps:List AV} {m:Nat} (h:Q4 ps m=true) (hl:m*2≤ps.length):A9 ps 0 (m*2)=G2 (xP ps) ps m:=by
 refine List.ext_getElem? fun j=>?_;by_cases hj:j<m*2
 ·obtain ⟨h1,h2,h3⟩:=Xo hj;have e:=S1 h h1;have e2:(G2 (xP ps) ps m)[j / 2*2+j % 2]?=some (mN (xP ps) ps (j / 2) (j % 2)):=P9 (f:=mN (xP ps) ps) h1 h2;rw [←h3] at e2;rw [e2];unfold A9;rw [List.drop_zero,qL,if_pos hj];generalize j / 2=a at *;generalize j % 2=b at *;subst h3;obtain ⟨q1,_⟩:=e;simp only [E5,Ak,zN] at q1
  match b,h2 with
  | 0,_=>rw [Nat.add_zero];exact Cw q1.1
  | 1,_=>
   have hb:isB ps (a*2+1)=true:=q1.2.1;show ps[a*2+1]?=some (.bool (E1 ps (a*2+1)));unfold isB at hb;unfold E1;split at hb
   ·rename_i e;rw [e]
   ·cases hb
 ·have h1:(A9 ps 0 (m*2)).length≤j:=by
   unfold A9;rw [List.length_take];omega
  have h2:(G2 (xP ps) ps m).length≤j:=by rw [eQ];omega
  rw [qK h1,qK h2]
def shF (ps:List AV) (z i:Nat):Nat→Int:=fun j=>if j<i then xP ps j+(z:Int) else xP ps j
theorem shF_0 {ps:List AV} {z:Nat}:shF ps z 0=xP ps:=by funext j;unfold shF;rw [if_neg (by omega)]
theorem wk_cons {v:AV} {a b:List AV} (h:wk a b):wk (v::a) (v::b):=by cases v<;>simp [wk,h]
theorem Tn {m k:Nat}:∀ {a b:List AV},wk a b→wk (fzs m k a) (fzs m k b)
 | [],[],_=>by simp [fzs,wk]
 | [],y::b,h=>by simp [wk] at h
 | x::a,[],h=>by cases x<;>simp [wk] at h
 | x::a,y::b,h=>by
  by_cases hx:x=.undef
  ·subst hx;have h:wk a b:=h;show wk (.undef::fzs m k a) (fz m k y::fzs m k b);exact Tn h
  ·have h2:y=x∧wk a b:=by cases x<;>first | exact absurd rfl hx | exact h
   obtain ⟨rfl,h2⟩:=h2;exact wk_cons (Tn h2)
theorem aL0 {q k m z:Nat} {f:Nat→Nat→AV}:fzs q k (M7 m z f)=M7 m z fun a b=>fz q k (f a b):=by
 rw [An];unfold M7;rw [List.map_map];rfl
def dK (kd:Nat→Nat) (cs:List AV) (j:Nat):AV:=.slice true (.ro (kd j)) 0 (sN cs j)
def dF (kd:Nat→Nat) (cs:List AV) (q j:Nat):AV:=if j<q then dK kd cs j else dW 4 cs j
theorem scT_fz {kd:Nat→Nat} {cs:List AV} {n q:Nat}:fzs (4+q) (kd q) (D2 cs n (dF kd cs q))=D2 cs n (dF kd cs (q+1)):=by
 unfold D2;rw [aL0];refine J0 fun a b ha hb=>?_
 match b,hb with
 | 0,_=>rfl
 | 1,_=>rfl
 | 2,_=>
  show fz (4+q) (kd q) (dF kd cs q a)=dF kd cs (q+1) a;unfold dF;by_cases h:a<q
  ·rw [if_pos h,if_pos (by omega)];rfl
  ·rw [if_neg h];show (bif Nat.beq (4+a) (4+q) then AV.slice true (.ro (kd q)) 0 (sN cs a) else .slice true (.rw (4+a)) 0 (sN cs a))=_;by_cases e:a=q
   ·subst e;rw [zA3,if_pos (by omega)];rfl
   ·rw [pD (by omega),if_neg (by omega)];rfl
 | 3,_=>rfl
def hF (b0 b1 cs pl b12:List AV) (D:Nat→List Nat) (n:Nat) (kd:Nat→Nat) (q:Nat):Nat→Option Blk
 | 0=>some ⟨1,b0⟩
 | 1=>some ⟨1,b1⟩
 | 2=>some ⟨4,D2 cs n (dF kd cs q)⟩
 | 3=>some ⟨2,pl⟩
 | i+4=>if i=8 then some ⟨1,b12⟩ else if i<q then none else some ⟨1,A4 (A7 D) i⟩
def bR (b0 b1 cs pl b12:List AV) (D:Nat→List Nat) (n:Nat) (kd:Nat→Nat) (q:Nat):Hp:=(List.range 13).map (hF b0 b1 cs pl b12 D n kd q)
def hpZ (b0 b1 sc pl b12:List AV):Hp:=[some ⟨1,b0⟩,some ⟨1,b1⟩,some ⟨4,sc⟩,some ⟨2,pl⟩,none,none,none,none,none,none,none,none,some ⟨1,b12⟩]
theorem hpF_8 {b0 b1 cs pl b12:List AV} {D:Nat→List Nat} {n:Nat} {kd:Nat→Nat} (h8:n≤8):bR b0 b1 cs pl b12 D n kd 8=hpZ b0 b1 (D2 cs n (dK kd cs)) pl b12:=by
 have e:D2 cs n (dK kd cs)=D2 cs n (dF kd cs 8):=Iz fun j hj=>by unfold dF;rw [if_pos (by omega)]
 rw [e];rfl
theorem nS {b0 b1 cs pl b12:List AV} {D:Nat→List Nat} {n:Nat} {kd:Nat→Nat} {q i:Nat} (h:i<13):(bR b0 b1 cs pl b12 D n kd q)[i]?=some (hF b0 b1 cs pl b12 D n kd q i):=by
 unfold bR;rw [sH,List.getElem?_range h];rfl
theorem hpF_fz {b0 b1 cs pl b12:List AV} {D:Nat→List Nat} {n:Nat} {kd:Nat→Nat} {q:Nat} (hq:q<8) (h0:A3 4 b0=true) (h1:A3 4 b1=true) (hp:A3 4 pl=true) (h12:A3 4 b12=true):Jy (4+q) (kd q) (bR b0 b1 cs pl b12 D n kd q)=bR b0 b1 cs pl b12 D n kd (q+1):=by
 have id:∀ {l:List AV},A3 4 l=true→fzs (4+q) (kd q) l=l:=fun h=>Do (n:=4) (by omega) _ h;unfold Jy;refine List.ext_getElem? fun i=>?_;rw [qX,sH,List.length_map];have hl:(bR b0 b1 cs pl b12 D n kd q).length=13:=by simp [bR]
 rw [hl];by_cases hi:i<13
 ·rw [nS hi,nS hi];by_cases e:4+q=i
  ·rw [if_pos e,if_pos (by omega)];subst e;rw [Nat.add_comm 4 q];show some none=some (if q=8 then (some ⟨1,b12⟩:Option Blk) else if q<q+1 then none else some ⟨1,A4 (A7 D) q⟩);rw [if_neg (by omega),if_pos (by omega)]
  ·rw [if_neg e];show some (fzB (4+q) (kd q) (hF b0 b1 cs pl b12 D n kd q i))=_
   match i with
   | 0=>show some (some (⟨1,fzs _ _ b0⟩:Blk))=_;rw [id h0];rfl
   | 1=>show some (some (⟨1,fzs _ _ b1⟩:Blk))=_;rw [id h1];rfl
   | 2=>show some (some (⟨4,fzs _ _ (D2 cs n (dF kd cs q))⟩:Blk))=_;rw [scT_fz];rfl
   | 3=>show some (some (⟨2,fzs _ _ pl⟩:Blk))=_;rw [id hp];rfl
   | i+4=>
    show some (fzB (4+q) (kd q) (if i=8 then some ⟨1,b12⟩ else if i<q then none else some ⟨1,A4 (A7 D) i⟩))=some (if i=8 then some ⟨1,b12⟩ else if i<q+1 then none else some ⟨1,A4 (A7 D) i⟩);by_cases f:i=8
    ·rw [if_pos f,if_pos f];show some (some (⟨1,fzs _ _ b12⟩:Blk))=_;rw [id h12]
    ·rw [if_neg f,if_neg f];by_cases g:i<q
     ·rw [if_pos g,if_pos (by omega)];rfl
     ·rw [if_neg g,if_neg (by omega)];show some (some (⟨1,fzs _ _ (A4 (A7 D) i)⟩:Blk))=_;rw [id (Ly (by omega))]
 ·rw [qK (by rw [hl];omega),qK (by simp [bR];omega)];rw [if_neg (by omega)];rfl
theorem AWp.frz8 (G:Nat→List AV) (B:Nat) {c:Code} {F:Fr} {H:Hp} {N n0:Nat} {live:List Nat} {ex:Ex} {vs0:List AV} {b0 b1 cs pl b12:List AV} {D:Nat→List Nat} {n:Nat} {kd:Nat→Nat} (h8:n≤8) (h0:A3 4 b0=true) (h1:A3 4 b1=true) (hp:A3 4 pl=true) (h12:A3 4 b12=true)
  (hv:∀ q k,q<8→fzs (4+q) k vs0=vs0) (hG:∀ q,q<8→G (kd q)=O2 (D q))
  (h:AWp (⟨Try.prog,G,B⟩:A0) n0 c F H (lv N live fun e vs H=>e=ex∧wk vs0 vs∧H=Hz b0 b1 (D2 cs n (dW 4 cs)) pl (A7 D) b12)) :
  AWp (⟨Try.prog,G,B⟩:A0) n0 c F H (lv N live fun e vs H=>e=ex∧wk vs0 vs∧H=hpZ b0 b1 (D2 cs n (dK kd cs)) pl b12):=by
 have key:∀ q,q≤8→AWp (⟨Try.prog,G,B⟩:A0) n0 c F H (lv N live fun e vs H=>e=ex∧wk vs0 vs∧H=bR b0 b1 cs pl b12 D n kd q):=by
  intro q
  induction q with
  | zero=>intro _;exact h
  | succ q ih=>
   intro hq;refine AWp.frzL (4+q) (kd q) (ih (by omega)) ?_;rintro e vs H' ⟨rfl,w,rfl⟩;refine ⟨⟨⟨1,A4 (A7 D) q⟩,?_,rfl,fun j v hj=>?_⟩,rfl,?_,hpF_fz (by omega) h0 h1 hp h12⟩
   ·rw [nS (by omega),Nat.add_comm 4 q];show some (if q=8 then some _ else if q<q then none else some _)=_;rw [if_neg (by omega),if_neg (by omega)]
   ·have hj:(G (kd q))[j]?=some v:=hj;rw [hG q (by omega)] at hj;refine ⟨v,?_,aN1 v (rM hj),.rfl⟩;show (A4 (A7 D) q)[j]?=some v;rw [Rm (by omega)];exact hj
   ·have:=Tn (m:=4+q) (k:=kd q) w
    rw [hv q _ (by omega)] at this;exact this
 have:=key 8 (zA1 _)
 rw [hpF_8 h8] at this;exact this
end Go.Am
