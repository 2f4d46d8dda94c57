/-
  ImageBack: what a moved image is: the plain law. ImageBack: the law's trees.
-/
import Derived.Test.YthejjolnlngahaaPart15
import Derived.Test.YthejjolnlngahaaPart24
import Derived.Test.YthejjolnlngahaaPart22
import Derived.Test.YthejjolnlngahaaPart19
import Derived.Test.YthejjolnlngahaaPart23
import Derived.Test.YthejjolnlngahaaPart14
import Derived.Test.YthejjolnlngahaaBase5
namespace Go.Am
open Go.Proofs
set_option maxRecDepth 100000
theorem mI {G:Nat→List AV} {ks kp n m:Nat} {s:Int} (hb:T2 G ks kp n m) (go:E8 s (G ks) n (G kp) m=true):U8 (G ks) n (G kp) m (dB0 G (G ks) n):=by
 have spot:=mY go hb.pls;obtain ⟨_,_,h2⟩:=Ai go;have h2:=F6.1 h2
 have step:∀ j,j+1<m→xP (G kp) j+P4 (hP (G kp) j)≤xP (G kp) (j+1):=fun j hj=>by
  have o:=h2 (j+1) hj;unfold Bj at o;rw [zN] at o;exact yL o.1
 refine ⟨fun i hi=>(spot i hi).1,fun i j hij hj=>?_,fun j hj=>Lj hb j hj,fun j=>Vo hb j⟩;obtain ⟨d,rfl⟩:∃ d,j=i+1+d:=⟨j - i - 1,by omega⟩
 induction d with
 | zero=>exact step i hj
 | succ d ih=>
  have h1:=ih (by omega) (by omega);have h3:=step (i+1+d) hj;have h4:0≤P4 (hP (G kp) (i+1+d)):=by rw [jV];omega
  have e:i+1+(d+1)=i+1+d+1:=rfl;rw [e];omega
structure Mv (G:Nat→List AV) (ks kp n m z kS kP:Nat) (kd:Nat→Nat):Prop where
 d:∀ q,q<8→G (kd q)=O2 (J7 (dB0 G (G ks) n) (G ks) n z (G kp) m q)
 s:G kS=Q3 (shS (G ks) z n) (G ks) n (dK kd (G ks))
 p:G kP=G2 (shF (G kp) z m) (G kp) m
section
variable {G:Nat→List AV} {ks kp n m z kS kP:Nat} {kd:Nat→Nat}
theorem Mv.at (M:Mv G ks kp n m z kS kP kd) {j:Nat} (hj:j<n):sA (G kS) j=sA (G ks) j+(z:Int)∧sR (G kS) j=sR (G ks) j∧sN (G kS) j=sN (G ks) j∧sZ (G kS) j=sZ (G ks) j∧C8 (G kS) (j*4+2)=kd j∧E9 (G kS) (j*4+2)=0:=by
 have e:∀ b,b<4→(G kS)[j*4+b]?=some (Yt (shS (G ks) z n) (G ks) (dK kd (G ks)) j b):=fun b hb=>by rw [M.s];exact P9 (f:=Yt (shS (G ks) z n) (G ks) (dK kd (G ks))) hj hb
 have e0:=e 0 (by omega);rw [Nat.add_zero] at e0;refine ⟨?_,?_,?_,?_,?_,?_⟩
 ·unfold sA A1;rw [e0];show shS (G ks) z n j=_;unfold shS;rw [if_pos hj];rfl
 ·unfold sR A1;rw [e 1 (by omega)];rfl
 ·unfold sN C7;rw [e 2 (by omega)];rfl
 ·unfold sZ A1;rw [e 3 (by omega)];rfl
 ·unfold C8;rw [e 2 (by omega)];rfl
 ·unfold E9;rw [e 2 (by omega)];rfl
theorem Mv.pl (M:Mv G ks kp n m z kS kP kd) {i:Nat} (hi:i<m):xP (G kP) i=xP (G kp) i+(z:Int)∧hP (G kP) i=hP (G kp) i:=by
 obtain ⟨_,_,h1,h2⟩:=Uj (f:=shF (G kp) z m) (ps:=G kp) hi;rw [M.p,h1,h2];refine ⟨?_,rfl⟩;unfold shF;rw [if_pos hi]
theorem Mv.dat (M:Mv G ks kp n m z kS kP kd) (hb:T2 G ks kp n m) (h8:n≤8) {j:Nat} (hj:j<n):G (C8 (G kS) (j*4+2))=O2 (J7 (dB0 G (G ks) n) (G ks) n z (G kp) m j)∧N4 G (G kS) j=O2 (J7 (dB0 G (G ks) n) (G ks) n z (G kp) m j)∧(J7 (dB0 G (G ks) n) (G ks) n z (G kp) m j).length=sN (G ks) j:=by
 obtain ⟨_,_,e3,_,e5,e6⟩:=M.at hj;have l:(J7 (dB0 G (G ks) n) (G ks) n z (G kp) m j).length=sN (G ks) j:=by rw [mvD_len,Lj hb j hj]
 have e3:C7 (G kS) (j*4+2)=sN (G ks) j:=e3;refine ⟨by rw [e5,M.d j (by omega)],?_,l⟩;unfold N4;rw [e5,e6,e3,M.d j (by omega)];exact J3 (by rw [Ga,l])
theorem Mv.db (M:Mv G ks kp n m z kS kP kd) (hb:T2 G ks kp n m) (h8:n≤8):dB0 G (G kS) n=J7 (dB0 G (G ks) n) (G ks) n z (G kp) m:=by
 funext j;by_cases hj:j<n
 ·obtain ⟨_,e,_⟩:=M.dat hb h8 hj
  have:dB0 G (G kS) n j=dB G (G kS) j:=if_pos hj
  rw [this,Oc e]
 ·have e1:dB0 G (G kS) n j=[]:=if_neg hj
  have e2:(J7 (dB0 G (G ks) n) (G ks) n z (G kp) m j).length=0:=by
   rw [mvD_len]
   have:dB0 G (G ks) n j=[]:=if_neg hj
   rw [this];rfl
  rw [e1];exact (List.length_eq_zero_iff.1 e2).symm
theorem Mv.imB (M:Mv G ks kp n m z kS kP kd) (hb:T2 G ks kp n m) (h8:n≤8) (h512:m≤512) (hl:∀ j,j<n→sN (G ks) j≤8192) (hx:∀ j,j<m→0≤xP (G kp) j∧xP (G kp) j≤8192) (hz:z≤1000000):T2 G kS kP n m∧Gx G kS kP n m:=by
 have lS:(G kS).length=n*4:=by rw [M.s];exact rD
 have lP:(G kP).length=m*2:=by rw [M.p];exact eQ
 have sec:I6 (G kS) n=true:=by rw [M.s];exact Tz
 have pls:Q4 (G kP) m=true:=by
  rw [M.p];refine mM fun j hj=>?_
  have:=hx j hj
  unfold shF;rw [if_pos hj];omega
 have cS:cellsB (G kS)=true∧A3 0 (G kS)=true:=by
  have:∀ v∈G kS,(∃ k x,v=.int k x)∨∃ k a b,v=.slice true (.ro k) a b:=fun v hv=>by
   rw [M.s] at hv;unfold Q3 M7 at hv;obtain ⟨j,hj,rfl⟩:=List.mem_map.1 hv;have hb:j % 4<4:=Nat.mod_lt _ (by omega);generalize j % 4=b at hb
   match b,hb with
   | 0,_=>exact .inl ⟨_,_,rfl⟩
   | 1,_=>exact .inl ⟨_,_,rfl⟩
   | 2,_=>exact .inr ⟨_,_,_,rfl⟩
   | 3,_=>exact .inl ⟨_,_,rfl⟩
  refine ⟨?_,?_⟩
  ·unfold cellsB;rw [xM];intro v hv;rcases this v hv with ⟨_,_,rfl⟩ | ⟨_,_,_,rfl⟩<;>rfl
  ·rw [L2,xM];intro v hv;rcases this v hv with ⟨_,_,rfl⟩ | ⟨_,_,_,rfl⟩<;>rfl
 have cP:cellsB (G kP)=true:=by
  unfold cellsB;rw [xM];intro v hv;rw [M.p] at hv;unfold G2 M7 at hv;obtain ⟨j,hj,rfl⟩:=List.mem_map.1 hv;have hb:j % 2<2:=Nat.mod_lt _ (by omega);generalize j % 2=b at hb
  match b,hb with
  | 0,_=>rfl
  | 1,_=>rfl
 refine ⟨⟨sec,pls,Dp.2 ⟨⟨sec,?_⟩,?_,fun j hj=>?_⟩,fun j hj=>?_⟩,⟨?_,fun j hj=>(M.at hj).2.2.2.2.2,fun j hj=>by rw [(M.dat hb h8 hj).1,(M.dat hb h8 hj).2.1],?_⟩⟩
 ·refine L1.2 ⟨⟨B2.2 (by omega),?_⟩,by omega,?_⟩
  ·rw [J3 lS];exact cS.1
  ·rw [J3 lS];exact cS.2
 ·refine L1.2 ⟨⟨B2.2 (by omega),?_⟩,by omega,?_⟩
  ·rw [J3 lP];exact cP
  ·rw [J3 lP,M.p];exact Hs
 ·obtain ⟨g1,_,g3⟩:=M.dat hb h8 hj;obtain ⟨_,_,e3,_,e5,e6⟩:=M.at hj
  have:=hl j hj
  have g4:(O2 (J7 (dB0 G (G ks) n) (G ks) n z (G kp) m j)).length=sN (G ks) j:=by rw [Ga,g3]
  rw [g1,e6,e3];refine L1.2 ⟨⟨B2.2 (by rw [g4];omega),?_⟩,by omega,?_⟩
  ·rw [Nat.mul_one,J3 g4];exact L8 cN
  ·rw [Nat.mul_one,J3 g4];exact Zw
 ·exact ⟨_,Ux (fun j=>Vo hb j) m j,(M.dat hb h8 hj).2.1⟩
 ·refine Eq.trans M.s (J0 fun a b ha hb'=>?_);obtain ⟨h1,h2,h3,h4,h5,h6⟩:=M.at ha
  match b,hb' with
  | 0,_=>show AV.int .i64 (shS (G ks) z n a)=.int .i64 (sA (G kS) a);rw [h1];unfold shS;rw [if_pos ha]
  | 1,_=>show AV.int .i64 (sR (G ks) a)=.int .i64 (sR (G kS) a);rw [h2]
  | 2,_=>show dK kd (G ks) a=dR (G kS) a;unfold dK dR;rw [h3,h5,h6]
  | 3,_=>show AV.int .i64 (sZ (G ks) a)=.int .i64 (sZ (G kS) a);rw [h4]
 ·refine Eq.trans M.p (J0 fun a b ha hb'=>?_);obtain ⟨h1,h2⟩:=M.pl ha
  match b,hb' with
  | 0,_=>show AV.int .i64 (shF (G kp) z m a)=.int .i64 (xP (G kP) a);rw [h1];unfold shF;rw [if_pos ha]
  | 1,_=>show AV.bool (hP (G kp) a)=.bool (hP (G kP) a);rw [h2]
theorem Mv.up (M:Mv G ks kp n m z kS kP kd) (hb:T2 G ks kp n m) (P:U8 (G ks) n (G kp) m (dB0 G (G ks) n)) (D:Nat→List Nat) (w:Nat):J7 D (G kS) n w (G kP) m=J7 D (G ks) n w (G kp) m∧I4 D (G kS) n w (G kP) m=I4 D (G ks) n w (G kp) m:=by
 have u:=mvD_up (D:=D) (z:=w) (cs:=G ks) (cs1:=G kS) (ps:=G kp) (ps1:=G kP) (w:=(z:Int)) (n:=n) (m:=m) (fun j hj=>(M.at hj).1) (fun j hj=>(M.at hj).2.2.1) (fun i hi=>(M.pl hi).1) (fun i hi=>(M.pl hi).2) (fun i hi=>(P.at hi).2.2);exact ⟨(u m (zA1 _)).1,aF0 fun k hk=>(u k (by omega)).2 hk⟩
variable {w kS' kP':Nat} {kd':Nat→Nat}
theorem Mv.twice (M:Mv G ks kp n m z kS kP kd) (hb:T2 G ks kp n m) (h8:n≤8) (P:U8 (G ks) n (G kp) m (dB0 G (G ks) n)) (hs:I4 (dB0 G (G ks) n) (G ks) n z (G kp) m=m) (M':Mv G ks kp n m (z+w) kS' kP' kd') :
  Mv G kS kP n m w kS' kP' kd'∧(I4 (dB0 G (G kS) n) (G kS) n w (G kP) m=m↔I4 (dB0 G (G ks) n) (G ks) n (z+w) (G kp) m=m):=by
 obtain ⟨u1,u2⟩:=M.up hb P (dB0 G (G kS) n) w;have t:=P.twice (w:=w) hs;refine ⟨⟨fun q hq=>?_,?_,?_⟩,?_⟩
 ·rw [u1,M.db hb h8,t];exact M'.d q hq
 ·refine Eq.trans M'.s (J0 fun a b ha hb'=>?_);obtain ⟨h1,h2,h3,h4,h5,h6⟩:=M.at ha
  match b,hb' with
  | 0,_=>show AV.int .i64 (shS (G ks) (z+w) n a)=.int .i64 (shS (G kS) w n a);unfold shS;rw [if_pos ha,if_pos ha,h1];congr 1;omega
  | 1,_=>show AV.int .i64 (sR (G ks) a)=.int .i64 (sR (G kS) a);rw [h2]
  | 2,_=>show dK kd' (G ks) a=dK kd' (G kS) a;unfold dK;rw [h3]
  | 3,_=>show AV.int .i64 (sZ (G ks) a)=.int .i64 (sZ (G kS) a);rw [h4]
 ·refine Eq.trans M'.p (J0 fun a b ha hb'=>?_);obtain ⟨h1,h2⟩:=M.pl ha
  match b,hb' with
  | 0,_=>show AV.int .i64 (shF (G kp) (z+w) m a)=.int .i64 (shF (G kP) w m a);unfold shF;rw [if_pos ha,if_pos ha,h1];congr 1;omega
  | 1,_=>show AV.bool (hP (G kp) a)=.bool (hP (G kP) a);rw [h2]
 ·rw [u2,M.db hb h8];exact P.twice_stop hs
theorem mv_nil {ke:Nat} (hb:T2 G ks kp n m) (hw:Gx G ks kp n m) (P:U8 (G ks) n (G kp) m (dB0 G (G ks) n)) (he:G ke=[]):Mv G ks kp n m 0 ks kp (fun j=>if j<n then C8 (G ks) (j*4+2) else ke):=by
 refine ⟨fun q hq=>?_,?_,?_⟩
 ·rw [P.nil.1];unfold dB0;by_cases h:q<n
  ·obtain ⟨b,_,hd⟩:=hb.dat q h;rw [if_pos h,if_pos h,hw.dat q h,Oc hd,hd]
  ·rw [if_neg h,if_neg h,he];rfl
 ·refine Eq.trans hw.sec (J0 fun a b ha hb'=>?_)
  match b,hb' with
  | 0,_=>show AV.int .i64 (sA (G ks) a)=.int .i64 (shS (G ks) 0 n a);unfold shS;rw [if_pos ha];congr 1;omega
  | 1,_=>rfl
  | 2,_=>show dR (G ks) a=.slice true (.ro (if a<n then C8 (G ks) (a*4+2) else ke)) 0 (sN (G ks) a);unfold dR;rw [if_pos ha,hw.off a ha]
  | 3,_=>rfl
 ·refine Eq.trans hw.pls (J0 fun a b ha hb'=>?_)
  match b,hb' with
  | 0,_=>show AV.int .i64 (xP (G kp) a)=.int .i64 (shF (G kp) 0 m a);unfold shF;rw [if_pos ha];congr 1;omega
  | 1,_=>rfl
theorem aA8 {b:List Nat} (h:Ao b):I9 (O2 b)=true:=by
 unfold I9;rw [xM];intro v hv;obtain ⟨x,hx,rfl⟩:=List.mem_map.1 hv
 have:=h x hx
 simp only [Go.Am.b8,zN,xE];omega
theorem zM {ps:List AV} {x:Int}:∀ {k:Nat},Du ps x k=false→∀ i,i<k→¬(xP ps i≤x∧x<xP ps i+P4 (hP ps i))
 | 0,_,i,hi=>absurd hi (Nat.not_lt_zero i)
 | k+1,h,i,hi=>by
  rw [Du,Bool.or_eq_false_iff] at h;by_cases e:i=k
  ·subst e
   have:=h.2
   unfold Zl at this;rw [Bool.and_eq_false_iff,decide_eq_false_iff_not,decide_eq_false_iff_not] at this;omega
  ·exact zM h.1 i (by omega)
theorem Mv.kept (M:Mv G ks kp n m z kS kP kd) (hb:T2 G ks kp n m) (hw:Gx G ks kp n m) {s:Int} (go:E8 s (G ks) n (G kp) m=true) (hz:z≤1000000):KpIn G ks kp n m kS (z:Int):=by
 obtain ⟨⟨h8,h512⟩,_⟩:=Ai go;have sec:=Z4 go;have P:=mI hb go;have hx:=Xa go hb.pls
 have d1:∀ i,i<n→G (C8 (G ks) (i*4+2))=O2 (dB0 G (G ks) n i):=fun i hi=>by
  obtain ⟨b,_,hd⟩:=hb.dat i hi;have e:dB0 G (G ks) n i=dB G (G ks) i:=if_pos hi;rw [hw.dat i hi,e,Oc hd,hd]
 refine ⟨by omega,by omega,hb.sec,by rw [M.s];exact Tz,hb.pls,fun j hj=>by have:=hx j hj;omega,fun i hi=>by have:=sec i hi;omega,fun i hi=>by have:=(sec i hi).2.2.1;omega,hw.off,fun i hi=>(M.at hi).2.2.2.2.2,fun i hi=>⟨(M.at hi).2.1,(M.at hi).2.2.1,(M.at hi).2.2.2.1⟩,fun i hi=>⟨?_,?_⟩,fun i hi=>⟨?_,?_⟩,by omega,fun i hi=>F6.2 fun b hb'=>?_⟩
 ·rw [d1 i hi];exact aA8 (Vo hb i)
 ·rw [d1 i hi,Ga,Lj hb i hi]
 ·rw [(M.dat hb h8 hi).1];exact aA8 (Ux (fun j=>Vo hb j) m i)
 ·rw [(M.dat hb h8 hi).1,Ga,(M.dat hb h8 hi).2.2]
 ·unfold Td;rw [(M.at hi).1,(M.dat hb h8 hi).1,d1 i hi,beq_self_eq_true,Bool.and_true];cases hh:Du (G kp) (sA (G ks) i+(b:Int)) m with
  | true=>rfl
  | false=>
   rw [Bool.false_or];have l:=Lj hb i hi;have l2:=(M.dat hb h8 hi).2.2;rw [Zv (by omega),Zv (by omega),P.out (zA1 _) fun k hk q=>?_]
   ·exact beq_self_eq_true _
   ·refine zM hh k hk ?_;obtain ⟨q1,q2,q3⟩:=q
    have:=(P.at hk).1
    rw [q1] at this;rw [jV];have e:wdN (hP (G kp) k)=wI (G kp) k:=rfl;rw [e];omega
end
def s13 (q1 q2 q3 q4:List AV→Bool) (o1 o2 o3 o4:Outs):DSum:=fun args H=>match args with
 | [_,.int .i64 (.lit _)]=>X6 2541 q1 o1 args H
 | [_,.int .i64 (.var 2 _)]=>X6 2542 q2 o2 args H
 | [_,.int .i64 (.var 5 _)]=>X6 2543 q3 o3 args H
 | _=>X6 2544 q4 o4 args H
theorem xL {C:A0} {f:FuncId} {q1 q2 q3 q4:List AV→Bool} {o1 o2 o3 o4:Outs} (h1:D4 C f (X6 2541 q1 o1)) (h2:D4 C f (X6 2542 q2 o2)) (h3:D4 C f (X6 2543 q3 o3)) (h4:D4 C f (X6 2544 q4 o4)):D4 C f (s13 q1 q2 q3 q4 o1 o2 o3 o4):=by
 intro args H o ho;unfold s13 at ho;split at ho
 ·exact h1 _ _ _ ho
 ·exact h2 _ _ _ ho
 ·exact h3 _ _ _ ho
 ·exact h4 _ _ _ ho
def R6 (ks:Nat) (kp:Nat) (n:Nat) (m:Nat) (s:Int):List AV:=[.int .i64 s,.slice true (.ro ks) 0 n,.slice true (.ro kp) 0 m]
def Jd (kS:Nat) (kP:Nat) (n:Nat) (m:Nat) (s1:Int):List AV:=[.int .i64 s1,.slice true (.ro kS) 0 n,.slice true (.ro kP) 0 m]
theorem aB0 (G:Nat→List AV) (q1 q2 q3 q4 q5 q6 q7 q8:List AV→Bool) (ks kp kS kP kS2 kP2 n m:Nat) (s s1 sv2 by0 by1 x0 x1:Int) (f:List AV) (may ok1 ok2:Bool) (Q:Ex→List AV→Hp→Prop) (R:AV→Hp→Prop):vT G Q R (G0 (Dc Try.prog [16] [(10,muchS),(11,trueS),(21,X6 2546 q6 (.one (.bool (.var 20 may)) [])),(28,Dw 2547 q7 (.var 21 f)),(29,Rl 2548 q8 (.tup [(.agg (.of [.int .i64 (.lit 0),.nils,.nils])),.int .i64 (.lit 4)])),(13,s13 q1 q2 q3 q4 (.one (.tup [.agg (.of [.int .i64 (.var 1 s),.slice true (.ro (.var 24 ks)) (.lit 0) (.var 3 n),.slice true (.ro (.var 25 kp)) (.lit 0) (.var 4 m)]),.int .i64 (.lit 0)]) []) (.tst (.var 10 ok1) (.one (.tup [(.agg (.of [.int .i64 (.var 14 s1),.slice true (.ro (.var 26 kS)) (.lit 0) (.var 3 n),.slice true (.ro (.var 27 kP)) (.lit 0) (.var 4 m)])),.int .i64 (.lit 0)]) []) (.one (.tup [(.agg (.of [.int .i64 (.lit 0),.nils,.nils])),.int .i64 (.lit 2)]) [])) (.tst (.var 11 ok2) (.one (.tup [(.agg (.of [.int .i64 (.var 15 sv2),.slice true (.ro (.var 28 kS2)) (.lit 0) (.var 3 n),.slice true (.ro (.var 29 kP2)) (.lit 0) (.var 4 m)])),.int .i64 (.lit 0)]) []) (.one (.tup [(.agg (.of [.int .i64 (.lit 0),.nils,.nils])),.int .i64 (.lit 2)]) [])) (.one (.tup [(.agg (.of [.int .i64 (.var 15 sv2),.slice true (.ro (.var 28 kS2)) (.lit 0) (.var 3 n),.slice true (.ro (.var 29 kP2)) (.lit 0) (.var 4 m)])),.int .i64 (.lit 0)]) [])),(15,Wh G),(32,X6 2545 q5 (.one (.bool (.lit true)) []))] [] 0) 500 20 Try.f9 [.agg (.of [.int .i64 (.var 1 s),.slice true (.ro (.var 24 ks)) (.lit 0) (.var 3 n),.slice true (.ro (.var 25 kp)) (.lit 0) (.var 4 m)]),.agg (.of [.int .i64 (.var 2 by0),.int .i64 (.var 5 by1)]),.agg (.of [.int .i64 (.var 6 x0),.int .i64 (.var 7 x1)])] [] 0)=(
  secOkU [.agg (G ks),.int .i64 ((n:Int))]=true∧(bC [.agg (G ks),.int .i64 ((n:Int)),.int .i64 ((m:Int))]=true→R (.bool true) [])∧(bC [.agg (G ks),.int .i64 ((n:Int)),.int .i64 ((m:Int))]=false→q6 [.agg ([.agg (R6 ks kp n m s)]:List AV),.agg ([]:List AV)]=true∧(may=true→q7 [.agg ([.agg (R6 ks kp n m s)]:List AV),.agg ([]:List AV)]=true∧(((((List.length f:Nat):Int):Int)==0)=true→R (.bool false) [])∧(((((List.length f:Nat):Int):Int)==0)=false→(!(((((List.length f:Nat):Int):Int)==0)))=true∧(decide ((Int.tmod x0 (((List.length f:Nat):Int)):Int)<0)=true→decide ((0:Int)≤IntKind.wrap .i64 (0 - (Int.tmod x0 (((List.length f:Nat):Int)))))=true∧decide ((IntKind.wrap .i64 (0 - (Int.tmod x0 (((List.length f:Nat):Int)))):Int)<((List.length f:Nat):Int))=true∧isI .u8 f (Int.toNat (IntKind.wrap .i64 (0 - (Int.tmod x0 (((List.length f:Nat):Int))))))=true∧(((IntKind.wrap .u8 x1:Int)==A1 f (Int.toNat (IntKind.wrap .i64 (0 - (Int.tmod x0 (((List.length f:Nat):Int)))))))=true→q1 [.agg ([.agg (R6 ks kp n m s),.int .i64 0]:List AV),.agg ([]:List AV)]=true∧(Af G) [.int .i64 s,.agg (G ks),.int .i64 ((n:Int)),.agg (G kp),.int .i64 ((m:Int)),.int .i64 s,.agg (G ks),.int .i64 ((n:Int)),.agg (G kp),.int .i64 ((m:Int))]=true∧((Aw G) [.int .i64 s,.agg (G ks),.int .i64 ((n:Int)),.agg (G kp),.int .i64 ((m:Int)),.int .i64 s,.agg (G ks),.int .i64 ((n:Int)),.agg (G kp),.int .i64 ((m:Int))]=true→q2 [.agg ([.agg (R6 ks kp n m s),.int .i64 by0]:List AV),.agg ([]:List AV)]=true∧(ok1=true→q5 [.agg ([.agg (R6 ks kp n m s),.agg (Jd kS kP n m s1),.int .i64 by0]:List AV),.agg ([]:List AV)]=true∧
 q3 [.agg ([.agg (Jd kS kP n m s1),.int .i64 by1]:List AV),.agg ([]:List AV)]=true∧(ok2=true→q4 [.agg ([.agg (R6 ks kp n m s),.int .i64 (IntKind.wrap .i64 (by0+by1))]:List AV),.agg ([]:List AV)]=true∧(Af G) [.int .i64 sv2,.agg (G kS2),.int .i64 ((n:Int)),.agg (G kP2),.int .i64 ((m:Int)),.int .i64 sv2,.agg (G kS2),.int .i64 ((n:Int)),.agg (G kP2),.int .i64 ((m:Int))]=true∧R (.bool ((Aw G) [.int .i64 sv2,.agg (G kS2),.int .i64 ((n:Int)),.agg (G kP2),.int .i64 ((m:Int)),.int .i64 sv2,.agg (G kS2),.int .i64 ((n:Int)),.agg (G kP2),.int .i64 ((m:Int))])) [])∧(ok2=false→R (.bool true) []))∧(ok1=false→R (.bool true) []))∧((Aw G) [.int .i64 s,.agg (G ks),.int .i64 ((n:Int)),.agg (G kp),.int .i64 ((m:Int)),.int .i64 s,.agg (G ks),.int .i64 ((n:Int)),.agg (G kp),.int .i64 ((m:Int))]=false→R (.bool false) []))∧(((IntKind.wrap .u8 x1:Int)==A1 f (Int.toNat (IntKind.wrap .i64 (0 - (Int.tmod x0 (((List.length f:Nat):Int)))))))=false→decide ((0:Int)≤IntKind.wrap .i64 (0 - (Int.tmod x0 (((List.length f:Nat):Int)))))=true∧decide ((IntKind.wrap .i64 (0 - (Int.tmod x0 (((List.length f:Nat):Int)))):Int)<((List.length f:Nat):Int))=true∧leB (Int.toNat (IntKind.wrap .i64 (0 - (Int.tmod x0 (((List.length f:Nat):Int)))))+1) (List.length f)=true∧q8 [.agg (E2 f (Int.toNat (IntKind.wrap .i64 (0 - (Int.tmod x0 (((List.length f:Nat):Int)))))) (.int .u8 (IntKind.wrap .u8 x1))),.ptr (.rw 0) (List.length f)]=true∧q1 [.agg ([.agg (R6 ks kp n m s),.int .i64 0]:List AV),.agg ([]:List AV)]=true∧
 (Af G) [.int .i64 s,.agg (G ks),.int .i64 ((n:Int)),.agg (G kp),.int .i64 ((m:Int)),.int .i64 s,.agg (G ks),.int .i64 ((n:Int)),.agg (G kp),.int .i64 ((m:Int))]=true∧((Aw G) [.int .i64 s,.agg (G ks),.int .i64 ((n:Int)),.agg (G kp),.int .i64 ((m:Int)),.int .i64 s,.agg (G ks),.int .i64 ((n:Int)),.agg (G kp),.int .i64 ((m:Int))]=true→q2 [.agg ([.agg (R6 ks kp n m s),.int .i64 by0]:List AV),.agg ([]:List AV)]=true∧(ok1=true→q5 [.agg ([.agg (R6 ks kp n m s),.agg (Jd kS kP n m s1),.int .i64 by0]:List AV),.agg ([]:List AV)]=true∧q3 [.agg ([.agg (Jd kS kP n m s1),.int .i64 by1]:List AV),.agg ([]:List AV)]=true∧(ok2=true→q4 [.agg ([.agg (R6 ks kp n m s),.int .i64 (IntKind.wrap .i64 (by0+by1))]:List AV),.agg ([]:List AV)]=true∧(Af G) [.int .i64 sv2,.agg (G kS2),.int .i64 ((n:Int)),.agg (G kP2),.int .i64 ((m:Int)),.int .i64 sv2,.agg (G kS2),.int .i64 ((n:Int)),.agg (G kP2),.int .i64 ((m:Int))]=true∧R (.bool ((Aw G) [.int .i64 sv2,.agg (G kS2),.int .i64 ((n:Int)),.agg (G kP2),.int .i64 ((m:Int)),.int .i64 sv2,.agg (G kS2),.int .i64 ((n:Int)),.agg (G kP2),.int .i64 ((m:Int))])) [])∧(ok2=false→R (.bool true) []))∧(ok1=false→R (.bool true) []))∧((Aw G) [.int .i64 s,.agg (G ks),.int .i64 ((n:Int)),.agg (G kp),.int .i64 ((m:Int)),.int .i64 s,.agg (G ks),.int .i64 ((n:Int)),.agg (G kp),.int .i64 ((m:Int))]=false→R (.bool false) [])))∧(decide ((Int.tmod x0 (((List.length f:Nat):Int)):Int)<0)=false→decide ((0:Int)≤Int.tmod x0 (((List.length f:Nat):Int)))=true∧decide ((Int.tmod x0 (((List.length f:Nat):Int)):Int)<((List.length f:Nat):Int))=true∧
 isI .u8 f (Int.toNat (Int.tmod x0 (((List.length f:Nat):Int))))=true∧(((IntKind.wrap .u8 x1:Int)==A1 f (Int.toNat (Int.tmod x0 (((List.length f:Nat):Int)))))=true→q1 [.agg ([.agg (R6 ks kp n m s),.int .i64 0]:List AV),.agg ([]:List AV)]=true∧(Af G) [.int .i64 s,.agg (G ks),.int .i64 ((n:Int)),.agg (G kp),.int .i64 ((m:Int)),.int .i64 s,.agg (G ks),.int .i64 ((n:Int)),.agg (G kp),.int .i64 ((m:Int))]=true∧((Aw G) [.int .i64 s,.agg (G ks),.int .i64 ((n:Int)),.agg (G kp),.int .i64 ((m:Int)),.int .i64 s,.agg (G ks),.int .i64 ((n:Int)),.agg (G kp),.int .i64 ((m:Int))]=true→q2 [.agg ([.agg (R6 ks kp n m s),.int .i64 by0]:List AV),.agg ([]:List AV)]=true∧(ok1=true→q5 [.agg ([.agg (R6 ks kp n m s),.agg (Jd kS kP n m s1),.int .i64 by0]:List AV),.agg ([]:List AV)]=true∧q3 [.agg ([.agg (Jd kS kP n m s1),.int .i64 by1]:List AV),.agg ([]:List AV)]=true∧(ok2=true→q4 [.agg ([.agg (R6 ks kp n m s),.int .i64 (IntKind.wrap .i64 (by0+by1))]:List AV),.agg ([]:List AV)]=true∧(Af G) [.int .i64 sv2,.agg (G kS2),.int .i64 ((n:Int)),.agg (G kP2),.int .i64 ((m:Int)),.int .i64 sv2,.agg (G kS2),.int .i64 ((n:Int)),.agg (G kP2),.int .i64 ((m:Int))]=true∧R (.bool ((Aw G) [.int .i64 sv2,.agg (G kS2),.int .i64 ((n:Int)),.agg (G kP2),.int .i64 ((m:Int)),.int .i64 sv2,.agg (G kS2),.int .i64 ((n:Int)),.agg (G kP2),.int .i64 ((m:Int))])) [])∧(ok2=false→R (.bool true) []))∧(ok1=false→R (.bool true) []))∧
 ((Aw G) [.int .i64 s,.agg (G ks),.int .i64 ((n:Int)),.agg (G kp),.int .i64 ((m:Int)),.int .i64 s,.agg (G ks),.int .i64 ((n:Int)),.agg (G kp),.int .i64 ((m:Int))]=false→R (.bool false) []))∧(((IntKind.wrap .u8 x1:Int)==A1 f (Int.toNat (Int.tmod x0 (((List.length f:Nat):Int)))))=false→decide ((0:Int)≤Int.tmod x0 (((List.length f:Nat):Int)))=true∧decide ((Int.tmod x0 (((List.length f:Nat):Int)):Int)<((List.length f:Nat):Int))=true∧leB (Int.toNat (Int.tmod x0 (((List.length f:Nat):Int)))+1) (List.length f)=true∧q8 [.agg (E2 f (Int.toNat (Int.tmod x0 (((List.length f:Nat):Int)))) (.int .u8 (IntKind.wrap .u8 x1))),.ptr (.rw 0) (List.length f)]=true∧q1 [.agg ([.agg (R6 ks kp n m s),.int .i64 0]:List AV),.agg ([]:List AV)]=true∧(Af G) [.int .i64 s,.agg (G ks),.int .i64 ((n:Int)),.agg (G kp),.int .i64 ((m:Int)),.int .i64 s,.agg (G ks),.int .i64 ((n:Int)),.agg (G kp),.int .i64 ((m:Int))]=true∧((Aw G) [.int .i64 s,.agg (G ks),.int .i64 ((n:Int)),.agg (G kp),.int .i64 ((m:Int)),.int .i64 s,.agg (G ks),.int .i64 ((n:Int)),.agg (G kp),.int .i64 ((m:Int))]=true→q2 [.agg ([.agg (R6 ks kp n m s),.int .i64 by0]:List AV),.agg ([]:List AV)]=true∧(ok1=true→q5 [.agg ([.agg (R6 ks kp n m s),.agg (Jd kS kP n m s1),.int .i64 by0]:List AV),.agg ([]:List AV)]=true∧q3 [.agg ([.agg (Jd kS kP n m s1),.int .i64 by1]:List AV),.agg ([]:List AV)]=true∧(ok2=true→q4 [.agg ([.agg (R6 ks kp n m s),.int .i64 (IntKind.wrap .i64 (by0+by1))]:List AV),.agg ([]:List AV)]=true∧
 (Af G) [.int .i64 sv2,.agg (G kS2),.int .i64 ((n:Int)),.agg (G kP2),.int .i64 ((m:Int)),.int .i64 sv2,.agg (G kS2),.int .i64 ((n:Int)),.agg (G kP2),.int .i64 ((m:Int))]=true∧R (.bool ((Aw G) [.int .i64 sv2,.agg (G kS2),.int .i64 ((n:Int)),.agg (G kP2),.int .i64 ((m:Int)),.int .i64 sv2,.agg (G kS2),.int .i64 ((n:Int)),.agg (G kP2),.int .i64 ((m:Int))])) [])∧(ok2=false→R (.bool true) []))∧(ok1=false→R (.bool true) []))∧((Aw G) [.int .i64 s,.agg (G ks),.int .i64 ((n:Int)),.agg (G kp),.int .i64 ((m:Int)),.int .i64 s,.agg (G ks),.int .i64 ((n:Int)),.agg (G kp),.int .i64 ((m:Int))]=false→R (.bool false) [])))))∧(may=false→R (.bool true) []))):=by kernel_rfl
open Go.RowKit Crc
def Sz (x:Int):Int:=IntKind.wrap .u8 x
def Qk (x:Int) (n:Nat):Nat:=(Int.toNat (if Int.tmod x (n:Int)<0 then - Int.tmod x (n:Int) else Int.tmod x (n:Int)))
theorem idX_lt {x:Int} {n:Nat} (h:0<n):Qk x n<n∧-(n:Int)<Int.tmod x (n:Int)∧Int.tmod x (n:Int)<(n:Int):=by
 have h1:=Int.tmod_lt_of_pos x (b:=(n:Int)) (by omega);have h2:=Int.lt_tmod_of_pos x (b:=(n:Int)) (by omega);refine ⟨?_,h2,h1⟩;unfold Qk
 split<;>omega
theorem Rk {C:A0} {f j:Nat} {o:Outs} {q:List AV→Bool} (P:Prop) (h:P→D4 C f (X6 j q o)):∃ q',D4 C f (X6 j q' o)∧(P→q'=q):=by
 by_cases hP:P
 ·exact ⟨q,h hP,fun _=>rfl⟩
 ·exact ⟨fun _=>false,Pr,fun h=>absurd h hP⟩
theorem rF {C:A0} {f j:Nat} {x:EV}:D4 C f (Rl j (fun _=>false) x):=by
 intro xs H o ho;simp only [Rl] at ho;split at ho
 ·split at ho
  ·simp only [zK] at ho;subst ho;intro h1;exact absurd h1 (by simp [vB])
  ·simp at ho
 ·simp at ho
theorem xK {C:A0} {f j:Nat} {x:EV} {q:List AV→Bool} (P:Prop) (h:P→D4 C f (Rl j q x)):∃ q',D4 C f (Rl j q' x)∧(P→q'=q):=by
 by_cases hP:P
 ·exact ⟨q,h hP,fun _=>rfl⟩
 ·exact ⟨fun _=>false,rF,fun h=>absurd h hP⟩
def Cc (G:Nat→List AV) (ks kp kS kP n m:Nat) (s:Int) (b:Int):Bool:=(decide (0≤b)&&((E8 s (G ks) n (G kp) m&&(decide (Int.toNat b≤8192)&&decide (Int.toNat b % 256=0)))&&((decide (I4 (dB0 G (G ks) n) (G ks) n (Int.toNat b) (G kp) m=m))&&(E8 (IntKind.wrap .i64 (s+(Int.toNat b:Int))) (G kS) n (G kP) m))))
theorem Wq {G:Nat→List AV} {ks kp kS kP n m:Nat} {s b:Int}:Cc G ks kp kS kP n m s b=true↔0≤b∧(E8 s (G ks) n (G kp) m=true∧Int.toNat b≤8192∧Int.toNat b % 256=0)∧I4 (dB0 G (G ks) n) (G ks) n (Int.toNat b) (G kp) m=m∧E8 (IntKind.wrap .i64 (s+(Int.toNat b:Int))) (G kS) n (G kP) m=true:=by
 simp only [Cc,zN,xE]
theorem bB (G:Nat→List AV) (B:Nat) (ks kp kS kP n m:Nat) (s by_:Int) (kd:Nat→Nat) (hb:T2 G ks kp n m) (hn:n≤1000000) (hm:m≤1000000) (M:Mv G ks kp n m (Int.toNat by_) kS kP kd):ACalls (⟨Try.prog,G,B⟩:A0) 13 [.agg [.int .i64 s,.slice true (.ro ks) 0 n,.slice true (.ro kp) 0 m],.int .i64 by_] [] (fun v _=>v=(AV.tup (if Cc G ks kp kS kP n m s by_=true then [.agg [.int .i64 (IntKind.wrap .i64 (s+(Int.toNat by_:Int))),.slice true (.ro kS) 0 n,.slice true (.ro kP) 0 m],.int .i64 0] else [.agg [.int .i64 0,.nils,.nils],.int .i64 2]))):=by
 by_cases h0:0≤by_
 ·have e:(Int.toNat by_:Int)=by_:=Int.toNat_of_nonneg h0;have c13:=aX2 G B ks kp kS kP n m (Int.toNat by_) s kd hb hn hm M.d M.s M.p;unfold Cc;rw [yM h0,Bool.true_and];rw [e] at c13 ⊢;exact c13
 ·unfold Cc;rw [yR h0,Bool.false_and];exact mv_neg G B ks kp n m s by_ hb hn hm (by omega)
theorem may_n {s:Int} {cs ps:List AV} {n m:Nat} (h:E8 s cs n ps m=true):0<n:=by
 rcases Nat.eq_zero_or_pos n with rfl | h0
 ·unfold E8 at h;simp only [zN] at h
  have:=h.2.2.2.2
  simp [As] at this
 ·exact h0
structure BkA (G:Nat→List AV) (ks kp kS kP kS2 kP2 n m:Nat) (s by0 by1:Int) (kd kd2:Nat→Nat):Prop where
 hb:T2 G ks kp n m
 hw:Gx G ks kp n m
 go:E8 s (G ks) n (G kp) m=true
 M1:Mv G ks kp n m (Int.toNat by0) kS kP kd
 M3:Mv G ks kp n m ((Int.toNat by0)+(Int.toNat by1)) kS2 kP2 kd2
structure BkR1 (G:Nat→List AV) (kS kP kS2 kP2 n m:Nat) (s by0 by1:Int) (kd2:Nat→Nat):Prop where
 b0:0≤by0∧(Int.toNat by0)≤8192∧(Int.toNat by0) % 256=0
 w:IntKind.wrap .i64 (s+((Int.toNat by0):Int))=(s+((Int.toNat by0):Int))
 sr:0≤(s+((Int.toNat by0):Int))∧(s+((Int.toNat by0):Int))≤8192
 may:E8 (s+((Int.toNat by0):Int)) (G kS) n (G kP) m=true
 hb:T2 G kS kP n m
 hw:Gx G kS kP n m
 M2:Mv G kS kP n m (Int.toNat by1) kS2 kP2 kd2
theorem BkA.r1 {G:Nat→List AV} {ks kp kS kP kS2 kP2 n m:Nat} {s by0 by1:Int} {kd kd2:Nat→Nat} (A:BkA G ks kp kS kP kS2 kP2 n m s by0 by1 kd kd2) (o:(Cc G ks kp kS kP n m s by0)=true):BkR1 G kS kP kS2 kP2 n m s by0 by1 kd2∧(I4 (dB0 G (G kS) n) (G kS) n (Int.toNat by1) (G kP) m=m↔I4 (dB0 G (G ks) n) (G ks) n ((Int.toNat by0)+(Int.toNat by1)) (G kp) m=m):=by
 obtain ⟨o1,⟨_,o2,o3⟩,o4,o5⟩:=Wq.1 o;obtain ⟨⟨h8,h512⟩,_⟩:=Ai A.go;have hs:=Qe A.go;have w:IntKind.wrap .i64 (s+((Int.toNat by0):Int))=(s+((Int.toNat by0):Int)):=B6 (by omega);rw [w] at o5;have P:=mI A.hb A.go;obtain ⟨M2,hf⟩:=A.M1.twice A.hb h8 P o4 A.M3;obtain ⟨b1,w1⟩:=A.M1.imB A.hb h8 h512 (fun j hj=>(Z4 A.go j hj).2.2.1) (Xa A.go A.hb.pls) (by omega);exact ⟨⟨⟨o1,o2,o3⟩,w,by have:=Qe o5;omega,o5,b1,w1,M2⟩,hf⟩
theorem BkA.r2 {G:Nat→List AV} {ks kp kS kP kS2 kP2 n m:Nat} {s by0 by1:Int} {kd kd2:Nat→Nat} (A:BkA G ks kp kS kP kS2 kP2 n m s by0 by1 kd kd2) (o:(Cc G ks kp kS kP n m s by0)=true) (o':(Cc G kS kP kS2 kP2 n m (s+((Int.toNat by0):Int)) by1)=true) :
  (Cc G ks kp kS2 kP2 n m s (IntKind.wrap .i64 (by0+by1)))=true∧(0≤(s+((Int.toNat by0):Int)+((Int.toNat by1):Int))∧(s+((Int.toNat by0):Int)+((Int.toNat by1):Int))≤8192)∧IntKind.wrap .i64 (by0+by1)=(((Int.toNat by0)+(Int.toNat by1):Nat):Int)∧T2 G kS2 kP2 n m:=by
 obtain ⟨R,hf⟩:=A.r1 o;obtain ⟨p1,⟨_,p2,p3⟩,p4,p5⟩:=Wq.1 o';have hs:=Qe A.go;obtain ⟨⟨h8,h512⟩,_⟩:=Ai A.go;have R0:=R.b0;have w2:IntKind.wrap .i64 (s+((Int.toNat by0):Int)+((Int.toNat by1):Int))=(s+((Int.toNat by0):Int)+((Int.toNat by1):Int)):=B6 (by omega);rw [w2] at p5;have h0:=may_n p5;have g1:=(Z4 p5 0 h0).2.1;have g2:=(A.M3.at h0).1;have g3:=(Z4 A.go 0 h0).1;have hz:(Int.toNat by0)+(Int.toNat by1)≤8192:=by omega
 have eb:IntKind.wrap .i64 (by0+by1)=(((Int.toNat by0)+(Int.toNat by1):Nat):Int):=by rw [B6 (by omega)];omega
 obtain ⟨b2,_⟩:=R.M2.imB R.hb h8 h512 (fun j hj=>(Z4 R.may j hj).2.2.1) (Xa R.may R.hb.pls) (by omega);refine ⟨Wq.2 ?_,by have:=Qe p5;omega,eb,b2⟩;rw [eb,show Int.toNat (((Int.toNat by0)+(Int.toNat by1):Nat):Int)=(Int.toNat by0)+(Int.toNat by1) by omega];refine ⟨by omega,⟨A.go,hz,by omega⟩,hf.1 p4,?_⟩;rw [show s+(((Int.toNat by0)+(Int.toNat by1):Nat):Int)=(s+((Int.toNat by0):Int)+((Int.toNat by1):Int)) by omega,w2];exact p5
theorem Xz {G:Nat→List AV} {ks kp n m:Nat} {s:Int} (hb:T2 G ks kp n m) (hn:n≤1000000) (hm:m≤1000000):Af G [.int .i64 s,.agg (G ks),.int .i64 (n:Int),.agg (G kp),.int .i64 (m:Int),.int .i64 s,.agg (G ks),.int .i64 (n:Int),.agg (G kp),.int .i64 (m:Int)]=true:=by
 have w1:Co G (G ks) n=true∧Cs (G kp) m=true:=by
  unfold Co Cs;rw [hb.sec,dat_im hb,hb.pls,Nat.ble_eq_true_of_le hn,Nat.ble_eq_true_of_le hm];exact ⟨rfl,rfl⟩
 exact aL.2 ⟨⟨w1.1,w1.1⟩,w1.2,w1.2⟩
theorem bk_yes (G:Nat→List AV) (B:Nat) (ks kp kS kP kS2 kP2 n m ke ksR kpR:Nat) (s by0 by1 x0 x1:Int) (kd kd2 kdR:Nat→Nat) (A:BkA G ks kp kS kP kS2 kP2 n m s by0 by1 kd kd2) (he:G ke=[]) (hmu:Aa (G ks) n m=false)
  (hR:jF G ksR kpR kdR (((F5 G s (G ks) n (G kp) m)).set (Qk x0 ((F5 G s (G ks) n (G kp) m)).length) (.int .u8 (Sz x1)))):ACalls (⟨Try.prog,G,B⟩:A0) 9 [.agg [.int .i64 s,.slice true (.ro ks) 0 n,.slice true (.ro kp) 0 m],.agg [.int .i64 by0,.int .i64 by1],.agg [.int .i64 x0,.int .i64 x1]] [] fun v _=>v=.bool true:=by
 have hb:=A.hb;have hw:=A.hw;have hy:=A.go;obtain ⟨⟨h8,h512⟩,_⟩:=Ai hy;have hs:=Qe hy;have hn:n≤1000000:=by omega
 have hm:m≤1000000:=by omega
 have P:=mI hb hy;have hsU:secOkU [.agg (G ks),.int .i64 (n:Int)]=true:=by simpa only [secOkU,F9] using hb.sec
 have u1:S5 [.agg (G ks),.int .i64 (n:Int)]=true:=L9.2 ⟨hb.sec,by omega⟩;have u2:Jr [.agg (G kp),.int .i64 (m:Int)]=true:=Z3.2 ⟨hb.pls,by omega⟩;have l9:B5 (C6 Try.f9)=[]:=by kernel_rfl
 have s21:D4 (⟨Try.prog,G,B⟩:A0) 21 (X6 2546 (D9 [.agg [.int .i64 s,.slice true (.ro ks) 0 n,.slice true (.ro kp) 0 m]] []) (.one (.bool (.var 20 true)) [])):=Hn (v0:=.bool true) rfl (by have:=mZ G B ks n kp m s u1 u2;rw [hy] at this;exact this) rfl rfl (by simp) rfl;have uF:u8s (F5 G s (G ks) n (G kp) m)=true:=Sj (Po hb hw hy);have bF:I9 (F5 G s (G ks) n (G kp) m)=true:=Zq hb
 have lF:((F5 G s (G ks) n (G kp) m)).length≤1000000:=by
  have:=jC (s:=s) (ps:=(G kp)) (m:=m) (Po hb hw hy) h512
  rw [Kr];omega
 have lF0:0<((F5 G s (G ks) n (G kp) m)).length:=by rw [Kr];omega
 obtain ⟨ix,t1,t2⟩:=idX_lt (x:=x0) lF0;have s28:D4 (⟨Try.prog,G,B⟩:A0) 28 (Dw 2547 (D9 [.agg [.int .i64 s,.slice true (.ro ks) 0 n,.slice true (.ro kp) 0 m]] []) (.var 21 (F5 G s (G ks) n (G kp) m))):=dQ rfl (tD G B ks kp n m s hb hw hn hm hy) rfl uF;have hc:0≤(Sz x1)∧(Sz x1)<256:=by unfold Sz;rw [u8_wr];omega
 obtain ⟨q8,s29,e8⟩:=xK (C:=(⟨Try.prog,G,B⟩:A0)) (f:=29) (j:=2548) (q:=nJ (((F5 G s (G ks) n (G kp) m)).set (Qk x0 ((F5 G s (G ks) n (G kp) m)).length) (.int .u8 (Sz x1))) ((F5 G s (G ks) n (G kp) m)).length) (x:=.tup [(.agg (.of [.int .i64 (.lit 0),.nils,.nils])),.int .i64 (.lit 4)]) (A1 (F5 G s (G ks) n (G kp) m) (Qk x0 ((F5 G s (G ks) n (G kp) m)).length)≠(Sz x1)) fun hne=>by
  have b8X:I9 (((F5 G s (G ks) n (G kp) m)).set (Qk x0 ((F5 G s (G ks) n (G kp) m)).length) (.int .u8 (Sz x1)))=true:=xF bF hc;refine aU6 rfl (O3 b8X) rfl ?_;have h:=rd_any G B ksR kpR kdR (((F5 G s (G ks) n (G kp) m)).set (Qk x0 ((F5 G s (G ks) n (G kp) m)).length) (.int .u8 (Sz x1))) b8X (by rw [List.length_set];exact lF) hR;rw [aW5 hb lF hc ix hne hR,List.length_set] at h;exact h.monoK fun v H h=>h
 have s13a:D4 (⟨Try.prog,G,B⟩:A0) 13 (X6 2541 (D9 [.agg [.int .i64 s,.slice true (.ro ks) 0 n,.slice true (.ro kp) 0 m],.int .i64 0] []) (.one (.tup [.agg (.of [.int .i64 (.var 1 s),.slice true (.ro (.var 24 ks)) (.lit 0) (.var 3 n),.slice true (.ro (.var 25 kp)) (.lit 0) (.var 4 m)]),.int .i64 (.lit 0)]) [])):=by
  have M0:=mv_nil hb hw P he;have h:=bB G B ks kp ks kp n m s 0 _ hb hn hm M0;have w0:IntKind.wrap .i64 (s+((0:Nat):Int))=s:=by rw [B6 (by omega)];omega
  have k:Cc G ks kp ks kp n m s 0=true:=Wq.2 ⟨Int.le_refl _,⟨hy,zA2 _,rfl⟩,P.nil.2,by
   show E8 (IntKind.wrap .i64 (s+((0:Nat):Int))) (G ks) n (G kp) m=true
   rw [w0];exact hy⟩
  rw [if_pos k,show Int.toNat 0=0 from rfl,w0] at h;exact Hn (v0:=.tup [.agg [.int .i64 s,.slice true (.ro ks) 0 n,.slice true (.ro kp) 0 m],.int .i64 0]) rfl h rfl rfl (by simp) rfl
 have s13b:D4 (⟨Try.prog,G,B⟩:A0) 13 (X6 2542 (D9 [.agg [.int .i64 s,.slice true (.ro ks) 0 n,.slice true (.ro kp) 0 m],.int .i64 by0] []) (.tst (.var 10 (Cc G ks kp kS kP n m s by0)) (.one (.tup [(.agg (.of [.int .i64 (.var 14 (s+((Int.toNat by0):Int))),.slice true (.ro (.var 26 kS)) (.lit 0) (.var 3 n),.slice true (.ro (.var 27 kP)) (.lit 0) (.var 4 m)])),.int .i64 (.lit 0)]) []) (.one (.tup [(.agg (.of [.int .i64 (.lit 0),.nils,.nils])),.int .i64 (.lit 2)]) []))):=by
  refine rE rfl (bB G B ks kp kS kP n m s by0 kd hb hn hm A.M1) rfl (by split<;>rfl) (by simp) (fun o=>?_) (fun o=>?_)
  ·have o:(Cc G ks kp kS kP n m s by0)=true:=o;rw [if_pos o,(A.r1 o).1.w];rfl
  ·have o:(Cc G ks kp kS kP n m s by0)=false:=o;rw [if_neg (by rw [o];decide)];rfl
 obtain ⟨q3,s13c,e3⟩:=Rk (C:=(⟨Try.prog,G,B⟩:A0)) (f:=13) (j:=2543) (o:=(.tst (.var 11 (Cc G kS kP kS2 kP2 n m (s+((Int.toNat by0):Int)) by1)) (.one (.tup [(.agg (.of [.int .i64 (.var 15 (s+((Int.toNat by0):Int)+((Int.toNat by1):Int))),.slice true (.ro (.var 28 kS2)) (.lit 0) (.var 3 n),.slice true (.ro (.var 29 kP2)) (.lit 0) (.var 4 m)])),.int .i64 (.lit 0)]) []) (.one (.tup [(.agg (.of [.int .i64 (.lit 0),.nils,.nils])),.int .i64 (.lit 2)]) []))) (q:=D9 [.agg [.int .i64 (s+((Int.toNat by0):Int)),.slice true (.ro kS) 0 n,.slice true (.ro kP) 0 m],.int .i64 by1] []) ((Cc G ks kp kS kP n m s by0)=true) fun o=>by
  obtain ⟨R,_⟩:=A.r1 o;refine rE rfl (bB G B kS kP kS2 kP2 n m (s+((Int.toNat by0):Int)) by1 kd2 R.hb hn hm R.M2) rfl (by split<;>rfl) (by simp) (fun o'=>?_) (fun o'=>?_)
  ·have o':(Cc G kS kP kS2 kP2 n m (s+((Int.toNat by0):Int)) by1)=true:=o'
   have:=(A.r2 o o').2.1
   rw [if_pos o',B6 (n:=(s+((Int.toNat by0):Int)+((Int.toNat by1):Int))) (by omega)];rfl
  ·have o':(Cc G kS kP kS2 kP2 n m (s+((Int.toNat by0):Int)) by1)=false:=o';rw [if_neg (by rw [o'];decide)];rfl
 obtain ⟨q4,s13d,e4⟩:=Rk (C:=(⟨Try.prog,G,B⟩:A0)) (f:=13) (j:=2544) (o:=(.one (.tup [(.agg (.of [.int .i64 (.var 15 (s+((Int.toNat by0):Int)+((Int.toNat by1):Int))),.slice true (.ro (.var 28 kS2)) (.lit 0) (.var 3 n),.slice true (.ro (.var 29 kP2)) (.lit 0) (.var 4 m)])),.int .i64 (.lit 0)]) [])) (q:=D9 [.agg [.int .i64 s,.slice true (.ro ks) 0 n,.slice true (.ro kp) 0 m],.int .i64 (IntKind.wrap .i64 (by0+by1))] []) ((Cc G ks kp kS kP n m s by0)=true∧(Cc G kS kP kS2 kP2 n m (s+((Int.toNat by0):Int)) by1)=true) fun ⟨o,o'⟩=>by
  obtain ⟨o3,r,eb,_⟩:=A.r2 o o';have et:Int.toNat (IntKind.wrap .i64 (by0+by1))=(Int.toNat by0)+(Int.toNat by1):=by rw [eb];omega
  have h:=bB G B ks kp kS2 kP2 n m s (IntKind.wrap .i64 (by0+by1)) kd2 hb hn hm (by rw [et];exact A.M3);rw [if_pos o3,et,B6 (n:=s+(((Int.toNat by0)+(Int.toNat by1):Nat):Int)) (by omega),show s+(((Int.toNat by0)+(Int.toNat by1):Nat):Int)=(s+((Int.toNat by0):Int)+((Int.toNat by1):Int)) by omega] at h;exact Hn (v0:=.tup [.agg [.int .i64 (s+((Int.toNat by0):Int)+((Int.toNat by1):Int)),.slice true (.ro kS2) 0 n,.slice true (.ro kP2) 0 m],.int .i64 0]) rfl h rfl rfl (by simp) rfl
 obtain ⟨q5,s32,e5⟩:=Rk (C:=(⟨Try.prog,G,B⟩:A0)) (f:=32) (j:=2545) (o:=(.one (.bool (.lit true)) [])) (q:=D9 [.agg [.int .i64 s,.slice true (.ro ks) 0 n,.slice true (.ro kp) 0 m],.agg [.int .i64 (s+((Int.toNat by0):Int)),.slice true (.ro kS) 0 n,.slice true (.ro kP) 0 m],.int .i64 by0] []) ((Cc G ks kp kS kP n m s by0)=true) fun o=>by
  obtain ⟨R,_⟩:=A.r1 o
  have:=R.b0
  have K:=A.M1.kept hb hw hy (by omega);have ez:((Int.toNat by0):Int)=by0:=Int.toNat_of_nonneg this.1;rw [ez] at K;exact Hn (v0:=.bool true) rfl (zB G B ks kp n m kS kP s (s+((Int.toNat by0):Int)) by0 K) rfl rfl (by simp) rfl
 have k1:=Xz (s:=s) hb hn hm;have k2:(Cc G ks kp kS kP n m s by0)=true→(Cc G kS kP kS2 kP2 n m (s+((Int.toNat by0):Int)) by1)=true→Af G [.int .i64 (s+((Int.toNat by0):Int)+((Int.toNat by1):Int)),.agg (G kS2),.int .i64 (n:Int),.agg (G kP2),.int .i64 (m:Int),.int .i64 (s+((Int.toNat by0):Int)+((Int.toNat by1):Int)),.agg (G kS2),.int .i64 (n:Int),.agg (G kP2),.int .i64 (m:Int)]=true:=fun o o'=>Xz (A.r2 o o').2.2.2 hn hm
 have key:=C1 (C:=(⟨Try.prog,G,B⟩:A0)) (K:=(Dc Try.prog [16] [(10,muchS),(11,trueS),(21,X6 2546 (D9 [.agg [.int .i64 s,.slice true (.ro ks) 0 n,.slice true (.ro kp) 0 m]] []) (.one (.bool (.var 20 true)) [])),(28,Dw 2547 (D9 [.agg [.int .i64 s,.slice true (.ro ks) 0 n,.slice true (.ro kp) 0 m]] []) (.var 21 (F5 G s (G ks) n (G kp) m))),(29,Rl 2548 q8 (.tup [(.agg (.of [.int .i64 (.lit 0),.nils,.nils])),.int .i64 (.lit 4)])),(13,s13 (D9 [.agg [.int .i64 s,.slice true (.ro ks) 0 n,.slice true (.ro kp) 0 m],.int .i64 0] []) (D9 [.agg [.int .i64 s,.slice true (.ro ks) 0 n,.slice true (.ro kp) 0 m],.int .i64 by0] []) q3 q4 (.one (.tup [.agg (.of [.int .i64 (.var 1 s),.slice true (.ro (.var 24 ks)) (.lit 0) (.var 3 n),.slice true (.ro (.var 25 kp)) (.lit 0) (.var 4 m)]),.int .i64 (.lit 0)]) []) (.tst (.var 10 (Cc G ks kp kS kP n m s by0)) (.one (.tup [(.agg (.of [.int .i64 (.var 14 (s+((Int.toNat by0):Int))),.slice true (.ro (.var 26 kS)) (.lit 0) (.var 3 n),.slice true (.ro (.var 27 kP)) (.lit 0) (.var 4 m)])),.int .i64 (.lit 0)]) []) (.one (.tup [(.agg (.of [.int .i64 (.lit 0),.nils,.nils])),.int .i64 (.lit 2)]) [])) (.tst (.var 11 (Cc G kS kP kS2 kP2 n m (s+((Int.toNat by0):Int)) by1)) (.one (.tup [(.agg (.of [.int .i64 (.var 15 (s+((Int.toNat by0):Int)+((Int.toNat by1):Int))),.slice true (.ro (.var 28 kS2)) (.lit 0) (.var 3 n),.slice true (.ro (.var 29 kP2)) (.lit 0) (.var 4 m)])),.int .i64 (.lit 0)]) []) (.one (.tup [(.agg (.of [.int .i64 (.lit 0),.nils,.nils])),.int .i64 (.lit 2)]) [])) (.one (.tup [(.agg (.of [.int .i64 (.var 15 (s+((Int.toNat by0):Int)+((Int.toNat by1):Int))),.slice true (.ro (.var 28 kS2)) (.lit 0) (.var 3 n),.slice true (.ro (.var 29 kP2)) (.lit 0) (.var 4 m)])),.int .i64 (.lit 0)]) [])),(15,Wh G),(32,X6 2545 q5 (.one (.bool (.lit true)) []))] [] 0)) (R:=fun v _=>v=.bool true) (by rw [l9];exact D7 (K6 G B) (by kernel_rfl) (.cons (mW G B) (.cons (lG G B) (.cons s21 (.cons s28 (.cons s29 (.cons (xL s13a s13b s13c s13d) (.cons (gZ G B) (.cons s32 .nil)))))))) .nil) (fuel:=500) (n0:=20) (f:=9) (fn:=Try.f9) (args:=[.agg (.of [.int .i64 (.var 1 s),.slice true (.ro (.var 24 ks)) (.lit 0) (.var 3 n),.slice true (.ro (.var 25 kp)) (.lit 0) (.var 4 m)]),.agg (.of [.int .i64 (.var 2 by0),.int .i64 (.var 5 by1)]),.agg (.of [.int .i64 (.var 6 x0),.int .i64 (.var 7 x1)])]) (H:=[]) (keep:=0) (by kernel_rfl) (by kernel_rfl) (by kernel_rfl) (by
  rw [aB0,Zb,hmu,Yv,gW,Yv,gW];have e1:((((((F5 G s (G ks) n (G kp) m)).length:Nat):Int):Int)==0)=false:=beq_eq_false_iff_ne.2 (by omega);refine ⟨hsU,fun h=>(by cases h),fun _=>⟨C5,fun _=>⟨C5,fun h=>(by rw [e1] at h;cases h),fun _=>⟨by rw [e1];rfl,fun hneg=>?_,fun hpos=>?_⟩⟩,fun h=>(by cases h)⟩⟩
  ·have hneg:=yL hneg
   have ei:Int.toNat (IntKind.wrap .i64 (0 - (Int.tmod x0 ((((F5 G s (G ks) n (G kp) m)).length:Nat):Int))))=(Qk x0 ((F5 G s (G ks) n (G kp) m)).length):=by
    rw [B6 (by omega)];unfold Qk;rw [if_pos hneg];omega
   rw [ei,B6 (n:=0 - (Int.tmod x0 ((((F5 G s (G ks) n (G kp) m)).length:Nat):Int))) (by omega)];refine ⟨yM (by omega),yM (by omega),(Gb bF ix).1,fun hq=>?_,fun hq=>⟨yM (by omega),yM (by omega),B2.2 (by omega),by rw [e8 (fun h=>by rw [h] at hq;exact absurd hq (by unfold Sz;simp))];exact iR,?_⟩⟩
   all_goals exact ⟨C5,k1,fun _=>⟨C5,fun o=>⟨by rw [e5 o];exact C5,by rw [e3 o];exact C5,fun o'=>⟨by rw [e4 ⟨o,o'⟩];exact C5,k2 o o',rfl⟩,fun _=>rfl⟩,fun _=>rfl⟩,fun h=>(by cases h)⟩
  ·have hpos:=yP hpos
   have ei:Int.toNat (Int.tmod x0 ((((F5 G s (G ks) n (G kp) m)).length:Nat):Int))=(Qk x0 ((F5 G s (G ks) n (G kp) m)).length):=by
    unfold Qk;rw [if_neg hpos]
   rw [ei];refine ⟨yM (by omega),yM (by omega),(Gb bF ix).1,fun hq=>?_,fun hq=>⟨yM (by omega),yM (by omega),B2.2 (by omega),by rw [e8 (fun h=>by rw [h] at hq;exact absurd hq (by unfold Sz;simp))];exact iR,?_⟩⟩
   all_goals exact ⟨C5,k1,fun _=>⟨C5,fun o=>⟨by rw [e5 o];exact C5,by rw [e3 o];exact C5,fun o'=>⟨by rw [e4 ⟨o,o'⟩];exact C5,k2 o o',rfl⟩,fun _=>rfl⟩,fun _=>rfl⟩,fun h=>(by cases h)⟩)
 exact key.monoK fun v H h=>h
open Go.ChangeShapes Go.WideShapes Go.ChangeAt
section
variable {H:Type} {P:Program} {L:List RoE} {n:Nat} {t e:TypeId} {cs:List AV} {d:DataW H} {a:AV}
def Xf (P:Program) (e:TypeId) (i o:Nat) (t:TypeId):Bool:=
 match P.underlying e with
 | some (.struct fs)=>match fs[i]? with
  | some f=>Nat.beq f.offset o&&Nat.beq f.type t
  | none=>false
 | _=>false
theorem G4.fld {i o:Nat} (hf:Xf P e i o t=true) (h:G4 P L (n+1) e cs d):∃ x:DataW H,G4 P L n t ((cs.drop o).take (P.cellsOf t)) x:=by
 unfold Xf at hf;split at hf
 ·rename_i fs hu;split at hf
  ·rename_i f hi;simp only [zN] at hf;obtain ⟨g1,ds,g2,g3,g4⟩:=G4.asStruct hu h;have hl:i<ds.length:=by rw [g3];exact (Array.getElem?_eq_some_iff.1 hi).1
   have:=g4 i f ds[i] hi (yO hl)
   rw [yV hf.1,yV hf.2] at this;exact ⟨_,this⟩
  ·simp at hf
 ·simp at hf
theorem G4.flen {i o:Nat} (hf:Xf P e i o t=true) (h:G4 P L (n+1) e cs d):cs.length=P.cellsOf e:=by
 unfold Xf at hf;split at hf
 ·rename_i fs hu;exact (G4.asStruct hu h).1
 ·simp at hf
theorem mR {l:List AV} {o:Nat} {v:AV} (h:(l.drop o).take 1=[v]):l[o]?=some v:=by
 have:=congrArg (fun l:List AV=>l[0]?) h
 simpa only [qL,List.getElem?_drop,List.getElem?_cons_zero,Nat.add_zero,Nat.lt_one_iff,if_true] using this
theorem G4.fldInt {i o:Nat} {k:IntKind} (hf:Xf P e i o t=true) (ht:P.underlying t=some (.int k)) (hc:P.cellsOf t=1) (h:G4 P L (n+2) e cs d):∃ x,cs[o]?=some (.int k x)∧(Lit.int k x).wf=true:=by
 obtain ⟨_,h1⟩:=G4.fld hf h;rw [hc] at h1;obtain ⟨x,e1,e2,_⟩:=G4.asInt ht h1;exact ⟨x,mR e1,e2⟩
theorem G4.fldBool {i o:Nat} (hf:Xf P e i o t=true) (ht:P.underlying t=some .bool) (hc:P.cellsOf t=1) (h:G4 P L (n+2) e cs d):∃ x,cs[o]?=some (.bool x):=by
 obtain ⟨_,h1⟩:=G4.fld hf h;rw [hc] at h1;obtain ⟨x,e1,_⟩:=G4.asBool ht h1;exact ⟨x,mR e1⟩
theorem rS {l:List AV} {o z j:Nat} (hj:j<z):((l.drop o).take z)[j]?=l[o+j]?:=by
 rw [qL,if_pos hj,List.getElem?_drop]
end
section
variable {H:Type} {L:List RoE} {a:AV} {d:DataW H} {cs:List AV}
theorem im_pls {n:Nat} (h:G4 Try.prog L (n+3) 23 [a] d):∃ k m,(∀ (ρ:Env) v,VR ρ a v→VR ρ (.slice true (.ro k) 0 m) v)∧(GL L k).length=m*2∧Q4 (GL L k) m=true∧(GL L k).all plA=true:=by
 rcases G4.asSlice (e:=40) (by kernel_rfl) h with ⟨h1,_⟩ | ⟨k,ds,sp,en,h1,h2,h3,h4,h5,h6⟩
 ·simp only [List.cons.injEq,and_true] at h1;subst h1;exact ⟨L.length,0,fun ρ v hv=>Ll _ _ hv,by rw [pM (zA1 _)];rfl,rfl,by rw [pM (zA1 _)];rfl⟩
 ·simp only [List.cons.injEq,and_true] at h1;subst h1;have hz:Try.prog.cellsOf 40=2:=by kernel_rfl
  rw [hz] at h4 h6
  have key:∀ j,j<ds.length→(∃ x,en.cells[j*2]?=some (.int .i64 x)∧(Lit.int .i64 x).wf=true)∧∃ b,en.cells[j*2+1]?=some (.bool b):=fun j hj=>by
   have h7:=h6 j ds[j] (yO hj);obtain ⟨x,e1,e2⟩:=G4.fldInt (i:=0) (o:=0) (t:=3) (k:=.i64) (by kernel_rfl) (by kernel_rfl) (by kernel_rfl) h7;obtain ⟨b,e3⟩:=G4.fldBool (i:=1) (o:=1) (t:=4) (by kernel_rfl) (by kernel_rfl) (by kernel_rfl) h7;rw [rS (by omega)] at e1 e3;exact ⟨⟨x,e1,e2⟩,b,e3⟩
  refine ⟨k,ds.length,fun ρ v hv=>T1 hv,by rw [cW h3,h4],F6.2 fun j hj=>?_,?_⟩
  ·obtain ⟨⟨x,e1,e2⟩,b,e3⟩:=key j hj;have w:=wf_i64 e2;unfold uQ xP;rw [cW h3];have g:A1 en.cells (j*2)=x:=by simp [A1,e1]
   rw [g];simp only [E5,Ak,isI,isB,e1,e3,zN,xE];exact ⟨by simp,w.1,w.2⟩
  ·rw [cW h3,xM];intro v hv;obtain ⟨j,hj⟩:=List.getElem?_of_mem hv;have hlt:j<ds.length*2:=by rw [←h4];exact (zQ.1 hj).1
   obtain ⟨⟨x,e1,_⟩,b,e3⟩:=key (j / 2) (by omega);by_cases hp:j % 2=0
   ·rw [show j / 2*2=j by omega,hj] at e1;simp only [zK] at e1;subst e1;rfl
   ·rw [show j / 2*2+1=j by omega,hj] at e3;simp only [zK] at e3;subst e3;rfl
end
end Go.Am
