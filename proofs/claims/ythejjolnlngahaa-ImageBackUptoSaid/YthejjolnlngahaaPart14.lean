/-
  Images moved: what a checked image says of its places; its data as byt Images moved: Move.
-/
import Derived.Test.YthejjolnlngahaaPart13
import Derived.Test.YthejjolnlngahaaPart9
import Derived.Test.YthejjolnlngahaaPart10
import Derived.Test.YthejjolnlngahaaBase5
import Derived.Test.YthejjolnlngahaaBase3
import Derived.Test.YthejjolnlngahaaProg
namespace Go.Am
open Go.Proofs
set_option maxRecDepth 100000
theorem Ai {s:Int} {cs ps:List AV} {n m:Nat} (h:E8 s cs n ps m=true):(n≤8∧m≤512)∧I2 (Z8 cs) n=true∧I2 (Bj cs n ps) m=true:=by
 unfold E8 at h;simp only [zN,xE] at h;exact ⟨h.1,h.2.2.1,h.2.2.2.1⟩
theorem Z4 {s:Int} {cs ps:List AV} {n m:Nat} (h:E8 s cs n ps m=true):∀ j,j<n→0≤sA cs j∧sA cs j≤8192∧sN cs j≤8192∧Rh cs j=true:=fun j hj=>by
 obtain ⟨_,h1,_⟩:=Ai h
 have:=F6.1 h1 j hj
 unfold Z8 at this;rw [zN] at this;have t:=this.1;have q:=U2.1 t;exact ⟨q.2.1.1,q.2.1.2.1,q.1.2.2,t⟩
theorem Xa {s:Int} {cs ps:List AV} {n m:Nat} (h:E8 s cs n ps m=true) (hp:Q4 ps m=true):∀ i,i<m→0≤xP ps i∧xP ps i≤8192:=fun i hi=>by
 obtain ⟨_,h1,h2⟩:=Ai h;have h2:=F6.1 h2;have o:=h2 i hi;unfold Bj at o;rw [zN] at o;have pv:=uL h1 hp (Nat.le_of_lt hi) fun j hj=>h2 j (by omega);have e1:=yL o.1;have e2:=yL o.2;obtain ⟨_,_,_,e3⟩:=S1 hp hi
 have:=oQ (h:=hP ps i) h1 ⟨by omega,e3⟩ e2
 exact ⟨by omega,this⟩
theorem mY {s:Int} {cs ps:List AV} {n m:Nat} (h:E8 s cs n ps m=true) (hp:Q4 ps m=true):∀ i,i<m→pH cs n (xP ps i) (hP ps i)∧Qj cs n (xP ps i) (hP ps i)=(C9 cs n (xP ps i) (hP ps i):Int):=fun i hi=>by
 obtain ⟨_,h1,h2⟩:=Ai h;have o:=F6.1 h2 i hi;unfold Bj at o;rw [zN] at o;have lt:=yL o.2;obtain ⟨x1,x2⟩:=Xa h hp i hi;generalize xP ps i=x at *;generalize hP ps i=b at *;obtain ⟨s1,s2,s3,_⟩:=Z4 h _ lt;have hit:=(K5 (p:=Eb cs x b) (k:=n)).2.1 lt;have hw:2≤P4 b∧P4 b≤4:=by unfold P4;split<;>omega
 unfold Eb at hit;rw [zN] at hit;have a1:=yL hit.1;have a2:=yL hit.2;have a1:sA cs (C9 cs n x b)≤x:=a1;have a2:IntKind.wrap .i64 (x - sA cs (C9 cs n x b))≤IntKind.wrap .i64 ((sN cs (C9 cs n x b):Int) - P4 b):=a2;rw [B6 (by omega),B6 (by omega)] at a2;refine ⟨⟨lt,s1,a1,x2,by omega,s3⟩,?_⟩;have e:C9 cs n x b=inN cs n x b:=cI h1 ⟨x1,by omega⟩;unfold Qj;rw [←e,if_pos lt]
def dB (G:Nat→List AV) (cs:List AV) (j:Nat):List Nat:=(N4 G cs j).map fun v=>match v with | .int _ x=>x.toNat | _=>0
def dB0 (G:Nat→List AV) (cs:List AV) (n j:Nat):List Nat:=if j<n then dB G cs j else []
theorem Oc {G:Nat→List AV} {cs:List AV} {j:Nat} {b:List Nat} (h:N4 G cs j=O2 b):dB G cs j=b:=by
 unfold dB;rw [h];unfold O2;rw [List.map_map];refine Eq.trans (List.map_congr_left (g:=id) fun x _=>?_) (List.map_id b);exact F9 x
structure T2 (G:Nat→List AV) (ks kp n m:Nat):Prop where
 sec:I6 (G ks) n=true
 pls:Q4 (G kp) m=true
 cp:cpB G ks kp n m=true
 dat:∀ j,j<n→∃ b,Ao b∧N4 G (G ks) j=O2 b
theorem Vo {G:Nat→List AV} {ks kp n m:Nat} (h:T2 G ks kp n m) (j:Nat):Ao (dB0 G (G ks) n j):=by
 unfold dB0;split
 ·rename_i hj;obtain ⟨b,h1,h2⟩:=h.dat j hj;rw [Oc h2];exact h1
 ·intro x hx;simp at hx
theorem Lj {G:Nat→List AV} {ks kp n m:Nat} (h:T2 G ks kp n m) (j:Nat) (hj:j<n):(dB0 G (G ks) n j).length=sN (G ks) j:=by
 obtain ⟨_,_,hd⟩:=Dp.1 h.cp;have hc:=(L1.1 (hd j hj)).1.1;have hc:=B2.1 hc;unfold dB0;rw [if_pos hj];unfold dB N4 A9;rw [List.length_map,List.length_take,List.length_drop]
 have:C7 (G ks) (j*4+2)=sN (G ks) j:=rfl
 omega
theorem oS {G:Nat→List AV} {ks kp n m:Nat} (h:T2 G ks kp n m):O6 G (G ks) n=A7 (dB0 G (G ks) n):=by
 unfold O6 A7;refine List.map_congr_left fun j _=>?_;congr 1;unfold dB0;split
 ·rename_i hj;obtain ⟨b,_,h2⟩:=h.dat j hj;rw [Oc h2];exact h2
 ·rfl
theorem pl_new {G:Nat→List AV} {ks kp n m:Nat} (h:T2 G ks kp n m):A9 (G kp) 0 (m*2)=G2 (xP (G kp)) (G kp) m:=by
 obtain ⟨_,hc,_⟩:=Dp.1 h.cp
 have:=B2.1 (L1.1 hc).1.1
 exact yB h.pls (by omega)
theorem mV {D:Nat→List Nat} {cs ps ps2:List AV} {n z m:Nat} (h:∀ i,i<m→xP ps i=xP ps2 i∧hP ps i=hP ps2 i):∀ i,i≤m→J7 D cs n z ps i=J7 D cs n z ps2 i
 | 0,_=>rfl
 | i+1,hi=>by
  obtain ⟨h1,h2⟩:=h i (by omega);rw [J7,J7,mV h i (by omega),h1,h2]
theorem aX4 {D:Nat→List Nat} {cs ps:List AV} {n z m:Nat}:I4 D cs n z (G2 (xP ps) ps m) m=I4 D cs n z ps m∧J7 D cs n z (G2 (xP ps) ps m) m=J7 D cs n z ps m:=by
 have h:∀ i,i<m→xP (G2 (xP ps) ps m) i=xP ps i∧hP (G2 (xP ps) ps m) i=hP ps i:=fun i hi=>by
  obtain ⟨_,_,h1,h2⟩:=Uj (f:=xP ps) (ps:=ps) hi;exact ⟨h1,h2⟩
 refine ⟨Ko fun i hi=>?_,mV h m (zA1 _)⟩;obtain ⟨h1,h2⟩:=h i hi;unfold Ie;rw [mV h i (by omega),h1,h2]
theorem cp_lay (G:Nat→List AV) (B:Nat) {f ks kp n m:Nat} {s:Int} (hb:T2 G ks kp n m) (h8:n≤8) (h:ACalls (⟨Try.prog,G,B⟩:A0) f [.agg [.int .i64 s,.slice true (.ro ks) 0 n,.slice true (.ro kp) 0 m]] [] fun v H'=>v=.agg [.int .i64 s,.slice true (.rw 0) 0 n,.slice true (.rw 1) 0 m]∧H'=Gr G ks kp n m 2):ACalls (⟨Try.prog,G,B⟩:A0) f [.agg [.int .i64 s,.slice true (.ro ks) 0 n,.slice true (.ro kp) 0 m]] [some ⟨1,[.int .i64 s,.slice true (.ro ks) 0 n,.slice true (.ro kp) 0 m]⟩,some ⟨1,[.int .i64 0,.nils,.nils]⟩] (Ju G [some ⟨1,[.int .i64 s,.slice true (.ro ks) 0 n,.slice true (.ro kp) 0 m]⟩,some ⟨1,[.int .i64 0,.nils,.nils]⟩] (.one (.agg (.of [.int .i64 (.var 1 s),.slice true (.rw 2) (.lit 0) (.var 3 n),.slice true (.rw 3) (.lit 0) (.var 4 m)])) [.new ⟨4,.var 21 (D2 (G ks) n (dW 4 (G ks)))⟩,.new ⟨2,.var 7 (G2 (xP (G kp)) (G kp) m)⟩,.new ⟨1,.row (.var 22 (A7 (dB0 G (G ks) n))) (.lit 0)⟩,.new ⟨1,.row (.var 22 (A7 (dB0 G (G ks) n))) (.lit 1)⟩,.new ⟨1,.row (.var 22 (A7 (dB0 G (G ks) n))) (.lit 2)⟩,.new ⟨1,.row (.var 22 (A7 (dB0 G (G ks) n))) (.lit 3)⟩,.new ⟨1,.row (.var 22 (A7 (dB0 G (G ks) n))) (.lit 4)⟩,.new ⟨1,.row (.var 22 (A7 (dB0 G (G ks) n))) (.lit 5)⟩,.new ⟨1,.row (.var 22 (A7 (dB0 G (G ks) n))) (.lit 6)⟩,.new ⟨1,.row (.var 22 (A7 (dB0 G (G ks) n))) (.lit 7)⟩])):=by
 have hbn:H9 (Gr G ks kp n m 2).length (Gr G ks kp n m 2)=true:=by
  rw [Ql];obtain ⟨_,hc,hd⟩:=Dp.1 hb.cp;refine fE fun i b hi=>?_
  match i with
  | 0=>
   obtain rfl:=Option.some.inj (Option.some.inj hi)
   exact Pq fun j hj=>by
    show decide (2+j<10)=true;exact yM (by omega)
  | 1=>
   obtain rfl:=Option.some.inj (Option.some.inj hi);exact G6 (zA2 _) _ (L1.1 hc).2.2
  | j+2=>
   unfold Gr at hi;rw [xN (by simp)] at hi
   have hj:j<8:=by
    have:=(zQ.1 hi).1
    rw [Ar] at this;simpa using this
   have hi:(Ax (O6 G (G ks) n))[j]?=some (some b):=hi;rw [Lx hj] at hi;obtain rfl:=Option.some.inj (Option.some.inj hi);rw [oS hb];exact Ly hj
 refine E0.fr (C:=(⟨Try.prog,G,B⟩:A0)) (args:=[.agg (.of [.int .i64 (.var 1 s),.slice true (.ro (.var 24 ks)) (.lit 0) (.var 3 n),.slice true (.ro (.var 25 kp)) (.lit 0) (.var 4 m)])]) (H:=[some ⟨1,.of [.int .i64 (.var 1 s),.slice true (.ro (.var 24 ks)) (.lit 0) (.var 3 n),.slice true (.ro (.var 25 kp)) (.lit 0) (.var 4 m)]⟩,some ⟨1,.of [.int .i64 (.lit 0),.nils,.nils]⟩]) (v:=.agg (.of [.int .i64 (.var 1 s),.slice true (.rw 2) (.lit 0) (.var 3 n),.slice true (.rw 3) (.lit 0) (.var 4 m)])) (hs:=[.new ⟨4,.var 21 (D2 (G ks) n (dW 4 (G ks)))⟩,.new ⟨2,.var 7 (G2 (xP (G kp)) (G kp) m)⟩,.new ⟨1,.row (.var 22 (A7 (dB0 G (G ks) n))) (.lit 0)⟩,.new ⟨1,.row (.var 22 (A7 (dB0 G (G ks) n))) (.lit 1)⟩,.new ⟨1,.row (.var 22 (A7 (dB0 G (G ks) n))) (.lit 2)⟩,.new ⟨1,.row (.var 22 (A7 (dB0 G (G ks) n))) (.lit 3)⟩,.new ⟨1,.row (.var 22 (A7 (dB0 G (G ks) n))) (.lit 4)⟩,.new ⟨1,.row (.var 22 (A7 (dB0 G (G ks) n))) (.lit 5)⟩,.new ⟨1,.row (.var 22 (A7 (dB0 G (G ks) n))) (.lit 6)⟩,.new ⟨1,.row (.var 22 (A7 (dB0 G (G ks) n))) (.lit 7)⟩]) (θ:=[]) (H0:=[]) (H1:=Gr G ks kp n m 2) (by simp) rfl (fun i b hi=>by simp at hi) rfl rfl h (zA2 _) ?_ hbn ?_ ?_
 ·rw [Ql];rfl
 ·rw [Ql];rfl
 ·rw [show X3 [] (B7 G [some ⟨1,.of [.int .i64 (.var 1 s),.slice true (.ro (.var 24 ks)) (.lit 0) (.var 3 n),.slice true (.ro (.var 25 kp)) (.lit 0) (.var 4 m)]⟩,some ⟨1,.of [.int .i64 (.lit 0),.nils,.nils]⟩]) (Gr G ks kp n m 2)=B7 G [some ⟨1,.of [.int .i64 (.var 1 s),.slice true (.ro (.var 24 ks)) (.lit 0) (.var 3 n),.slice true (.ro (.var 25 kp)) (.lit 0) (.var 4 m)]⟩,some ⟨1,.of [.int .i64 (.lit 0),.nils,.nils]⟩]++(Gr G ks kp n m 2).map (R9 (N7 [] 2 ((Gr G ks kp n m 2).length - 0))) from rfl,Ql]
  have e:(Gr G ks kp n m 2).map (R9 (N7 [] 2 (10 - 0)))=[some ⟨4,(D2 (G ks) n (dW 4 (G ks)))⟩,some ⟨2,(G2 (xP (G kp)) (G kp) m)⟩]++Ax (A7 (dB0 G (G ks) n)):=by
   unfold Gr;rw [List.map_append,oS hb,pl_new hb]
   have e1:rens (N7 [] 2 10) (D2 (G ks) n (dW 2 (G ks)))=(D2 (G ks) n (dW 4 (G ks))):=by
    rw [dM];refine Iz fun j hj=>?_
    have:(N7 [] 2 10).getD (2+j) 0=2+(2+j):=Fo (g:=(2+·)) (by omega)
    simp only [dW,C0,this];rw [show 2+(2+j)=4+j by omega]
   have e2:rens (N7 [] 2 10) (G2 (xP (G kp)) (G kp) m)=(G2 (xP (G kp)) (G kp) m):=B9 _ _ Hs
   have e3:(Ax (A7 (dB0 G (G ks) n))).map (R9 (N7 [] 2 10))=Ax (A7 (dB0 G (G ks) n)):=by
    unfold Ax;rw [List.map_map];refine List.map_congr_left fun j hj=>?_;show some (⟨1,rens (N7 [] 2 10) (A4 (A7 (dB0 G (G ks) n)) j)⟩:Blk)=some ⟨1,A4 (A7 (dB0 G (G ks) n)) j⟩;rw [B9 _ _ (Ly (List.mem_range.1 hj))]
   show [some (⟨4,rens (N7 [] 2 10) (D2 (G ks) n (dW 2 (G ks)))⟩:Blk),some ⟨2,rens (N7 [] 2 10) (G2 (xP (G kp)) (G kp) m)⟩]++(Ax (A7 (dB0 G (G ks) n))).map (R9 (N7 [] 2 10))=_;rw [e1,e2,e3]
  rw [e];rfl
theorem tmodz {z:Nat}:((Int.tmod (z:Int) 256:Int)==0)=decide (z % 256=0):=by
 rw [Int.tmod_eq_emod_of_nonneg (by omega),Bool.eq_iff_iff,beq_iff_eq,decide_eq_true_iff];omega
theorem tM {n:Nat}:∀ {a b:List AV},wk a b→A3 n a=true→fv n a b
 | [],[],_,_=>trivial
 | [],y::b,h,_=>by simp [wk] at h
 | x::a,[],h,_=>by cases x<;>simp [wk] at h
 | x::a,y::b,h,hb=>by
  simp only [A3,zN] at hb;by_cases hx:x=.undef
  ·subst hx;have h:wk a b:=h;show fv n a b;exact tM h hb.2
  ·have h2:y=x∧wk a b:=by cases x<;>first | exact absurd rfl hx | exact h
   obtain ⟨rfl,h2⟩:=h2
   have:=tM h2 hb.2
   cases y<;>first | exact absurd rfl hx | exact ⟨⟨hb.1,rfl⟩,this⟩
theorem aX2 (G:Nat→List AV) (B:Nat) (ks kp kS kP n m z:Nat) (s:Int) (kd:Nat→Nat) (hb:T2 G ks kp n m) (hn:n≤1000000) (hm:m≤1000000) (hD:∀ q,q<8→G (kd q)=O2 (J7 (dB0 G (G ks) n) (G ks) n z (G kp) m q)) (hS:G kS=Q3 (shS (G ks) z n) (G ks) n (dK kd (G ks))) (hP:G kP=(G2 (shF (G kp) z m) (G kp) m)):ACalls (⟨Try.prog,G,B⟩:A0) 13 [.agg [.int .i64 s,.slice true (.ro ks) 0 n,.slice true (.ro kp) 0 m],.int .i64 (z:Int)] [] fun v _=>v=.tup (if ((E8 s (G ks) n (G kp) m&&(decide (z≤8192)&&decide (z % 256=0)))&&((decide (I4 (dB0 G (G ks) n) (G ks) n z (G kp) m=m))&&(E8 (IntKind.wrap .i64 (s+(z:Int))) (G kS) n (G kP) m)))=true then [.agg [.int .i64 (IntKind.wrap .i64 (s+(z:Int))),.slice true (.ro kS) 0 n,.slice true (.ro kP) 0 m],.int .i64 0] else [.agg [.int .i64 0,.nils,.nils],.int .i64 2]):=by
 have u1:S5 [.agg (G ks),.int .i64 (n:Int)]=true:=L9.2 ⟨hb.sec,hn⟩;have u2:Jr [.agg (G kp),.int .i64 (m:Int)]=true:=Z3.2 ⟨hb.pls,hm⟩
 have c20:ACalls (⟨Try.prog,G,B⟩:A0) 20 [.agg [.int .i64 s,.slice true (.ro ks) 0 n,.slice true (.ro kp) 0 m]] [some ⟨1,[.int .i64 s,.slice true (.ro ks) 0 n,.slice true (.ro kp) 0 m]⟩,some ⟨1,[.int .i64 0,.nils,.nils]⟩] (Ju G [some ⟨1,[.int .i64 s,.slice true (.ro ks) 0 n,.slice true (.ro kp) 0 m]⟩,some ⟨1,[.int .i64 0,.nils,.nils]⟩] (.one (.int .i64 (.var 28 (N5 s (G ks) n (G kp) m))) [])):=
  E0.ro0 (C:=(⟨Try.prog,G,B⟩:A0)) (args:=[.agg (.of [.int .i64 (.var 1 s),.slice true (.ro (.var 24 ks)) (.lit 0) (.var 3 n),.slice true (.ro (.var 25 kp)) (.lit 0) (.var 4 m)])]) (H:=[some ⟨1,.of [.int .i64 (.var 1 s),.slice true (.ro (.var 24 ks)) (.lit 0) (.var 3 n),.slice true (.ro (.var 25 kp)) (.lit 0) (.var 4 m)]⟩,some ⟨1,.of [.int .i64 (.lit 0),.nils,.nils]⟩]) (v:=.int .i64 (.var 28 (N5 s (G ks) n (G kp) m))) (ACalls.drop0 (v0:=.int .i64 (N5 s (G ks) n (G kp) m)) (Gv G B ks n kp m s u1 u2) rfl (by simp)) rfl rfl
 by_cases go:E8 s (G ks) n (G kp) m=true∧z≤8192
 ·obtain ⟨go,hz⟩:=go;obtain ⟨⟨h8,h5⟩,_⟩:=Ai go;have sec:=Z4 go;have spot:=mY go hb.pls;have hx:=Xa go hb.pls
  have c33:ACalls (⟨Try.prog,G,B⟩:A0) 33 [.agg [.int .i64 s,.slice true (.ro ks) 0 n,.slice true (.ro kp) 0 m]] [some ⟨1,[.int .i64 s,.slice true (.ro ks) 0 n,.slice true (.ro kp) 0 m]⟩,some ⟨1,[.int .i64 0,.nils,.nils]⟩] (Ju G [some ⟨1,[.int .i64 s,.slice true (.ro ks) 0 n,.slice true (.ro kp) 0 m]⟩,some ⟨1,[.int .i64 0,.nils,.nils]⟩] (.one (.agg (.of [.int .i64 (.var 1 s),.slice true (.rw 2) (.lit 0) (.var 3 n),.slice true (.rw 3) (.lit 0) (.var 4 m)])) [.new ⟨4,.var 21 (D2 (G ks) n (dW 4 (G ks)))⟩,.new ⟨2,.var 7 (G2 (xP (G kp)) (G kp) m)⟩,.new ⟨1,.row (.var 22 (A7 (dB0 G (G ks) n))) (.lit 0)⟩,.new ⟨1,.row (.var 22 (A7 (dB0 G (G ks) n))) (.lit 1)⟩,.new ⟨1,.row (.var 22 (A7 (dB0 G (G ks) n))) (.lit 2)⟩,.new ⟨1,.row (.var 22 (A7 (dB0 G (G ks) n))) (.lit 3)⟩,.new ⟨1,.row (.var 22 (A7 (dB0 G (G ks) n))) (.lit 4)⟩,.new ⟨1,.row (.var 22 (A7 (dB0 G (G ks) n))) (.lit 5)⟩,.new ⟨1,.row (.var 22 (A7 (dB0 G (G ks) n))) (.lit 6)⟩,.new ⟨1,.row (.var 22 (A7 (dB0 G (G ks) n))) (.lit 7)⟩])):=cp_lay G B hb h8 (bA5 G B ks kp n m s hb.cp h8)
  have c36:ACalls (⟨Try.prog,G,B⟩:A0) 36 [.agg [.int .i64 s,.slice true (.rw 2) 0 n,.slice true (.rw 3) 0 m],.int .i64 (z:Int)] (hpZ [.int .i64 s,.slice true (.ro ks) 0 n,.slice true (.ro kp) 0 m] [.int .i64 0,.nils,.nils] (D2 (G ks) n (dK kd (G ks))) (G2 (xP (G kp)) (G kp) m) [.int .i64 s,.slice true (.rw 2) 0 n,.slice true (.rw 3) 0 m]) (Ju G (hpZ [.int .i64 s,.slice true (.ro ks) 0 n,.slice true (.ro kp) 0 m] [.int .i64 0,.nils,.nils] (D2 (G ks) n (dK kd (G ks))) (G2 (xP (G kp)) (G kp) m) [.int .i64 s,.slice true (.rw 2) 0 n,.slice true (.rw 3) 0 m]) (.tst (.var 11 (E8 (IntKind.wrap .i64 (s+(z:Int))) (G kS) n (G kP) m)) (.one (.tup [(.agg (.of [.int .i64 (.var 14 (IntKind.wrap .i64 (s+(z:Int)))),.slice true (.ro (.var 26 kS)) (.lit 0) (.var 3 n),.slice true (.ro (.var 27 kP)) (.lit 0) (.var 4 m)])),.int .i64 (.lit 0)]) [.set 12 ⟨1,.of [.int .i64 (.var 1 s),.slice true (.ro (.var 26 kS)) (.lit 0) (.var 3 n),.slice true (.ro (.var 27 kP)) (.lit 0) (.var 4 m)]⟩,.app 2 ⟨1,.of []⟩,.app 3 ⟨1,.of []⟩]) (.one (.tup [(.agg (.of [.int .i64 (.lit 0),.nils,.nils])),.int .i64 (.lit 2)]) [.set 12 ⟨1,.of [.int .i64 (.var 1 s),.slice true (.ro (.var 26 kS)) (.lit 0) (.var 3 n),.slice true (.ro (.var 27 kP)) (.lit 0) (.var 4 m)]⟩,.app 2 ⟨1,.of []⟩,.app 3 ⟨1,.of []⟩]))):=by
   refine (aX6 G B ks kp kS kP n m z s kd h8 (by omega) (fun j hj=>⟨(sec j hj).1,(sec j hj).2.1⟩) hx hz hS hP).monoK ?_;rintro v H' ⟨rfl,rfl⟩;show ((E8 (IntKind.wrap .i64 (s+(z:Int))) (G kS) n (G kP) m)=true∧_)∨((E8 (IntKind.wrap .i64 (s+(z:Int))) (G kS) n (G kP) m)=false∧_);cases e:(E8 (IntKind.wrap .i64 (s+(z:Int))) (G kS) n (G kP) m) with
   | true=>exact .inl ⟨rfl,rfl,rfl⟩
   | false=>exact .inr ⟨rfl,rfl,rfl⟩
  have lp:=mv_lp G B [.int .i64 s,.slice true (.ro ks) 0 n,.slice true (.ro kp) 0 m] (G ks) (G2 (xP (G kp)) (G kp) m) (dB0 G (G ks) n) n m z s (by omega) hz h8 (Vo hb) (Lj hb) rfl Hs hb.sec (fun i hi=>by
   obtain ⟨p1,p2,p3,p4⟩:=Uj (f:=xP (G kp)) (ps:=(G kp)) hi;rw [p3,p4]
   exact ⟨p1,p2,(spot i hi).1⟩)
  have eP:I4 (dB0 G (G ks) n) (G ks) n z (G2 (xP (G kp)) (G kp) m) m=I4 (dB0 G (G ks) n) (G ks) n z (G kp) m∧J7 (dB0 G (G ks) n) (G ks) n z (G2 (xP (G kp)) (G kp) m) m=J7 (dB0 G (G ks) n) (G ks) n z (G kp) m:=aX4;rw [eP.1,eP.2] at lp
  have l0:H5 (⟨Try.prog,G,B⟩:A0) 0 (A2 Try.f13 0) (D6 1833 (D9 [.int .i64 (z:Int),.ptr (.rw 1) 0,.int .i64 0,.ptr (.rw 12) 0,.slice true (.rw 3) 0 m,.int .i64 (m:Int),.int .i64 0] (Hz [.int .i64 s,.slice true (.ro ks) 0 n,.slice true (.ro kp) 0 m] [.int .i64 0,.nils,.nils] (D2 (G ks) n (dW 4 (G ks))) (G2 (xP (G kp)) (G kp) m) (A7 (dB0 G (G ks) n)) [.int .i64 s,.slice true (.rw 2) 0 n,.slice true (.rw 3) 0 m])) 0 108 [1,4,5,7,36,37,38] (.tst (.var 10 (decide (I4 (dB0 G (G ks) n) (G ks) n z (G kp) m=m))) (.one (.exit 0) [.int .i64 (.var 2 (z:Int)),.ptr (.rw 1) (.lit 0),.int .i64 (.lit 0),.ptr (.rw 12) (.lit 0),.undef,.undef,.undef] [some ⟨1,.of [.int .i64 (.var 1 s),.slice true (.ro (.var 24 ks)) (.lit 0) (.var 3 n),.slice true (.ro (.var 25 kp)) (.lit 0) (.var 4 m)]⟩,some ⟨1,.of [.int .i64 (.lit 0),.nils,.nils]⟩,some ⟨4,.var 23 (D2 (G ks) n (dK kd (G ks)))⟩,some ⟨2,.var 7 (G2 (xP (G kp)) (G kp) m)⟩,none,none,none,none,none,none,none,none,some ⟨1,.of [.int .i64 (.var 1 s),.slice true (.rw 2) (.lit 0) (.var 3 n),.slice true (.rw 3) (.lit 0) (.var 4 m)]⟩]) (.one .ret [.undef,.ptr (.rw 1) (.lit 0),.int .i64 (.lit 2),.undef,.undef,.undef,.undef] [some ⟨1,.of [.int .i64 (.var 1 s),.slice true (.ro (.var 24 ks)) (.lit 0) (.var 3 n),.slice true (.ro (.var 25 kp)) (.lit 0) (.var 4 m)]⟩,some ⟨1,.of [.int .i64 (.lit 0),.nils,.nils]⟩]))):=by
   refine P1 rfl (AWp.pin (zA2 13) ?_);by_cases hf:I4 (dB0 G (G ks) n) (G ks) n z (G kp) m=m
   ·refine (AWp.frz8 G B (b0:=[.int .i64 s,.slice true (.ro ks) 0 n,.slice true (.ro kp) 0 m]) (b1:=[.int .i64 0,.nils,.nils]) (cs:=(G ks)) (pl:=(G2 (xP (G kp)) (G kp) m)) (b12:=[.int .i64 s,.slice true (.rw 2) 0 n,.slice true (.rw 3) 0 m]) (D:=J7 (dB0 G (G ks) n) (G ks) n z (G kp) m) (n:=n) (kd:=kd) (ex:=.exit 0) (vs0:=[.int .i64 (z:Int),.ptr (.rw 1) 0,.int .i64 0,.ptr (.rw 12) 0,.undef,.undef,.undef]) h8 rfl rfl Hs rfl (fun q k hq=>?_) hD (lp.lmono ?_)).lmono ?_
    ·simp only [fzs,fz,pD (show 1≠4+q by omega),pD (show 12≠4+q by omega),cond_false]
    ·rintro e vs H (⟨h1,_⟩ | ⟨_,h2,h3,h4⟩)
     ·omega
     ·exact ⟨h2,h3,h4⟩
    ·rintro e vs H ⟨rfl,h2,rfl⟩;exact .inl ⟨yM hf,rfl,.inl ⟨h2,rfl⟩⟩
   ·refine lp.lmono ?_;rintro e vs H (⟨_,rfl,h3,Y,rfl⟩ | ⟨h1,_⟩)
    ·refine .inr ⟨yR hf,rfl,.inr (C2.same (zA2 _) rfl ?_)⟩;exact tM h3 rfl
    ·exact absurd h1 hf
  have good:L6 (⟨Try.prog,G,B⟩:A0) (Df Try.prog [] [] [(20,Ee 1831 (D9 [.agg [.int .i64 s,.slice true (.ro ks) 0 n,.slice true (.ro kp) 0 m]] [some ⟨1,[.int .i64 s,.slice true (.ro ks) 0 n,.slice true (.ro kp) 0 m]⟩,some ⟨1,[.int .i64 0,.nils,.nils]⟩]) (.one (.int .i64 (.var 28 (N5 s (G ks) n (G kp) m))) [])),(33,Ee 1832 (D9 [.agg [.int .i64 s,.slice true (.ro ks) 0 n,.slice true (.ro kp) 0 m]] [some ⟨1,[.int .i64 s,.slice true (.ro ks) 0 n,.slice true (.ro kp) 0 m]⟩,some ⟨1,[.int .i64 0,.nils,.nils]⟩]) (.one (.agg (.of [.int .i64 (.var 1 s),.slice true (.rw 2) (.lit 0) (.var 3 n),.slice true (.rw 3) (.lit 0) (.var 4 m)])) [.new ⟨4,.var 21 (D2 (G ks) n (dW 4 (G ks)))⟩,.new ⟨2,.var 7 (G2 (xP (G kp)) (G kp) m)⟩,.new ⟨1,.row (.var 22 (A7 (dB0 G (G ks) n))) (.lit 0)⟩,.new ⟨1,.row (.var 22 (A7 (dB0 G (G ks) n))) (.lit 1)⟩,.new ⟨1,.row (.var 22 (A7 (dB0 G (G ks) n))) (.lit 2)⟩,.new ⟨1,.row (.var 22 (A7 (dB0 G (G ks) n))) (.lit 3)⟩,.new ⟨1,.row (.var 22 (A7 (dB0 G (G ks) n))) (.lit 4)⟩,.new ⟨1,.row (.var 22 (A7 (dB0 G (G ks) n))) (.lit 5)⟩,.new ⟨1,.row (.var 22 (A7 (dB0 G (G ks) n))) (.lit 6)⟩,.new ⟨1,.row (.var 22 (A7 (dB0 G (G ks) n))) (.lit 7)⟩])),(36,Ee 1834 (D9 [.agg [.int .i64 s,.slice true (.rw 2) 0 n,.slice true (.rw 3) 0 m],.int .i64 (z:Int)] (hpZ [.int .i64 s,.slice true (.ro ks) 0 n,.slice true (.ro kp) 0 m] [.int .i64 0,.nils,.nils] (D2 (G ks) n (dK kd (G ks))) (G2 (xP (G kp)) (G kp) m) [.int .i64 s,.slice true (.rw 2) 0 n,.slice true (.rw 3) 0 m])) (.tst (.var 11 (E8 (IntKind.wrap .i64 (s+(z:Int))) (G kS) n (G kP) m)) (.one (.tup [(.agg (.of [.int .i64 (.var 14 (IntKind.wrap .i64 (s+(z:Int)))),.slice true (.ro (.var 26 kS)) (.lit 0) (.var 3 n),.slice true (.ro (.var 27 kP)) (.lit 0) (.var 4 m)])),.int .i64 (.lit 0)]) [.set 12 ⟨1,.of [.int .i64 (.var 1 s),.slice true (.ro (.var 26 kS)) (.lit 0) (.var 3 n),.slice true (.ro (.var 27 kP)) (.lit 0) (.var 4 m)]⟩,.app 2 ⟨1,.of []⟩,.app 3 ⟨1,.of []⟩]) (.one (.tup [(.agg (.of [.int .i64 (.lit 0),.nils,.nils])),.int .i64 (.lit 2)]) [.set 12 ⟨1,.of [.int .i64 (.var 1 s),.slice true (.ro (.var 26 kS)) (.lit 0) (.var 3 n),.slice true (.ro (.var 27 kP)) (.lit 0) (.var 4 m)]⟩,.app 2 ⟨1,.of []⟩,.app 3 ⟨1,.of []⟩])))] [D6 1833 (D9 [.int .i64 (z:Int),.ptr (.rw 1) 0,.int .i64 0,.ptr (.rw 12) 0,.slice true (.rw 3) 0 m,.int .i64 (m:Int),.int .i64 0] (Hz [.int .i64 s,.slice true (.ro ks) 0 n,.slice true (.ro kp) 0 m] [.int .i64 0,.nils,.nils] (D2 (G ks) n (dW 4 (G ks))) (G2 (xP (G kp)) (G kp) m) (A7 (dB0 G (G ks) n)) [.int .i64 s,.slice true (.rw 2) 0 n,.slice true (.rw 3) 0 m])) 0 108 [1,4,5,7,36,37,38] (.tst (.var 10 (decide (I4 (dB0 G (G ks) n) (G ks) n z (G kp) m=m))) (.one (.exit 0) [.int .i64 (.var 2 (z:Int)),.ptr (.rw 1) (.lit 0),.int .i64 (.lit 0),.ptr (.rw 12) (.lit 0),.undef,.undef,.undef] [some ⟨1,.of [.int .i64 (.var 1 s),.slice true (.ro (.var 24 ks)) (.lit 0) (.var 3 n),.slice true (.ro (.var 25 kp)) (.lit 0) (.var 4 m)]⟩,some ⟨1,.of [.int .i64 (.lit 0),.nils,.nils]⟩,some ⟨4,.var 23 (D2 (G ks) n (dK kd (G ks)))⟩,some ⟨2,.var 7 (G2 (xP (G kp)) (G kp) m)⟩,none,none,none,none,none,none,none,none,some ⟨1,.of [.int .i64 (.var 1 s),.slice true (.rw 2) (.lit 0) (.var 3 n),.slice true (.rw 3) (.lit 0) (.var 4 m)]⟩]) (.one .ret [.undef,.ptr (.rw 1) (.lit 0),.int .i64 (.lit 2),.undef,.undef,.undef,.undef] [some ⟨1,.of [.int .i64 (.var 1 s),.slice true (.ro (.var 24 ks)) (.lit 0) (.var 3 n),.slice true (.ro (.var 25 kp)) (.lit 0) (.var 4 m)]⟩,some ⟨1,.of [.int .i64 (.lit 0),.nils,.nils]⟩]))] 0) (B5 (C6 Try.f13)):=by
   rw [show B5 (C6 Try.f13)=[A2 Try.f13 0,A2 Try.f13 1,A2 Try.f13 2] by kernel_rfl];exact Bm (K6 G B) (by kernel_rfl) (.cons (Lw rfl c20) (.cons (Lw rfl c33) (.cons (Lw rfl c36) .nil))) (.cons (i:=0) (by kernel_rfl) rfl l0 (.miss (i:=2) (by kernel_rfl) rfl (.miss (i:=4) (by kernel_rfl) rfl .nil)))
  have key:=C1 (C:=(⟨Try.prog,G,B⟩:A0)) (R:=fun v _=>v=.tup (if ((E8 s (G ks) n (G kp) m&&(decide (z≤8192)&&decide (z % 256=0)))&&((decide (I4 (dB0 G (G ks) n) (G ks) n z (G kp) m=m))&&(E8 (IntKind.wrap .i64 (s+(z:Int))) (G kS) n (G kP) m)))=true then [.agg [.int .i64 (IntKind.wrap .i64 (s+(z:Int))),.slice true (.ro kS) 0 n,.slice true (.ro kP) 0 m],.int .i64 0] else [.agg [.int .i64 0,.nils,.nils],.int .i64 2])) good (fuel:=500) (n0:=20) (f:=13) (fn:=Try.f13) (args:=[.agg (.of [.int .i64 (.var 1 s),.slice true (.ro (.var 24 ks)) (.lit 0) (.var 3 n),.slice true (.ro (.var 25 kp)) (.lit 0) (.var 4 m)]),.int .i64 (.var 2 (z:Int))]) (H:=[]) (keep:=0) (by kernel_rfl) (by kernel_rfl) (by kernel_rfl) (by
   rw [mv_c,tmodz];have no:∀ b:Bool,b=false→(AV.tup [.agg [.int .i64 0,.nils,.nils],.int .i64 2]:AV)=.tup (if b=true then [.agg [.int .i64 (IntKind.wrap .i64 (s+(z:Int))),.slice true (.ro kS) 0 n,.slice true (.ro kP) 0 m],.int .i64 0] else [.agg [.int .i64 0,.nils,.nils],.int .i64 2]):=fun b hb=>by rw [hb];rfl
   have yes:∀ b:Bool,b=true→(AV.tup [.agg [.int .i64 (IntKind.wrap .i64 (s+(z:Int))),.slice true (.ro kS) 0 n,.slice true (.ro kP) 0 m],.int .i64 0]:AV)=.tup (if b=true then [.agg [.int .i64 (IntKind.wrap .i64 (s+(z:Int))),.slice true (.ro kS) 0 n,.slice true (.ro kP) 0 m],.int .i64 0] else [.agg [.int .i64 0,.nils,.nils],.int .i64 2]):=fun b hb=>by rw [hb];rfl
   refine ⟨C5,fun _=>⟨fun h1=>absurd (yL h1) (by omega),fun _=>⟨fun h1=>absurd (yL h1) (by omega),fun _=>⟨fun h3=>⟨C5,C5,fun f1=>⟨C5,fun m1=>yes _ ?_,fun m2=>no _ ?_⟩,fun f2=>no _ ?_⟩,fun h3=>no _ ?_⟩⟩⟩,fun h=>absurd h ?_⟩
   ·rw [go,yM hz,h3,f1,m1];rfl
   ·rw [m2,Bool.and_false,Bool.and_false]
   ·rw [f2,Bool.false_and,Bool.and_false]
   ·rw [h3,Bool.and_false,Bool.and_false,Bool.false_and]
   ·unfold N5;rw [if_pos go];decide)
  exact key.monoK fun v H h=>h
 ·have eno:(E8 s (G ks) n (G kp) m&&(decide (z≤8192)&&decide (z % 256=0)))=false:=by
   cases e1:E8 s (G ks) n (G kp) m with
   | false=>rfl
   | true=>
    have:¬z≤8192:=fun h=>go ⟨e1,h⟩
    rw [yR this];rfl
  have good:L6 (⟨Try.prog,G,B⟩:A0) (Df Try.prog [] [] [(20,Ee 1831 (D9 [.agg [.int .i64 s,.slice true (.ro ks) 0 n,.slice true (.ro kp) 0 m]] [some ⟨1,[.int .i64 s,.slice true (.ro ks) 0 n,.slice true (.ro kp) 0 m]⟩,some ⟨1,[.int .i64 0,.nils,.nils]⟩]) (.one (.int .i64 (.var 28 (N5 s (G ks) n (G kp) m))) [])),(33,Ee 1832 (fun _=>false) (.one (.agg (.of [.int .i64 (.var 1 s),.slice true (.rw 2) (.lit 0) (.var 3 n),.slice true (.rw 3) (.lit 0) (.var 4 m)])) [.new ⟨4,.var 21 (D2 (G ks) n (dW 4 (G ks)))⟩,.new ⟨2,.var 7 (G2 (xP (G kp)) (G kp) m)⟩,.new ⟨1,.row (.var 22 (A7 (dB0 G (G ks) n))) (.lit 0)⟩,.new ⟨1,.row (.var 22 (A7 (dB0 G (G ks) n))) (.lit 1)⟩,.new ⟨1,.row (.var 22 (A7 (dB0 G (G ks) n))) (.lit 2)⟩,.new ⟨1,.row (.var 22 (A7 (dB0 G (G ks) n))) (.lit 3)⟩,.new ⟨1,.row (.var 22 (A7 (dB0 G (G ks) n))) (.lit 4)⟩,.new ⟨1,.row (.var 22 (A7 (dB0 G (G ks) n))) (.lit 5)⟩,.new ⟨1,.row (.var 22 (A7 (dB0 G (G ks) n))) (.lit 6)⟩,.new ⟨1,.row (.var 22 (A7 (dB0 G (G ks) n))) (.lit 7)⟩])),(36,Ee 1834 (fun _=>false) (.tst (.var 11 (E8 (IntKind.wrap .i64 (s+(z:Int))) (G kS) n (G kP) m)) (.one (.tup [(.agg (.of [.int .i64 (.var 14 (IntKind.wrap .i64 (s+(z:Int)))),.slice true (.ro (.var 26 kS)) (.lit 0) (.var 3 n),.slice true (.ro (.var 27 kP)) (.lit 0) (.var 4 m)])),.int .i64 (.lit 0)]) [.set 12 ⟨1,.of [.int .i64 (.var 1 s),.slice true (.ro (.var 26 kS)) (.lit 0) (.var 3 n),.slice true (.ro (.var 27 kP)) (.lit 0) (.var 4 m)]⟩,.app 2 ⟨1,.of []⟩,.app 3 ⟨1,.of []⟩]) (.one (.tup [(.agg (.of [.int .i64 (.lit 0),.nils,.nils])),.int .i64 (.lit 2)]) [.set 12 ⟨1,.of [.int .i64 (.var 1 s),.slice true (.ro (.var 26 kS)) (.lit 0) (.var 3 n),.slice true (.ro (.var 27 kP)) (.lit 0) (.var 4 m)]⟩,.app 2 ⟨1,.of []⟩,.app 3 ⟨1,.of []⟩])))] [D6 1833 (fun _=>false) 0 108 [1,4,5,7,36,37,38] (.tst (.var 10 (decide (I4 (dB0 G (G ks) n) (G ks) n z (G kp) m=m))) (.one (.exit 0) [.int .i64 (.var 2 (z:Int)),.ptr (.rw 1) (.lit 0),.int .i64 (.lit 0),.ptr (.rw 12) (.lit 0),.undef,.undef,.undef] [some ⟨1,.of [.int .i64 (.var 1 s),.slice true (.ro (.var 24 ks)) (.lit 0) (.var 3 n),.slice true (.ro (.var 25 kp)) (.lit 0) (.var 4 m)]⟩,some ⟨1,.of [.int .i64 (.lit 0),.nils,.nils]⟩,some ⟨4,.var 23 (D2 (G ks) n (dK kd (G ks)))⟩,some ⟨2,.var 7 (G2 (xP (G kp)) (G kp) m)⟩,none,none,none,none,none,none,none,none,some ⟨1,.of [.int .i64 (.var 1 s),.slice true (.rw 2) (.lit 0) (.var 3 n),.slice true (.rw 3) (.lit 0) (.var 4 m)]⟩]) (.one .ret [.undef,.ptr (.rw 1) (.lit 0),.int .i64 (.lit 2),.undef,.undef,.undef,.undef] [some ⟨1,.of [.int .i64 (.var 1 s),.slice true (.ro (.var 24 ks)) (.lit 0) (.var 3 n),.slice true (.ro (.var 25 kp)) (.lit 0) (.var 4 m)]⟩,some ⟨1,.of [.int .i64 (.lit 0),.nils,.nils]⟩]))] 0) (B5 (C6 Try.f13)):=by
   rw [show B5 (C6 Try.f13)=[A2 Try.f13 0,A2 Try.f13 1,A2 Try.f13 2] by kernel_rfl];exact Bm (K6 G B) (by kernel_rfl) (.cons (Lw rfl c20) (.cons Ua (.cons Ua .nil))) (.cons (i:=0) (by kernel_rfl) rfl Xx (.miss (i:=2) (by kernel_rfl) rfl (.miss (i:=4) (by kernel_rfl) rfl .nil)))
  have key:=C1 (C:=(⟨Try.prog,G,B⟩:A0)) (R:=fun v _=>v=.tup (if ((E8 s (G ks) n (G kp) m&&(decide (z≤8192)&&decide (z % 256=0)))&&((decide (I4 (dB0 G (G ks) n) (G ks) n z (G kp) m=m))&&(E8 (IntKind.wrap .i64 (s+(z:Int))) (G kS) n (G kP) m)))=true then [.agg [.int .i64 (IntKind.wrap .i64 (s+(z:Int))),.slice true (.ro kS) 0 n,.slice true (.ro kP) 0 m],.int .i64 0] else [.agg [.int .i64 0,.nils,.nils],.int .i64 2])) good (fuel:=500) (n0:=20) (f:=13) (fn:=Try.f13) (args:=[.agg (.of [.int .i64 (.var 1 s),.slice true (.ro (.var 24 ks)) (.lit 0) (.var 3 n),.slice true (.ro (.var 25 kp)) (.lit 0) (.var 4 m)]),.int .i64 (.var 2 (z:Int))]) (H:=[]) (keep:=0) (by kernel_rfl) (by kernel_rfl) (by kernel_rfl) (by
   rw [mv_c];have no:(AV.tup [.agg [.int .i64 0,.nils,.nils],.int .i64 2]:AV)=.tup (if ((E8 s (G ks) n (G kp) m&&(decide (z≤8192)&&decide (z % 256=0)))&&((decide (I4 (dB0 G (G ks) n) (G ks) n z (G kp) m=m))&&(E8 (IntKind.wrap .i64 (s+(z:Int))) (G kS) n (G kP) m)))=true then [.agg [.int .i64 (IntKind.wrap .i64 (s+(z:Int))),.slice true (.ro kS) 0 n,.slice true (.ro kP) 0 m],.int .i64 0] else [.agg [.int .i64 0,.nils,.nils],.int .i64 2]):=by rw [eno];rfl
   refine ⟨C5,fun h=>⟨fun h1=>absurd (yL h1) (by omega),fun _=>⟨fun h1=>no,fun h1=>absurd (yP h1) ?_⟩⟩,fun h=>no⟩;have h:(N5 s (G ks) n (G kp) m)=0:=by simpa using h
   unfold N5 at h;split at h
   ·rename_i e;intro hz;exact go ⟨e,by omega⟩
   ·cases h)
  exact key.monoK fun v H h=>h
theorem gQ {m z:Nat} {f:Nat→Nat→AV} (hz:0<z):M7 (m+1) z f=M7 m z f++(List.range z).map (f m):=by
 unfold M7;rw [Nat.add_mul,Nat.one_mul,List.range_add,List.map_append,List.map_map];congr 1;refine List.map_congr_left fun j hj=>?_;have hj:j<z:=List.mem_range.1 hj;show f ((m*z+j) / z) ((m*z+j) % z)=f m j;rw [Nat.mul_comm m z,Nat.mul_add_div hz,Nat.div_eq_of_lt hj,Nat.add_zero,Nat.mul_add_mod,Nat.mod_eq_of_lt hj]
structure Gx (G:Nat→List AV) (ks kp n m:Nat):Prop where
 sec:(G ks)=D2 (G ks) n (dR (G ks))
 off:∀ j,j<n→E9 (G ks) (j*4+2)=0
 dat:∀ j,j<n→G (C8 (G ks) (j*4+2))=N4 G (G ks) j
 pls:(G kp)=(G2 (xP (G kp)) (G kp) m)
theorem aY9 {q k:Nat} {a b:List AV}:fzs q k (a++b)=fzs q k a++fzs q k b:=by rw [An,An,An,List.map_append]
def trueS:DSum:=fun args _=>match args with
 | []=>some (.one (.bool (.lit true)) [])
 | _=>none
end Go.Am
namespace Go.Proofs.Ythejjolnlngahaa
open Go.Am Go.RowKit
set_option maxRecDepth 100000
theorem zA (G:Nat→List AV) (B:Nat):vc (Kc ⟨Try.prog,G,B⟩) 3000 0 (.code (C6 Try.f11)) (N3 Try.f11 []) [] (N0 ⟨Try.prog,G,B⟩ Try.f11 fun v _=>chk (isT v) True)=True:=by kernel_rfl
theorem known_call (G:Nat→List AV) (B:Nat):ACalls ⟨Try.prog,G,B⟩ 11 [] [] fun v _=>v=.bool true:=
 closed_run (C:=⟨Try.prog,G,B⟩) (by kernel_rfl) (fn:=Try.f11) (by kernel_rfl) (by kernel_rfl) (by kernel_rfl) 3000 (zA G B)
end Go.Proofs.Ythejjolnlngahaa
namespace Go.Am
open Go.Proofs
set_option maxRecDepth 100000
def plA:AV→Bool
 | .int _ _=>true
 | .bool _=>true
 | _=>false
theorem J3 {l:List AV} {n:Nat} (h:l.length=n):A9 l 0 n=l:=by
 unfold A9;rw [List.drop_zero,List.take_of_length_le (by omega)]
theorem fA {cs:List AV} {n m:Nat} (h:Aa cs n m=false):n≤20∧m≤1000:=by
 unfold Aa at h;simp only [Bool.or_eq_false_iff,decide_eq_false_iff_not] at h;omega
theorem lG (G:Nat→List AV) (B:Nat):D4 (⟨Try.prog,G,B⟩:A0) 11 trueS:=by
 intro args H o ho;unfold trueS at ho;split at ho
 ·simp only [zK] at ho;subst ho;exact E0.of (pT fun G B=>Go.Proofs.Ythejjolnlngahaa.known_call G B) (by simp only [true_sum,vVs,vV,vB,List.map_nil])
 ·simp at ho
def X6 (j:Nat) (q:List AV→Bool) (o:Outs):DSum:=fun args _=>some (.chk (.uf j q [.agg (.of args),.agg (.of [])]) o)
theorem rE {C:A0} {f j:Nat} {vs0:List AV} {v0:AV} {b:EB} {x y:EV} {q:List AV→Bool} (hq:q=D9 vs0 []) (h:ACalls C f vs0 [] fun v _=>v=v0) (ha:A3 0 vs0=true) (hv:A8 0 v0=true) (hu:v0≠.undef) (e1:vB C.G b=true→vV C.G x=v0) (e2:vB C.G b=false→vV C.G y=v0):D4 C f (X6 j q (.tst b (.one x []) (.one y []))):=by
 intro args H o' ho;simp only [X6,zK] at ho;subst ho;intro h1;have h1:q [.agg (vVs C.G args),.agg (R4 [])]=true:=h1;rw [hq] at h1;obtain ⟨e,_⟩:=Hw h1;have h0:=ACalls.drop0 h hv hu;refine ⟨fun hb=>?_,fun hb=>?_⟩
 ·have:=e1 hb
  exact E0.ro0 (by rw [e,this];exact h0) (by rw [e];exact ha) (by rw [this];exact hv)
 ·have:=e2 hb
  exact E0.ro0 (by rw [e,this];exact h0) (by rw [e];exact ha) (by rw [this];exact hv)
theorem Hn {C:A0} {f j:Nat} {vs0:List AV} {v0:AV} {x:EV} {q:List AV→Bool} (hq:q=D9 vs0 []) (h:ACalls C f vs0 [] fun v _=>v=v0) (ha:A3 0 vs0=true) (hv:A8 0 v0=true) (hu:v0≠.undef) (e1:vV C.G x=v0):D4 C f (X6 j q (.one x [])):=by
 intro args H o' ho;simp only [X6,zK] at ho;subst ho;intro h1;have h1:q [.agg (vVs C.G args),.agg (R4 [])]=true:=h1;rw [hq] at h1;obtain ⟨e,_⟩:=Hw h1;exact E0.ro0 (by rw [e,e1];exact ACalls.drop0 h hv hu) (by rw [e];exact ha) (by rw [e1];exact hv)
theorem mv_neg (G:Nat→List AV) (B:Nat) (ks kp n m:Nat) (s by_:Int) (hb:T2 G ks kp n m) (hn:n≤1000000) (hm:m≤1000000) (hy:by_<0):ACalls (⟨Try.prog,G,B⟩:A0) 13 [.agg [.int .i64 s,.slice true (.ro ks) 0 n,.slice true (.ro kp) 0 m],.int .i64 by_] [] fun v _=>v=.tup [.agg [.int .i64 0,.nils,.nils],.int .i64 2]:=by
 have u1:S5 [.agg (G ks),.int .i64 (n:Int)]=true:=L9.2 ⟨hb.sec,hn⟩;have u2:Jr [.agg (G kp),.int .i64 (m:Int)]=true:=Z3.2 ⟨hb.pls,hm⟩
 have c20:ACalls (⟨Try.prog,G,B⟩:A0) 20 [.agg [.int .i64 s,.slice true (.ro ks) 0 n,.slice true (.ro kp) 0 m]] [some ⟨1,[.int .i64 s,.slice true (.ro ks) 0 n,.slice true (.ro kp) 0 m]⟩,some ⟨1,[.int .i64 0,.nils,.nils]⟩] (Ju G [some ⟨1,[.int .i64 s,.slice true (.ro ks) 0 n,.slice true (.ro kp) 0 m]⟩,some ⟨1,[.int .i64 0,.nils,.nils]⟩] (.one (.int .i64 (.var 28 (N5 s (G ks) n (G kp) m))) [])):=
  E0.ro0 (C:=(⟨Try.prog,G,B⟩:A0)) (args:=[.agg (.of [.int .i64 (.var 1 s),.slice true (.ro (.var 24 ks)) (.lit 0) (.var 3 n),.slice true (.ro (.var 25 kp)) (.lit 0) (.var 4 m)])]) (H:=[some ⟨1,.of [.int .i64 (.var 1 s),.slice true (.ro (.var 24 ks)) (.lit 0) (.var 3 n),.slice true (.ro (.var 25 kp)) (.lit 0) (.var 4 m)]⟩,some ⟨1,.of [.int .i64 (.lit 0),.nils,.nils]⟩]) (v:=.int .i64 (.var 28 (N5 s (G ks) n (G kp) m))) (ACalls.drop0 (v0:=.int .i64 (N5 s (G ks) n (G kp) m)) (Gv G B ks n kp m s u1 u2) rfl (by simp)) rfl rfl
 have good:L6 (⟨Try.prog,G,B⟩:A0) (Df Try.prog [] [] [(20,Ee 1831 (D9 [.agg [.int .i64 s,.slice true (.ro ks) 0 n,.slice true (.ro kp) 0 m]] [some ⟨1,[.int .i64 s,.slice true (.ro ks) 0 n,.slice true (.ro kp) 0 m]⟩,some ⟨1,[.int .i64 0,.nils,.nils]⟩]) (.one (.int .i64 (.var 28 (N5 s (G ks) n (G kp) m))) [])),(33,Ee 1832 (fun _=>false) (.one (.agg (.of [.int .i64 (.var 1 s),.slice true (.rw 2) (.lit 0) (.var 3 n),.slice true (.rw 3) (.lit 0) (.var 4 m)])) [.new ⟨4,.var 21 []⟩,.new ⟨2,.var 7 []⟩,.new ⟨1,.row (.var 22 []) (.lit 0)⟩,.new ⟨1,.row (.var 22 []) (.lit 1)⟩,.new ⟨1,.row (.var 22 []) (.lit 2)⟩,.new ⟨1,.row (.var 22 []) (.lit 3)⟩,.new ⟨1,.row (.var 22 []) (.lit 4)⟩,.new ⟨1,.row (.var 22 []) (.lit 5)⟩,.new ⟨1,.row (.var 22 []) (.lit 6)⟩,.new ⟨1,.row (.var 22 []) (.lit 7)⟩])),(36,Ee 1834 (fun _=>false) (.tst (.var 11 false) (.one (.tup [(.agg (.of [.int .i64 (.var 14 0),.slice true (.ro (.var 26 0)) (.lit 0) (.var 3 n),.slice true (.ro (.var 27 0)) (.lit 0) (.var 4 m)])),.int .i64 (.lit 0)]) [.set 12 ⟨1,.of [.int .i64 (.var 1 s),.slice true (.ro (.var 26 0)) (.lit 0) (.var 3 n),.slice true (.ro (.var 27 0)) (.lit 0) (.var 4 m)]⟩,.app 2 ⟨1,.of []⟩,.app 3 ⟨1,.of []⟩]) (.one (.tup [(.agg (.of [.int .i64 (.lit 0),.nils,.nils])),.int .i64 (.lit 2)]) [.set 12 ⟨1,.of [.int .i64 (.var 1 s),.slice true (.ro (.var 26 0)) (.lit 0) (.var 3 n),.slice true (.ro (.var 27 0)) (.lit 0) (.var 4 m)]⟩,.app 2 ⟨1,.of []⟩,.app 3 ⟨1,.of []⟩])))] [D6 1833 (fun _=>false) 0 108 [1,4,5,7,36,37,38] (.tst (.var 10 false) (.one (.exit 0) [.int .i64 (.var 2 by_),.ptr (.rw 1) (.lit 0),.int .i64 (.lit 0),.ptr (.rw 12) (.lit 0),.undef,.undef,.undef] [some ⟨1,.of [.int .i64 (.var 1 s),.slice true (.ro (.var 24 ks)) (.lit 0) (.var 3 n),.slice true (.ro (.var 25 kp)) (.lit 0) (.var 4 m)]⟩,some ⟨1,.of [.int .i64 (.lit 0),.nils,.nils]⟩,some ⟨4,.var 23 []⟩,some ⟨2,.var 7 []⟩,none,none,none,none,none,none,none,none,some ⟨1,.of [.int .i64 (.var 1 s),.slice true (.rw 2) (.lit 0) (.var 3 n),.slice true (.rw 3) (.lit 0) (.var 4 m)]⟩]) (.one .ret [.undef,.ptr (.rw 1) (.lit 0),.int .i64 (.lit 2),.undef,.undef,.undef,.undef] [some ⟨1,.of [.int .i64 (.var 1 s),.slice true (.ro (.var 24 ks)) (.lit 0) (.var 3 n),.slice true (.ro (.var 25 kp)) (.lit 0) (.var 4 m)]⟩,some ⟨1,.of [.int .i64 (.lit 0),.nils,.nils]⟩]))] 0) (B5 (C6 Try.f13)):=by
  rw [show B5 (C6 Try.f13)=[A2 Try.f13 0,A2 Try.f13 1,A2 Try.f13 2] by kernel_rfl];exact Bm (K6 G B) (by kernel_rfl) (.cons (Lw rfl c20) (.cons Ua (.cons Ua .nil))) (.cons (i:=0) (by kernel_rfl) rfl Xx (.miss (i:=2) (by kernel_rfl) rfl (.miss (i:=4) (by kernel_rfl) rfl .nil)))
 have key:=C1 (C:=(⟨Try.prog,G,B⟩:A0)) (R:=fun v _=>v=.tup [.agg [.int .i64 0,.nils,.nils],.int .i64 2]) good (fuel:=500) (n0:=20) (f:=13) (fn:=Try.f13) (args:=[.agg (.of [.int .i64 (.var 1 s),.slice true (.ro (.var 24 ks)) (.lit 0) (.var 3 n),.slice true (.ro (.var 25 kp)) (.lit 0) (.var 4 m)]),.int .i64 (.var 2 by_)]) (H:=[]) (keep:=0) (by kernel_rfl) (by kernel_rfl) (by kernel_rfl) (by
  rw [mv_c]
  exact ⟨C5,fun h=>⟨fun h1=>rfl,fun h1=>absurd (yP h1) (by omega)⟩,fun h=>rfl⟩)
 exact key.monoK fun v H h=>h
theorem gW {G:Nat→List AV} {s:Int} {cs ps:List AV} {n m:Nat}:Ni G s cs n ps m s cs n ps m=true:=by
 unfold Ni plsF secF;rw [zA3,zA3];have e1:I2 (Dy ps ps) m=true:=F6.2 fun j _=>by unfold Dy;simp
 have e2:I2 (By G cs cs) n=true:=F6.2 fun j _=>by unfold By;simp
 rw [e1,e2];simp
theorem cN {b:List Nat}:u8s (O2 b)=true:=by
 unfold u8s;rw [xM];intro v hv;obtain ⟨x,_,rfl⟩:=List.mem_map.1 hv;rfl
theorem dat_im {G:Nat→List AV} {ks kp n m:Nat} (hb:T2 G ks kp n m):Ms G (G ks) n=true:=F6.2 fun j hj=>by
 obtain ⟨_,_,hd⟩:=Dp.1 hb.cp;have hc:=(L1.1 (hd j hj)).1.1;rw [Nat.mul_one] at hc;obtain ⟨b,_,b2⟩:=hb.dat j hj;unfold Ob;rw [b2,cN,Bool.and_true];exact hc
theorem Pr {C:A0} {f j:Nat} {o:Outs}:D4 C f (X6 j (fun _=>false) o):=by
 intro args H o' ho;simp only [X6,zK] at ho;subst ho;intro h;exact absurd h (by simp [vB])
end Go.Am
