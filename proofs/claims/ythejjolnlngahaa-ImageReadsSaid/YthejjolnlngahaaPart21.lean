/-
  Images read, whatever the bytes: the image that is read stands at its  Images read, whatever the bytes: the image that is read, well formed.
-/
import Derived.Test.YthejjolnlngahaaPart20
namespace Go.Am
open Go.Proofs Go.RowKit
set_option maxRecDepth 100000
theorem gM {s:List AV} {N:Nat} {p:Int}:X6 s N p=true↔Al s p=true∧Al s (d1 s p)=true∧uR s N (d2 s p)=true∧Al s (d3 s N p)=true:=by
 simp only [X6,zO]
structure SecIs (s:List AV) (N:Nat) (p:Int):Prop where
 nx:D8 s N (d4 s N p)
 a:0≤dA s p∧dA s p≤131072
 r:0≤At s p∧At s p≤131072
 z:0≤dZ s N p∧dZ s N p≤131072
 n:(dD s N p).length=dN s N p∧dN s N p≤8192
 d:E4 (dD s N p)=true
theorem sec_is {s:List AV} {N:Nat} {p:Int} (h:D8 s N p) (hk:X6 s N p=true):SecIs s N p:=by
 obtain ⟨o1,o2,o3,o4⟩:=gM.1 hk;obtain ⟨q1,l1⟩:=N9.1 o1;obtain ⟨q2,l2⟩:=N9.1 o2;obtain ⟨q4,l4⟩:=N9.1 o4;obtain ⟨r1,v1,_⟩:=M3 h q1;obtain ⟨r2,v2,_⟩:=M3 r1 q2;obtain ⟨r3,v3,w3,b3⟩:=rH (M:=8192) r2 (eq_of_beq o3);obtain ⟨r4,v4,_⟩:=M3 r3 q4;exact ⟨r4,⟨v1,l1⟩,⟨v2,l2⟩,⟨v4,l4⟩,⟨v3,w3⟩,b3⟩
theorem dO {s:List AV} {N:Nat} {p:Int} {n:Nat} (h:D8 s N p) (ha:Ff s N p n=true):∀ k,k≤n→D8 s N (B3 s N p k)
 | 0,_=>h
 | k+1,hk=>(sec_is (dO h ha k (by omega)) (E7.1 ha k (by omega))).nx
theorem oW {s:List AV} {N:Nat} {p:Int} {n:Nat} (h:D8 s N p) (ha:Ff s N p n=true) (k:Nat) (hk:k<n):SecIs s N (B3 s N p k):=
 sec_is (dO h ha k (by omega)) (E7.1 ha k hk)
theorem dQ {s:List AV} {N:Nat} {p:Int} {n:Nat} (h:D8 s N p) (ha:Ir s p n=true):∀ k,k≤n→D8 s N (H6 s p k)∧(k<n→0≤dA s (H6 s p k)∧dA s (H6 s p k)≤131072)
 | 0,hk=>⟨h,fun hk=>by
  have o:=E7.1 ha 0 hk;simp only [Az,zO] at o;obtain ⟨q1,l1⟩:=N9.1 o.1
  exact ⟨(M3 h q1).2.1,l1⟩⟩
 | k+1,hk=>by
  have o:=E7.1 ha k (by omega);simp only [Az,zO] at o;obtain ⟨q1,l1⟩:=N9.1 o.1;have r1:=(dQ h ha k (by omega)).1;have r2:D8 s N (H6 s p (k+1)):=rE (M3 r1 q1).1 (eq_of_beq o.2);refine ⟨r2,fun hk'=>?_⟩;have o':=E7.1 ha (k+1) hk';simp only [Az,zO] at o';obtain ⟨q1',l1'⟩:=N9.1 o'.1;exact ⟨(M3 r2 q1').2.1,l1'⟩
theorem cC {s:List AV} {N n:Nat} {p:Int} {kd:Nat→Nat} {j b:Nat} (hj:j<n) (hb:b<4):(M9 s N p kd n)[j*4+b]?=some (Yu s N p kd j b):=P0 (f:=Yu s N p kd) hj hb
theorem kI {s:List AV} {m:Nat} {p':Int} {j b:Nat} (hj:j<m) (hb:b<2):(R4 s p' m)[j*2+b]?=some (mL s p' j b):=P0 (f:=mL s p') hj hb
theorem cB {s:List AV} {N n:Nat} {p:Int} {kd:Nat→Nat} {j:Nat} (hj:j<n):sA (M9 s N p kd n) j=dA s (B3 s N p j)∧sR (M9 s N p kd n) j=At s (B3 s N p j)∧sN (M9 s N p kd n) j=dN s N (B3 s N p j)∧sZ (M9 s N p kd n) j=dZ s N (B3 s N p j)∧H8 (M9 s N p kd n) (j*4+2)=0∧G0 (M9 s N p kd n) (j*4+2)=kd j:=by
 have e0:=cC (s:=s) (N:=N) (p:=p) (kd:=kd) hj (b:=0) (by omega);have e1:=cC (s:=s) (N:=N) (p:=p) (kd:=kd) hj (b:=1) (by omega);have e2:=cC (s:=s) (N:=N) (p:=p) (kd:=kd) hj (b:=2) (by omega);have e3:=cC (s:=s) (N:=N) (p:=p) (kd:=kd) hj (b:=3) (by omega);rw [Nat.add_zero] at e0;refine ⟨?_,?_,?_,?_,?_,?_⟩
 ·unfold sA A2;rw [e0];rfl
 ·unfold sR A2;rw [e1];rfl
 ·unfold sN D1;rw [e2];rfl
 ·unfold sZ A2;rw [e3];rfl
 ·unfold H8;rw [e2];rfl
 ·unfold G0;rw [e2];rfl
theorem ct_sec {s:List AV} {N n:Nat} {p:Int} {kd:Nat→Nat}:(M9 s N p kd n)=G7 (M9 s N p kd n) n (dR (M9 s N p kd n)):=by
 have:M9 s N p kd n=L6 n 4 (V0 (M9 s N p kd n) (dR (M9 s N p kd n))):=U8 fun a b ha hb=>by
  obtain ⟨h1,h2,h3,h4,h5,h6⟩:=cB (s:=s) (N:=N) (p:=p) (kd:=kd) ha
  match b,hb with
  | 0,_=>show AV.int .i64 _=.int .i64 (sA (M9 s N p kd n) a);rw [h1]
  | 1,_=>show AV.int .i64 _=.int .i64 (sR (M9 s N p kd n) a);rw [h2]
  | 2,_=>show AV.slice true (.ro (kd a)) 0 (dN s N (B3 s N p a))=dR (M9 s N p kd n) a;unfold dR;rw [h3,h5,h6]
  | 3,_=>show AV.int .i64 _=.int .i64 (sZ (M9 s N p kd n) a);rw [h4]
 exact this
theorem aC1 {s:List AV} {m:Nat} {p':Int}:(R4 s p' m)=I8 (xP (R4 s p' m)) (R4 s p' m) m:=by
 have:R4 s p' m=L6 m 2 (Tv (xP (R4 s p' m)) (R4 s p' m)):=U8 fun a b ha hb=>by
  have e0:=kI (s:=s) (p':=p') ha (b:=0) (by omega);have e1:=kI (s:=s) (p':=p') ha (b:=1) (by omega);rw [Nat.add_zero] at e0
  match b,hb with
  | 0,_=>show AV.int .i64 _=.int .i64 (xP (R4 s p' m) a);unfold xP A2;rw [e0];rfl
  | 1,_=>show AV.bool _=.bool (hP (R4 s p' m) a);unfold hP G8;rw [e1];rfl
 exact this
theorem cG:∀ {l:List AV},E4 l=true→∃ b,byO b∧l=Gd b
 | [],_=>⟨[],fun x hx=>by simp at hx,rfl⟩
 | v::l,h=>by
  have h':b8 v=true∧E4 l=true:=by simpa only [E4,List.all_cons,zO] using h
  obtain ⟨b,h1,h2⟩:=cG h'.2;have hv:=h'.1;unfold b8 at hv;split at hv
  ·rename_i n;simp only [zO,qC] at hv;refine ⟨n.toNat::b,fun x hx=>?_,?_⟩
   ·rcases List.mem_cons.1 hx with rfl | hx
    ·omega
    ·exact h1 x hx
   ·rw [h2];show _=AV.int .u8 ((n.toNat:Nat):Int)::Gd b;rw [show ((n.toNat:Nat):Int)=n by omega]
  ·cases hv
theorem ct_ok {s:List AV} {N n:Nat} {p:Int} {kd:Nat→Nat}:P2 (M9 s N p kd n) n=true:=E7.2 fun j hj=>by
 have e:∀ b,b<4→(M9 s N p kd n)[j*4+b]?=some (Yu s N p kd j b):=fun b hb=>cC hj hb;have e0:=e 0 (by omega);rw [Nat.add_zero] at e0;have e2:Ey (M9 s N p kd n) (j*4+1+1)=true:=by unfold Ey;rw [e 2 (by omega)];rfl
 simp only [G6,Ao,isI,e0,e 1 (by omega),e2,zO];have e3:=e 3 (by omega);rw [show j*4+1+1+1=j*4+3 by omega,e3];exact ⟨rfl,rfl,trivial,rfl,trivial⟩
theorem cp_ok {s:List AV} {N m:Nat} {p':Int} (h:D8 s N p') (hp:Ir s p' m=true):Y7 (R4 s p' m) m=true:=by
 have:=zD (f:=xP (R4 s p' m)) (ps:=(R4 s p' m)) (m:=m) fun j hj=>by
  have e0:=kI (s:=s) (p':=p') hj (b:=0) (by omega);rw [Nat.add_zero] at e0;have e:xP (R4 s p' m) j=dA s (H6 s p' j):=by unfold xP A2;rw [e0];rfl
  have:=(dQ h hp j (by omega)).2 hj
  rw [e];omega
 rw [←aC1] at this;exact this
theorem bD2 {G:Nat→List AV} {s:List AV} {N n m ks kp:Nat} {p p':Int} {kd:Nat→Nat} (h:D8 s N p) (ha:Ff s N p n=true) (h':D8 s N p') (hp:Ir s p' m=true) (h8:n≤8) (h512:m≤512)
  (hS:G ks=(M9 s N p kd n)) (hP:G kp=(R4 s p' m)) (hD:∀ j,j<n→G (kd j)=dD s N (B3 s N p j)):Ad G ks kp n m∧Z4 G ks kp n m:=by
 have lS:((M9 s N p kd n)).length=n*4:=sS;have lP:((R4 s p' m)).length=m*2:=sT
 have dat:∀ j,j<n→G (G0 (G ks) (j*4+2))=dD s N (B3 s N p j)∧F7 G (G ks) j=dD s N (B3 s N p j):=fun j hj=>by
  obtain ⟨_,_,e3,_,e5,e6⟩:=cB (s:=s) (N:=N) (p:=p) (kd:=kd) hj;have e3:D1 (M9 s N p kd n) (j*4+2)=dN s N (B3 s N p j):=e3;have g:=oW h ha j hj;rw [hS];refine ⟨by rw [e6,hD j hj],?_⟩;unfold F7;rw [e3,e5,e6,hD j hj];exact Q5 g.n.1
 have cS:cellsB (M9 s N p kd n)=true:=by
  unfold cellsB;rw [qD];intro v hv;unfold M9 L6 at hv;obtain ⟨j,hj,rfl⟩:=List.mem_map.1 hv;have hb:j % 4<4:=Nat.mod_lt _ (by omega);generalize j % 4=b at hb
  match b,hb with
  | 0,_=>rfl
  | 1,_=>rfl
  | 2,_=>rfl
  | 3,_=>rfl
 have cP:cellsB (R4 s p' m)=true:=by
  unfold cellsB;rw [qD];intro v hv;unfold R4 L6 at hv;obtain ⟨j,hj,rfl⟩:=List.mem_map.1 hv;have hb:j % 2<2:=Nat.mod_lt _ (by omega);generalize j % 2=b at hb
  match b,hb with
  | 0,_=>rfl
  | 1,_=>rfl
 refine ⟨⟨by rw [hS];exact ct_ok,by rw [hP];exact cp_ok h' hp,Qd.2 ⟨⟨by rw [hS];exact ct_ok,?_⟩,?_,fun j hj=>?_⟩,fun j hj=>?_⟩,⟨by rw [hS];exact ct_sec,fun j hj=>by rw [hS];exact (cB hj).2.2.2.2.1,fun j hj=>by rw [(dat j hj).1,(dat j hj).2],by rw [hP];exact aC1⟩⟩
 ·rw [hS];refine Dv.2 ⟨⟨A8.2 (by omega),?_⟩,by omega,?_⟩
  ·rw [Q5 lS];exact cS
  ·rw [Q5 lS];exact Rz
 ·rw [hP];refine Dv.2 ⟨⟨A8.2 (by omega),?_⟩,by omega,?_⟩
  ·rw [Q5 lP];exact cP
  ·rw [Q5 lP];exact Zs
 ·have g:=oW h ha j hj;obtain ⟨_,_,e3,_,e5,e6⟩:=cB (s:=s) (N:=N) (p:=p) (kd:=kd) hj;rw [(dat j hj).1,hS,e3,e5];have hu:=G9 g.d;refine Dv.2 ⟨⟨A8.2 (by rw [g.n.1];omega),?_⟩,by have:=g.n.2;omega,?_⟩
  ·rw [Nat.mul_one,Q5 g.n.1];exact F9 hu
  ·rw [Nat.mul_one,Q5 g.n.1];exact B7 hu
 ·rw [(dat j hj).2];exact cG (oW h ha j hj).d
open Crc
theorem gH {C:A1} {rt:Nat} {f j:Nat} {q:List AV→Bool} {c:Bool} {b:EB} {x:EV} {a2:EI} {s:List AV} {N:Nat} {a:Int} {rest0:List AV} (hq:q=fun xs=>c&&Be s N a rest0 xs) (hr:A6 0 rest0=true) (hv:B0 0 (vV C.G x)=true)
  (h:c=true→E4 s=true∧(vB C.G b=true→ACalls C f (.ptr (.rw 0) 0::rest0) [some ⟨1,[.slice false (.rw 1) 0 N,.int .i64 a]⟩,some ⟨1,s⟩] fun v' H'=>v'=vV C.G x∧H'=[some ⟨1,[.slice false (.rw 1) 0 N,.int .i64 (vI C.G a2)]⟩,some ⟨1,s⟩])
   ∧ (vB C.G b=false→ACallsX C rt f (.ptr (.rw 0) 0::rest0) [some ⟨1,[.slice false (.rw 1) 0 N,.int .i64 a]⟩,some ⟨1,s⟩] (fun _ _=>False) fun _=>True)):Jx C rt f (Em j q b x a2):=by
 cases c with
 | true=>
  obtain ⟨h1,h2,h3⟩:=h rfl;exact aF3 (by rw [hq];simp) h1 hr hv h2 h3
 | false=>
  intro xs H c b' v hs hp ho hc;simp only [Em] at ho;split at ho
  ·split at ho
   ·split at ho
    ·split at ho
     ·simp at ho
     ·simp only [zN,xH] at ho;obtain ⟨rfl,_⟩:=ho;rw [vB,hq] at hc;simp at hc
    ·simp at ho
   ·simp at ho
  ·simp at ho
theorem qG {ρ:Env} {k:Nat} {v cv:AV} {c:Value} (h:VR ρ (.tup [.nils,v]) c):VR ρ (.tup [.slice true (.ro k) 0 0,v]) c:=by
 simp only [VR] at h ⊢;obtain ⟨vs,e,hs⟩:=h;simp only [VRs] at hs;obtain ⟨x,ys,e1,e2,e3⟩:=hs;simp only [VRs];exact ⟨vs,e,x,ys,e1,Is k 0 e2,e3⟩
def Cc (s:List AV) (M a:Int):Nat:=if N3 s M a=true then (A7 [.agg s,.int .i64 a]).toNat else 0
def gQ (s:List AV) (N:Nat) (a:Int):Int:=if N3 s 8 a=true then B3 s N (d1 s a) (Cc s 8 a) else a
def lT (s:List AV) (a:Int):Int:=if N3 s 512 a=true then H6 s (d1 s a) (Cc s 512 a) else a
def Ft (s:List AV) (M a:Int):Int:=if N3 s M a=true then 0 else Fb s M a
def rvB (s:List AV) (N:Nat) (a:Int):Bool:=!(N3 s 8 a)||Ff s N (d1 s a) (Cc s 8 a)
def rvD (s:List AV) (a:Int):Bool:=!(N3 s 512 a)||Ir s (d1 s a) (Cc s 512 a)
theorem aJ {s:List AV} {N M:Nat} {a:Int} (h:D8 s N a):Cc s (M:Int) a≤M∧(N3 s (M:Int) a=true→A7 [.agg s,.int .i64 a]=(Cc s (M:Int) a:Int)):=by
 unfold Cc;cases e:N3 s (M:Int) a with
 | false=>exact ⟨by simp,fun h=>by cases h⟩
 | true=>
  obtain ⟨q1,q2⟩:=P5.1 e
  have:=(M3 h q1).2.1
  rw [if_pos rfl];exact ⟨by omega,fun _=>by omega⟩
theorem k63 (G:Nat→List AV) (B:Nat) (s:List AV) (N ks:Nat) (a:Int) (kd:Nat→Nat) (hN:N≤1000000) (r0:D8 s N a) (hD:∀ j,j<Cc s 8 a→G (kd j)=dD s N (B3 s N (d1 s a) j)) (hS:G ks=M9 s N (d1 s a) kd (Cc s 8 a)) :
  (rvB s N a=true→ACalls (za G B) 63 [.ptr (.rw 0) 0,.int .i64 8,.func 64 []] [some ⟨1,[.slice false (.rw 1) 0 N,.int .i64 a]⟩,some ⟨1,s⟩] fun v H=>v=.tup [.slice true (.ro ks) 0 (Cc s 8 a),.int .i64 (Ft s 8 a)]∧H=[some ⟨1,[.slice false (.rw 1) 0 N,.int .i64 (gQ s N a)]⟩,some ⟨1,s⟩])
   ∧ (rvB s N a=false→ACallsX (za G B) 96 63 [.ptr (.rw 0) 0,.int .i64 8,.func 64 []] [some ⟨1,[.slice false (.rw 1) 0 N,.int .i64 a]⟩,some ⟨1,s⟩] (fun _ _=>False) fun _=>True):=by
 have hn:=(aJ (M:=8) r0).2;cases hc:N3 s 8 a with
 | true=>
  have eX:gQ s N a=B3 s N (d1 s a) (Cc s 8 a):=by unfold gQ;rw [if_pos hc]
  have eE:Ft s 8 a=0:=by unfold Ft;rw [if_pos hc]
  have eB:rvB s N a=Ff s N (d1 s a) (Cc s 8 a):=by unfold rvB;rw [hc];rfl
  rw [eX,eE,eB];exact ⟨fun h=>aG0 G B s N _ ks a kd hN r0 hc (hn hc) hD hS h,fun h=>aF9 G B s N _ ks a kd hN r0 hc (hn hc) hD hS h⟩
 | false=>
  have eX:gQ s N a=a:=by unfold gQ;rw [if_neg (by rw [hc];decide)]
  have eE:Ft s 8 a=Fb s 8 a:=by unfold Ft;rw [if_neg (by rw [hc];decide)]
  have eB:rvB s N a=true:=by unfold rvB;rw [hc];rfl
  have eC:Cc s 8 a=0:=by unfold Cc;rw [if_neg (by rw [hc];decide)]
  rw [eX,eE,eB,eC];exact ⟨fun _=>(aF8 G B s N a r0 hc).conv fun v H ⟨e1,e2⟩=>⟨_,⟨rfl,e2⟩,fun ρ cv hv=>by rw [e1] at hv;exact qG (cv:=.undef) hv⟩,fun h=>by cases h⟩
theorem k66 (G:Nat→List AV) (B:Nat) (s:List AV) (N kp:Nat) (a:Int) (hN:N≤1000000) (r0:D8 s N a) (hS:G kp=R4 s (d1 s a) (Cc s 512 a)) :
  (rvD s a=true→ACalls (za G B) 66 [.ptr (.rw 0) 0,.int .i64 512,.func 67 []] [some ⟨1,[.slice false (.rw 1) 0 N,.int .i64 a]⟩,some ⟨1,s⟩] fun v H=>v=.tup [.slice true (.ro kp) 0 (Cc s 512 a),.int .i64 (Ft s 512 a)]∧H=[some ⟨1,[.slice false (.rw 1) 0 N,.int .i64 (lT s a)]⟩,some ⟨1,s⟩])
   ∧ (rvD s a=false→ACallsX (za G B) 96 66 [.ptr (.rw 0) 0,.int .i64 512,.func 67 []] [some ⟨1,[.slice false (.rw 1) 0 N,.int .i64 a]⟩,some ⟨1,s⟩] (fun _ _=>False) fun _=>True):=by
 have hn:=(aJ (M:=512) r0).2;cases hc:N3 s 512 a with
 | true=>
  have eX:lT s a=H6 s (d1 s a) (Cc s 512 a):=by unfold lT;rw [if_pos hc]
  have eE:Ft s 512 a=0:=by unfold Ft;rw [if_pos hc]
  have eB:rvD s a=Ir s (d1 s a) (Cc s 512 a):=by unfold rvD;rw [hc];rfl
  rw [eX,eE,eB];exact ⟨fun h=>aF7 G B s N _ kp a hN r0 hc (hn hc) hS h,fun h=>aF6 G B s N _ kp a hN r0 hc (hn hc) hS h⟩
 | false=>
  have eX:lT s a=a:=by unfold lT;rw [if_neg (by rw [hc];decide)]
  have eE:Ft s 512 a=Fb s 512 a:=by unfold Ft;rw [if_neg (by rw [hc];decide)]
  have eB:rvD s a=true:=by unfold rvD;rw [hc];rfl
  have eC:Cc s 512 a=0:=by unfold Cc;rw [if_neg (by rw [hc];decide)]
  rw [eX,eE,eB,eC];exact ⟨fun _=>(aF5 G B s N a r0 hc).conv fun v H ⟨e1,e2⟩=>⟨_,⟨rfl,e2⟩,fun ρ cv hv=>by rw [e1] at hv;exact qG (cv:=.undef) hv⟩,fun h=>by cases h⟩
theorem aX8 {C:A1} {f j:Nat} {vs0:List AV} {x:EL} {c:Bool} {b:EB} {q:List AV→Bool} (hq:q=fun xs=>c&&D9 vs0 [] xs) (ha:A6 0 vs0=true)
  (h:c=true→(vB C.G b=true→u8s (vL C.G x)=true∧ACalls C f vs0 [] fun v H=>v=.tup [.slice false (.rw 0) 0 (vL C.G x).length,.int .i64 0]∧H=[some ⟨1,vL C.G x⟩])∧(vB C.G b=false→ACalls C f vs0 [] fun v _=>v=.tup [.nils,.int .i64 2])):DSumOk C f (gO j q b x):=by
 cases c with
 | true=>
  obtain ⟨h1,h2⟩:=h rfl;exact sBy_ok (by rw [hq];simp) h1 h2 ha
 | false=>
  intro args H o ho;simp only [gO,zN] at ho;subst ho;intro h1;have h1:q [.agg (vVs C.G args),.agg (O9 [])]=true:=h1;rw [hq] at h1;simp at h1
def rzN (l:List AV):Nat:=l.length - 8
def rzT (l:List AV):List AV:=A0 l 4 (rzN l)
def rzA (l:List AV):Int:=d1 (rzT l) 0
def Gk (l:List AV):Int:=A7 [.agg (rzT l),.int .i64 0]
def rz0 (l:List AV):Bool:=decide (8≤l.length)&&((F8 (A0 l 0 4):List UInt8)==F8 magL)
def Sm (l:List AV):Bool:=rz0 l&&Al (rzT l) 0
def rzX (l:List AV):Int:=gQ (rzT l) (rzN l) (rzA l)
def rzn (l:List AV):Nat:=Cc (rzT l) 8 (rzA l)
def Tm (l:List AV):Bool:=Sm l&&(N3 (rzT l) 8 (rzA l)&&rvB (rzT l) (rzN l) (rzA l))
def gP (l:List AV):Int:=lT (rzT l) (rzX l)
def rzm (l:List AV):Nat:=Cc (rzT l) 512 (rzX l)
def Tl (l:List AV):Bool:=Tm l&&(N3 (rzT l) 512 (rzX l)&&rvD (rzT l) (rzX l))
theorem rz_len {l:List AV}:(rzT l).length=rzN l:=by
 simp only [rzT,A0,List.length_take,List.length_drop,rzN];omega
theorem uA {l:List AV} (h:E4 l=true):E4 (rzT l)=true:=by
 simp only [E4,qD] at h ⊢;intro v hv;exact h v (List.mem_of_mem_drop (List.mem_of_mem_take hv))
theorem aH {l:List AV} (h:E4 l=true) (hL:l.length≤1000000):D8 (rzT l) (rzN l) 0:=
 ⟨uA h,rz_len,by unfold rzN;omega,rfl,zA8 _⟩
theorem tZ {l:List AV} (h:E4 l=true) (hL:l.length≤1000000) (h1:Sm l=true):D8 (rzT l) (rzN l) (rzA l)∧0≤Gk l∧Gk l≤131072:=by
 simp only [Sm,zO] at h1;obtain ⟨q,l1⟩:=N9.1 h1.2;obtain ⟨r,v,_⟩:=M3 (aH h hL) q;exact ⟨r,v,l1⟩
structure Rz2 (l:List AV):Prop where
 c1:Sm l=true
 nn:rzn l≤8
 rp:D8 (rzT l) (rzN l) (d1 (rzT l) (rzA l))
 all:Ff (rzT l) (rzN l) (d1 (rzT l) (rzA l)) (rzn l)=true
 rX:D8 (rzT l) (rzN l) (rzX l)
theorem rz_2 {l:List AV} (h:E4 l=true) (hL:l.length≤1000000) (h2:Tm l=true):Rz2 l:=by
 simp only [Tm,zO] at h2;obtain ⟨h1,hc,hb⟩:=h2;have rA:=(tZ h hL h1).1;have rp:=(M3 rA (P5.1 hc).1).1
 have ha:Ff (rzT l) (rzN l) (d1 (rzT l) (rzA l)) (rzn l)=true:=by
  have:=hb;unfold rvB at this;rw [hc] at this;exact this
 have eX:rzX l=B3 (rzT l) (rzN l) (d1 (rzT l) (rzA l)) (rzn l):=by unfold rzX gQ rzn;rw [if_pos hc]
 exact ⟨h1,(aJ (M:=8) rA).1,rp,ha,by rw [eX];exact dO rp ha _ (zA7 _)⟩
structure Rz3 (l:List AV):Prop where
 z2:Rz2 l
 mm:rzm l≤512
 rp:D8 (rzT l) (rzN l) (d1 (rzT l) (rzX l))
 all:Ir (rzT l) (d1 (rzT l) (rzX l)) (rzm l)=true
theorem rz_3 {l:List AV} (h:E4 l=true) (hL:l.length≤1000000) (h3:Tl l=true):Rz3 l:=by
 simp only [Tl,zO] at h3;obtain ⟨h2,hc,hb⟩:=h3;have z:=rz_2 h hL h2;exact ⟨z,(aJ (M:=512) z.rX).1,(M3 z.rX (P5.1 hc).1).1,by have:=hb;unfold rvD at this;rw [hc] at this;exact this⟩
structure Yh (G:Nat→List AV) (ks kp:Nat) (kd:Nat→Nat) (l:List AV):Prop where
 d:∀ j,j<rzn l→G (kd j)=dD (rzT l) (rzN l) (B3 (rzT l) (rzN l) (d1 (rzT l) (rzA l)) j)
 s:G ks=M9 (rzT l) (rzN l) (d1 (rzT l) (rzA l)) kd (rzn l)
 p:G kp=R4 (rzT l) (d1 (rzT l) (rzX l)) (rzm l)
theorem lR {G:Nat→List AV} {ks kp:Nat} {kd:Nat→Nat} {l:List AV} (g:Yh G ks kp kd l) (z:Rz3 l):Ad G ks kp (rzn l) (rzm l)∧Z4 G ks kp (rzn l) (rzm l):=
 bD2 z.z2.rp z.z2.all z.rp z.all z.z2.nn z.mm g.s g.p g.d
def aI (G:Nat→List AV) (ks kp:Nat) (l:List AV):List AV:=E3 G (Gk l) (G ks) (rzn l) (G kp) (rzm l)
def rzM (G:Nat→List AV) (ks kp:Nat) (l:List AV):Bool:=K1 (Gk l) (G ks) (rzn l) (G kp) (rzm l)
def Y1 (G:Nat→List AV) (ks kp:Nat) (l:List AV):Bool:=Tl l&&(decide (rzN l≤gP l)&&(rzM G ks kp l&&((F8 (aI G ks kp l):List UInt8)==F8 l)))
theorem pgZ (G:Nat→List AV) (B:Nat) (ks kp:Nat) (kd:Nat→Nat) (l:List AV) (h8:E4 l=true) (hL:l.length≤1000000) (g:Yh G ks kp kd l):Xv (za G B) (⟨Dc Try.prog [59,42,60,61,85,62,65,69,68,70,87,92] ((28,(gO 2518 (fun xs=>Tl l&&D9 [.agg [.int .i64 (Gk l),.slice true (.ro ks) 0 (rzn l),.slice true (.ro kp) 0 (rzm l)]] [] xs) (.var 33 (rzM G ks kp l)) (.var 21 (aI G ks kp l))))::progR) [] 1,96,Ko [(63,(Em 2516 (fun xs=>Sm l&&Be (rzT l) (rzN l) (rzA l) [.int .i64 8,.func 64 []] xs) (.var 31 (rvB (rzT l) (rzN l) (rzA l))) (.tup [.slice true (.ro (.var 24 ks)) (.lit 0) (.var 3 (rzn l)),.int .i64 (.var 13 (Ft (rzT l) 8 (rzA l)))]) (.var 11 (rzX l)))),(66,(Em 2517 (fun xs=>Tm l&&Be (rzT l) (rzN l) (rzX l) [.int .i64 512,.func 67 []] xs) (.var 32 (rvD (rzT l) (rzX l))) (.tup [.slice true (.ro (.var 25 kp)) (.lit 0) (.var 4 (rzm l)),.int .i64 (.var 14 (Ft (rzT l) 512 (rzX l)))]) (.var 12 (gP l))))],fun _ _=>none,.skip⟩:Hf):=by
 have h8T:=uA h8;have hN:rzN l≤1000000:=by unfold rzN;omega
 have c63:Jx (za G B) 96 63 (Em 2516 (fun xs=>Sm l&&Be (rzT l) (rzN l) (rzA l) [.int .i64 8,.func 64 []] xs) (.var 31 (rvB (rzT l) (rzN l) (rzA l))) (.tup [.slice true (.ro (.var 24 ks)) (.lit 0) (.var 3 (rzn l)),.int .i64 (.var 13 (Ft (rzT l) 8 (rzA l)))]) (.var 11 (rzX l))):=gH (c:=Sm l) rfl rfl rfl fun hc=>⟨h8T,k63 G B (rzT l) (rzN l) ks (rzA l) kd hN (tZ h8 hL hc).1 g.d g.s⟩
 have c66:Jx (za G B) 96 66 (Em 2517 (fun xs=>Tm l&&Be (rzT l) (rzN l) (rzX l) [.int .i64 512,.func 67 []] xs) (.var 32 (rvD (rzT l) (rzX l))) (.tup [.slice true (.ro (.var 25 kp)) (.lit 0) (.var 4 (rzm l)),.int .i64 (.var 14 (Ft (rzT l) 512 (rzX l)))]) (.var 12 (gP l))):=gH (c:=Tm l) rfl rfl rfl fun hc=>⟨h8T,k66 G B (rzT l) (rzN l) kp (rzX l) hN (rz_2 h8 hL hc).rX g.p⟩
 have c28:DSumOk (za G B) 28 (gO 2518 (fun xs=>Tl l&&D9 [.agg [.int .i64 (Gk l),.slice true (.ro ks) 0 (rzn l),.slice true (.ro kp) 0 (rzm l)]] [] xs) (.var 33 (rzM G ks kp l)) (.var 21 (aI G ks kp l))):=aX8 (c:=Tl l) rfl rfl fun hc=>by
  have z:=rz_3 h8 hL hc;have hn:rzn l≤1000000:=by have:=z.z2.nn;omega
  have hm:rzm l≤1000000:=by have:=z.mm;omega
  obtain ⟨hb,hw⟩:=lR g z;exact ⟨fun hy=>⟨Dh (Dl hb hw hy),sV G B ks kp (rzn l) (rzm l) (Gk l) hb hw hn hm hy⟩,fun hy=>by_no G B ks kp (rzn l) (rzm l) (Gk l) hb hn hm hy⟩
 exact ⟨C7 (mix G B) (by kernel_rfl) (.cons c28 (L8 G B)) .nil,aQ c63 (aQ c66 zB),fun _ _ _ h=>(by cases h),fun ops k h=>jZ ops k h⟩
theorem aC2 {s:List AV} {M a:Int} (h:Fb s M a=0):N3 s M a=true:=by
 rw [P5];unfold Fb at h;split at h
 ·rename_i q;split at h
  ·exact absurd h (by decide)
  ·exact ⟨q,by omega⟩
 ·rename_i q;exact absurd h q
theorem rz_no {G:Nat→List AV} {ks kp:Nat} {l:List AV} (h:¬Y1 G ks kp l=true):Y1 G ks kp l=false:=by
 cases e:Y1 G ks kp l with
 | true=>exact absurd e h
 | false=>rfl
theorem En {G:Nat→List AV} {ks kp:Nat} {l:List AV} (h:Y1 G ks kp l=true):(8≤l.length∧((F8 (A0 l 0 4):List UInt8)==F8 magL)=true)∧Al (rzT l) 0=true∧(N3 (rzT l) 8 (rzA l)=true∧rvB (rzT l) (rzN l) (rzA l)=true)∧(N3 (rzT l) 512 (rzX l)=true∧rvD (rzT l) (rzX l)=true)∧(rzN l:Int)≤gP l∧rzM G ks kp l=true∧((F8 (aI G ks kp l):List UInt8)==F8 l)=true:=by
 simp only [Y1,Tl,Tm,Sm,rz0,zO,qC] at h;obtain ⟨⟨⟨⟨⟨a,b⟩,c⟩,d⟩,e⟩,f,g,k⟩:=h;exact ⟨⟨a,b⟩,c,d,e,f,g,k⟩
theorem Oy {m i:Nat} {ρ ρ':Env} {v:Value} (h:K3 m ρ ρ') (hi:i<m) (hv:VR ρ (.ptr (.rw i) 0) v):VR ρ' (.ptr (.rw i) 0) v:=by
 simp only [VR,S5] at hv ⊢;obtain ⟨e,h1,h2⟩:=hv;exact ⟨e,(h i hi).trans h1,h2⟩
theorem Oz {i:Nat} {ρ:Env} {d:List Nat} {v:Value} (hv:VR ρ (.ptr (.rw i) 0) v):VR ⟨ρ.rw,ρ.ro,d⟩ (.ptr (.rw i) 0) v:=by
 simp only [VR,S5] at hv ⊢;exact hv
theorem aJ9:Try.f29.results=#[.cell 2 25,.cell 3 29]:=by kernel_rfl
theorem res29 {t t':Array Value} (h2:t.getD 2 undef=t'.getD 2 undef) (h3:t.getD 3 undef=t'.getD 3 undef):results Try.f29 t=results Try.f29 t':=by
 rw [Qy,Qy,aJ9];have e2:Nh t (.cell 2 25)=Nh t' (.cell 2 25):=by unfold Nh;simp only [h2]
 have e3:Nh t (.cell 3 29)=Nh t' (.cell 3 29):=by unfold Nh;simp only [h3]
 simp only [Array.mapM_eq_mapM_toList,List.mapM_cons,List.mapM_nil,e2,e3]
open IntKind renaming wrap → wS
open List renaming length → wW
open Int renaming toNat → wZ
theorem t29r (G:Nat→List AV) (q1 q2 q3:List AV→Bool) (ks kp kb n m L:Nat) (x1 x2 e1 e2:Int) (b1 b2 my:Bool) (f:List AV) (Q:Ex→List AV→Hp→Prop) (R:AV→Hp→Prop):vT G Q R (Wn ⟨Dc Try.prog [59,42,60,61,85,62,65,69,68,70,87,92] ((28,gO 2518 q3 (.var 33 my) (.var 21 f))::progR) [] 1,96,Ko [(63,Em 2516 q1 (.var 31 b1) (.tup [.slice true (.ro (.var 24 ks)) (.lit 0) (.var 3 n),.int .i64 (.var 13 e1)]) (.var 11 x1)),(66,Em 2517 q2 (.var 32 b2) (.tup [.slice true (.ro (.var 25 kp)) (.lit 0) (.var 4 m),.int .i64 (.var 14 e2)]) (.var 12 x2))],fun _ _=>none,.skip⟩ 400 30 3 (O4 (O4 (C3 Try.f29))) 55 [0,2,3] [.slice true (.ro (.var 26 kb)) (.lit 0) (.var 5 L),.ptr (.rw 1) (.lit 0),.ptr (.rw 2) (.lit 0)] [none,some ⟨1,.of [.int .i64 (.lit 0),.nils,.nils]⟩,some ⟨1,.of [.int .i64 (.lit 0)]⟩])=(
  decide ((0:Int)≤(if 0>wS .i64 ((L:Int) - 4) then 0 else wS .i64 ((L:Int) - 4)))=true∧decide (((if 0>wS .i64 ((L:Int) - 4) then 0 else wS .i64 ((L:Int) - 4)):Int)≤(L:Int))=true∧(decide ((((wZ ((if 0>wS .i64 ((L:Int) - 4) then 0 else wS .i64 ((L:Int) - 4))):Nat):Int):Int)≥4)=true→decide ((4:Int)≤((wZ ((if 0>wS .i64 ((L:Int) - 4) then 0 else wS .i64 ((L:Int) - 4))):Nat):Int))=true∧leB 4 (wW (G kb))=true∧u8s (A0 (G kb) 0 4)=true∧u8s ([.int .u8 83,.int .u8 84,.int .u8 68,.int .u8 1]:List AV)=true∧((((F8 (A0 (G kb) 0 4)):List UInt8)==(F8 ([.int .u8 83,.int .u8 84,.int .u8 68,.int .u8 1]:List AV)))=true→decide ((4:Int)≤(if 0>wS .i64 ((L:Int) - 4) then 0 else wS .i64 ((L:Int) - 4)))=true∧decide (((if 0>wS .i64 ((L:Int) - 4) then 0 else wS .i64 ((L:Int) - 4)):Int)≤(L:Int))=true∧decide ((0:Int)≤wS .i64 ((((wZ ((if 0>wS .i64 ((L:Int) - 4) then 0 else wS .i64 ((L:Int) - 4)))) - 4:Nat):Int)+1))=true∧decide ((Vq 1 [.int .i64 (wS .i64 ((((wZ ((if 0>wS .i64 ((L:Int) - 4) then 0 else wS .i64 ((L:Int) - 4)))) - 4:Nat):Int)+1))]:Int)≤140737488355328)=true∧decide ((wS .i64 ((((wZ ((if 0>wS .i64 ((L:Int) - 4) then 0 else wS .i64 ((L:Int) - 4)))) - 4:Nat):Int)+1):Int)≤140737488355328)=true∧leB (4+((wZ ((if 0>wS .i64 ((L:Int) - 4) then 0 else wS .i64 ((L:Int) - 4)))) - 4)) (wW (G kb))=true∧
 cellsB (A0 (G kb) 4 ((wZ ((if 0>wS .i64 ((L:Int) - 4) then 0 else wS .i64 ((L:Int) - 4)))) - 4))=true∧leB ((wZ ((if 0>wS .i64 ((L:Int) - 4) then 0 else wS .i64 ((L:Int) - 4)))) - 4) 140737488355328=true∧okRdU [.agg (A0 (G kb) 4 ((wZ ((if 0>wS .i64 ((L:Int) - 4) then 0 else wS .i64 ((L:Int) - 4)))) - 4)),.ptr (.rw 0) ((wZ ((if 0>wS .i64 ((L:Int) - 4) then 0 else wS .i64 ((L:Int) - 4)))) - 4),.int .i64 0]=true∧(((C0 [.agg (A0 (G kb) 4 ((wZ ((if 0>wS .i64 ((L:Int) - 4) then 0 else wS .i64 ((L:Int) - 4)))) - 4)),.int .i64 0]:Int)==0)=true→(decide ((A7 [.agg (A0 (G kb) 4 ((wZ ((if 0>wS .i64 ((L:Int) - 4) then 0 else wS .i64 ((L:Int) - 4)))) - 4)),.int .i64 0]:Int)>131072)=true→R (.func 987654 []) [none,some ⟨1,([.int .i64 0,.nils,.nils]:List AV)⟩,some ⟨1,([.int .i64 0]:List AV)⟩,some ⟨1,([.int .u8 83,.int .u8 84,.int .u8 68,.int .u8 1]:List AV)⟩,none,some ⟨1,(A0 (G kb) 4 ((wZ ((if 0>wS .i64 ((L:Int) - 4) then 0 else wS .i64 ((L:Int) - 4)))) - 4))⟩,some ⟨1,([.slice false (.rw 5) 0 ((wZ ((if 0>wS .i64 ((L:Int) - 4) then 0 else wS .i64 ((L:Int) - 4)))) - 4),.int .i64 (A3 [.agg (A0 (G kb) 4 ((wZ ((if 0>wS .i64 ((L:Int) - 4) then 0 else wS .i64 ((L:Int) - 4)))) - 4)),.int .i64 0])]:List AV)⟩])∧
 (decide ((A7 [.agg (A0 (G kb) 4 ((wZ ((if 0>wS .i64 ((L:Int) - 4) then 0 else wS .i64 ((L:Int) - 4)))) - 4)),.int .i64 0]:Int)>131072)=false→q1 [.agg (A0 (G kb) 4 ((wZ ((if 0>wS .i64 ((L:Int) - 4) then 0 else wS .i64 ((L:Int) - 4)))) - 4)),.ptr (.rw 0) ((wZ ((if 0>wS .i64 ((L:Int) - 4) then 0 else wS .i64 ((L:Int) - 4)))) - 4),.int .i64 (A3 [.agg (A0 (G kb) 4 ((wZ ((if 0>wS .i64 ((L:Int) - 4) then 0 else wS .i64 ((L:Int) - 4)))) - 4)),.int .i64 0]),.agg ([.int .i64 8,.func 64 []]:List AV)]=true∧(b1=true→(((e1:Int)==0)=true→q2 [.agg (A0 (G kb) 4 ((wZ ((if 0>wS .i64 ((L:Int) - 4) then 0 else wS .i64 ((L:Int) - 4)))) - 4)),.ptr (.rw 0) ((wZ ((if 0>wS .i64 ((L:Int) - 4) then 0 else wS .i64 ((L:Int) - 4)))) - 4),.int .i64 x1,.agg ([.int .i64 512,.func 67 []]:List AV)]=true∧(b2=true→(((e2:Int)==0)=true→(decide ((wS .i64 ((((wZ ((if 0>wS .i64 ((L:Int) - 4) then 0 else wS .i64 ((L:Int) - 4)))) - 4:Nat):Int) - x2):Int)>0)=true→
 R (.func 987654 []) [none,some ⟨1,([.int .i64 (wS .i64 (A7 [.agg (A0 (G kb) 4 ((wZ ((if 0>wS .i64 ((L:Int) - 4) then 0 else wS .i64 ((L:Int) - 4)))) - 4)),.int .i64 0])),.slice true (.ro ks) 0 n,.slice true (.ro kp) 0 m]:List AV)⟩,some ⟨1,([.int .i64 0]:List AV)⟩,some ⟨1,([.int .u8 83,.int .u8 84,.int .u8 68,.int .u8 1]:List AV)⟩,none,some ⟨1,(A0 (G kb) 4 ((wZ ((if 0>wS .i64 ((L:Int) - 4) then 0 else wS .i64 ((L:Int) - 4)))) - 4))⟩,some ⟨1,([.slice false (.rw 5) 0 ((wZ ((if 0>wS .i64 ((L:Int) - 4) then 0 else wS .i64 ((L:Int) - 4)))) - 4),.int .i64 x2]:List AV)⟩])∧(decide ((wS .i64 ((((wZ ((if 0>wS .i64 ((L:Int) - 4) then 0 else wS .i64 ((L:Int) - 4)))) - 4:Nat):Int) - x2):Int)>0)=false→q3 [.agg ([.agg ([.int .i64 (wS .i64 (A7 [.agg (A0 (G kb) 4 ((wZ ((if 0>wS .i64 ((L:Int) - 4) then 0 else wS .i64 ((L:Int) - 4)))) - 4)),.int .i64 0])),.slice true (.ro ks) 0 n,.slice true (.ro kp) 0 m]:List AV)]:List AV),.agg ([]:List AV)]=true∧(my=true→leB (wW f) (wW f)=true∧u8s (A0 f 0 (wW f))=true∧leB L (wW (G kb))=true∧u8s (A0 (G kb) 0 L)=true∧((((F8 (A0 f 0 (wW f))):List UInt8)==(F8 (A0 (G kb) 0 L)))=true→
 Q .ret [.slice true (.ro kb) 0 L,.ptr (.rw 1) 0,.ptr (.rw 2) 0] [none,some ⟨1,([.int .i64 (wS .i64 (A7 [.agg (A0 (G kb) 4 ((wZ ((if 0>wS .i64 ((L:Int) - 4) then 0 else wS .i64 ((L:Int) - 4)))) - 4)),.int .i64 0])),.slice true (.ro ks) 0 n,.slice true (.ro kp) 0 m]:List AV)⟩,some ⟨1,([.int .i64 0]:List AV)⟩,some ⟨1,([.int .u8 83,.int .u8 84,.int .u8 68,.int .u8 1]:List AV)⟩,none,some ⟨1,(A0 (G kb) 4 ((wZ ((if 0>wS .i64 ((L:Int) - 4) then 0 else wS .i64 ((L:Int) - 4)))) - 4))⟩,some ⟨1,([.slice false (.rw 5) 0 ((wZ ((if 0>wS .i64 ((L:Int) - 4) then 0 else wS .i64 ((L:Int) - 4)))) - 4),.int .i64 x2]:List AV)⟩,some ⟨1,f⟩])∧((((F8 (A0 f 0 (wW f))):List UInt8)==(F8 (A0 (G kb) 0 L)))=false→R (.func 987654 []) [none,some ⟨1,([.int .i64 (wS .i64 (A7 [.agg (A0 (G kb) 4 ((wZ ((if 0>wS .i64 ((L:Int) - 4) then 0 else wS .i64 ((L:Int) - 4)))) - 4)),.int .i64 0])),.slice true (.ro ks) 0 n,.slice true (.ro kp) 0 m]:List AV)⟩,some ⟨1,([.int .i64 0]:List AV)⟩,some ⟨1,([.int .u8 83,.int .u8 84,.int .u8 68,.int .u8 1]:List AV)⟩,none,some ⟨1,(A0 (G kb) 4 ((wZ ((if 0>wS .i64 ((L:Int) - 4) then 0 else wS .i64 ((L:Int) - 4)))) - 4))⟩,some ⟨1,([.slice false (.rw 5) 0 ((wZ ((if 0>wS .i64 ((L:Int) - 4) then 0 else wS .i64 ((L:Int) - 4)))) - 4),.int .i64 x2]:List AV)⟩,some ⟨1,f⟩]))∧(my=false→
 R (.func 987654 []) [none,some ⟨1,([.int .i64 (wS .i64 (A7 [.agg (A0 (G kb) 4 ((wZ ((if 0>wS .i64 ((L:Int) - 4) then 0 else wS .i64 ((L:Int) - 4)))) - 4)),.int .i64 0])),.slice true (.ro ks) 0 n,.slice true (.ro kp) 0 m]:List AV)⟩,some ⟨1,([.int .i64 0]:List AV)⟩,some ⟨1,([.int .u8 83,.int .u8 84,.int .u8 68,.int .u8 1]:List AV)⟩,none,some ⟨1,(A0 (G kb) 4 ((wZ ((if 0>wS .i64 ((L:Int) - 4) then 0 else wS .i64 ((L:Int) - 4)))) - 4))⟩,some ⟨1,([.slice false (.rw 5) 0 ((wZ ((if 0>wS .i64 ((L:Int) - 4) then 0 else wS .i64 ((L:Int) - 4)))) - 4),.int .i64 x2]:List AV)⟩])))∧(((e2:Int)==0)=false→R (.func 987654 []) [none,some ⟨1,([.int .i64 (wS .i64 (A7 [.agg (A0 (G kb) 4 ((wZ ((if 0>wS .i64 ((L:Int) - 4) then 0 else wS .i64 ((L:Int) - 4)))) - 4)),.int .i64 0])),.slice true (.ro ks) 0 n,.nils]:List AV)⟩,some ⟨1,([.int .i64 0]:List AV)⟩,some ⟨1,([.int .u8 83,.int .u8 84,.int .u8 68,.int .u8 1]:List AV)⟩,none,some ⟨1,(A0 (G kb) 4 ((wZ ((if 0>wS .i64 ((L:Int) - 4) then 0 else wS .i64 ((L:Int) - 4)))) - 4))⟩,some ⟨1,([.slice false (.rw 5) 0 ((wZ ((if 0>wS .i64 ((L:Int) - 4) then 0 else wS .i64 ((L:Int) - 4)))) - 4),.int .i64 x2]:List AV)⟩]))∧(b2=false→
 R (.func 987654 []) [none,some ⟨1,([.int .i64 (wS .i64 (A7 [.agg (A0 (G kb) 4 ((wZ ((if 0>wS .i64 ((L:Int) - 4) then 0 else wS .i64 ((L:Int) - 4)))) - 4)),.int .i64 0])),.slice true (.ro ks) 0 n,.nils]:List AV)⟩,some ⟨1,([.int .i64 0]:List AV)⟩,some ⟨1,([.int .u8 83,.int .u8 84,.int .u8 68,.int .u8 1]:List AV)⟩,none,none,none]))∧(((e1:Int)==0)=false→R (.func 987654 []) [none,some ⟨1,([.int .i64 (wS .i64 (A7 [.agg (A0 (G kb) 4 ((wZ ((if 0>wS .i64 ((L:Int) - 4) then 0 else wS .i64 ((L:Int) - 4)))) - 4)),.int .i64 0])),.nils,.nils]:List AV)⟩,some ⟨1,([.int .i64 0]:List AV)⟩,some ⟨1,([.int .u8 83,.int .u8 84,.int .u8 68,.int .u8 1]:List AV)⟩,none,some ⟨1,(A0 (G kb) 4 ((wZ ((if 0>wS .i64 ((L:Int) - 4) then 0 else wS .i64 ((L:Int) - 4)))) - 4))⟩,some ⟨1,([.slice false (.rw 5) 0 ((wZ ((if 0>wS .i64 ((L:Int) - 4) then 0 else wS .i64 ((L:Int) - 4)))) - 4),.int .i64 x1]:List AV)⟩]))∧(b1=false→R (.func 987654 []) [none,some ⟨1,([.int .i64 (wS .i64 (A7 [.agg (A0 (G kb) 4 ((wZ ((if 0>wS .i64 ((L:Int) - 4) then 0 else wS .i64 ((L:Int) - 4)))) - 4)),.int .i64 0])),.nils,.nils]:List AV)⟩,some ⟨1,([.int .i64 0]:List AV)⟩,some ⟨1,([.int .u8 83,.int .u8 84,.int .u8 68,.int .u8 1]:List AV)⟩,none,none,none])))∧(((C0 [.agg (A0 (G kb) 4 ((wZ ((if 0>wS .i64 ((L:Int) - 4) then 0 else wS .i64 ((L:Int) - 4)))) - 4)),.int .i64 0]:Int)==0)=false→
 R (.func 987654 []) [none,some ⟨1,([.int .i64 0,.nils,.nils]:List AV)⟩,some ⟨1,([.int .i64 0]:List AV)⟩,some ⟨1,([.int .u8 83,.int .u8 84,.int .u8 68,.int .u8 1]:List AV)⟩,none,some ⟨1,(A0 (G kb) 4 ((wZ ((if 0>wS .i64 ((L:Int) - 4) then 0 else wS .i64 ((L:Int) - 4)))) - 4))⟩,some ⟨1,([.slice false (.rw 5) 0 ((wZ ((if 0>wS .i64 ((L:Int) - 4) then 0 else wS .i64 ((L:Int) - 4)))) - 4),.int .i64 (A3 [.agg (A0 (G kb) 4 ((wZ ((if 0>wS .i64 ((L:Int) - 4) then 0 else wS .i64 ((L:Int) - 4)))) - 4)),.int .i64 0])]:List AV)⟩]))∧((((F8 (A0 (G kb) 0 4)):List UInt8)==(F8 ([.int .u8 83,.int .u8 84,.int .u8 68,.int .u8 1]:List AV)))=false→R (.func 987654 []) [none,some ⟨1,([.int .i64 0,.nils,.nils]:List AV)⟩,some ⟨1,([.int .i64 0]:List AV)⟩,some ⟨1,([.int .u8 83,.int .u8 84,.int .u8 68,.int .u8 1]:List AV)⟩]))∧(decide ((((wZ ((if 0>wS .i64 ((L:Int) - 4) then 0 else wS .i64 ((L:Int) - 4))):Nat):Int):Int)≥4)=false→R (.func 987654 []) [none,some ⟨1,([.int .i64 0,.nils,.nils]:List AV)⟩,some ⟨1,([.int .i64 0]:List AV)⟩,some ⟨1,([.int .u8 83,.int .u8 84,.int .u8 68,.int .u8 1]:List AV)⟩])):=by kernel_rfl
section
variable (G:Nat→List AV) (B:Nat)
theorem w6aR :H7 (za G B) (fl 12 [0,1,10] [.ptr (.rw 1) 0,.ptr (.rw 2) 0,.agg []]) [none,some ⟨1,[.undef,.undef,.undef]⟩,some ⟨1,[.undef]⟩] o6a.op=some (true,.ptr (.rw 3) 0,.new ⟨1,[]⟩):=by kernel_rfl
theorem w6bR :H7 (za G B) (put (fl 12 [0,1,10] [.ptr (.rw 1) 0,.ptr (.rw 2) 0,.agg []]) (some 3) (.ptr (.rw 3) 0)) [none,some ⟨1,[.undef,.undef,.undef]⟩,some ⟨1,[.undef]⟩,some ⟨1,[]⟩] o6b.op=some (true,.tup [],.set 3 ⟨1,[]⟩):=by kernel_rfl
theorem w7bR :H7 (za G B) (put (put (put (fl 12 [0,1,10] [.ptr (.rw 1) 0,.ptr (.rw 2) 0,.agg []]) (some 3) (.ptr (.rw 3) 0)) none (.tup [])) (some 11) (.agg [.int .i64 0,.nils,.nils])) [none,some ⟨1,[.undef,.undef,.undef]⟩,some ⟨1,[.undef]⟩,some ⟨1,[]⟩] o7b.op=some (true,.tup [],.set 1 ⟨1,[.int .i64 0,.nils,.nils]⟩):=by kernel_rfl
theorem w7cR :H7 (za G B) (put (put (put (put (fl 12 [0,1,10] [.ptr (.rw 1) 0,.ptr (.rw 2) 0,.agg []]) (some 3) (.ptr (.rw 3) 0)) none (.tup [])) (some 11) (.agg [.int .i64 0,.nils,.nils])) none (.tup [])) [none,some ⟨1,[.int .i64 0,.nils,.nils]⟩,some ⟨1,[.undef]⟩,some ⟨1,[]⟩] o7c.op=some (true,.tup [],.set 2 ⟨1,[.int .i64 4]⟩):=by kernel_rfl
theorem aW1 (E:Hp) {ρ:Env} {w:World} {a0:Act} (hT:B2 (za G B) ρ ([none,some ⟨1,[.undef,.undef,.undef]⟩,some ⟨1,[.undef]⟩]++E) w) (hd:a0.defers=[]) (hs:a0.tmps.size=12) (q0:VR ρ (.ptr (.rw 1) 0) (a0.tmps.getD 0 undef)) (q1:VR ρ (.ptr (.rw 2) 0) (a0.tmps.getD 1 undef)) (q2:VR ρ (.agg []) (a0.tmps.getD 10 undef))
  {Q:Exit→Act→World→Prop} (hQ:∀ ρ3 a' w3,K3 3 ρ ρ3→B2 (za G B) ρ3 [none,some ⟨1,[.int .i64 0,.nils,.nils]⟩,some ⟨1,[.int .i64 4]⟩,some ⟨1,[]⟩] w3→Frm ρ w ρ3 w3→a'.defers=[]→Q .normal a' w3):(cyes (cno (O4 (blkC (O4 (C3 Try.f58)))))).wpIn (W none) 0 Try.prog Q a0 w:=by
 have hv:C5 3 [.ptr (.rw 1) 0,.ptr (.rw 2) 0,.agg []] [none,some ⟨1,[.undef,.undef,.undef]⟩,some ⟨1,[.undef]⟩] [.ptr (.rw 1) 0,.ptr (.rw 2) 0,.agg []] ([none,some ⟨1,[.undef,.undef,.undef]⟩,some ⟨1,[.undef]⟩]++E):=C5.same (by simp) (by simp [I1,A6,B0]) ⟨⟨rfl,rfl⟩,⟨rfl,rfl⟩,⟨rfl,rfl⟩,trivial⟩
 obtain ⟨ρ2,g1,g2,g3,g4⟩:=hv.live (N:=12) (live:=[0,1,10]) (a:=a0) hT (by obtain ⟨t,d⟩:=a0;cases hd;exact jA.nil) hs rfl (fun j i v h1 h2=>by
  match j,h1,h2 with
  | 0,h1,h2=>simp at h1 h2;subst h1 h2;exact q0
  | 1,h1,h2=>simp at h1 h2;subst h1 h2;exact q1
  | 2,h1,h2=>simp at h1 h2;subst h1 h2;exact q2)
 have g0:=Fz (C:=(za G B)) (mix G B) [];rw [c58_eq];refine wpIn_seq (wpIn_region_list ?_);refine sM g0 (all:=[o6a,o6b]) (l:=[o6a,o6b]) (.cons (o:=o6a) (.write rfl (by kernel_rfl) (w6aR G B)) (.cons (o:=o6b) (.write rfl (by kernel_rfl) (w6bR G B)) (.nil _ _))) ρ2 a0 w g1 g2 fun ρ4 a4 w4 k1 k2 k3 k4 k5=>?_;refine wpIn_region_list ?_
 refine sM g0 (all:=[o7a,o7b,o7c]) (l:=[o7a,o7b,o7c]) (.cons (o:=o7a) (.pure rfl (by kernel_rfl) (w7a G B)) (.cons (o:=o7b) (.write rfl (by kernel_rfl) (w7bR G B)) (.cons (o:=o7c) (.write rfl (by kernel_rfl) (w7cR G B)) (.nil _ _)))) ρ4 a4 w4 k1 k2 fun ρ5 a5 w5 j1 j2 j3 j4 j5=>?_;exact hQ ρ5 a5 w5 (g3.trans (K3.of_le g1 (Env.le_trans k3 j3) (by simp))) j1 (g4.trans (k4.trans j4)) (j5.trans (k5.trans hd))
theorem bA7 (E:Hp) (x y z u:AV) {ρ:Env} {w:World} {p2 p3:Value} (hH:B2 (za G B) ρ ([none,some ⟨1,[x,y,z]⟩,some ⟨1,[u]⟩]++E) w) (h2:VR ρ (.ptr (.rw 1) 0) p2) (h3:VR ρ (.ptr (.rw 2) 0) p3) :
  CallsDIn Fence.wide 0 Try.prog 58 #[p2,p3] (.panicking (PX 96)) w fun e u' w3=>e=.returned (.tuple #[])∧settle u'=.returning∧∃ ρ3,K3 3 ρ ρ3∧B2 (za G B) ρ3 [none,some ⟨1,[.int .i64 0,.nils,.nils]⟩,some ⟨1,[.int .i64 4]⟩,some ⟨1,[]⟩] w3∧Frm ρ w ρ3 w3:=by
 refine callsDIn_of_wpSIn (fn:=Try.f58) (c:=C3 Try.f58) (by kernel_rfl) (by kernel_rfl) trivial fun c₀ cs hu=>?_;rw [aC7];have hnt:Try.f58.ntmps=12:=by kernel_rfl
 have hres:Try.f58.results=#[]:=by kernel_rfl
 rw [hnt];apply wpSIn_seq;apply wpSIn_region;have hr:recoverD (c₀::cs)=some (.iface 96 (.agg #[]),{ c₀ with mode:=.panicking [{ v:=.iface 96 (.agg #[]),recovered:=true }] }::cs):=by simp [recoverD,hu,PX]
 have e0:List.range (#[o58]:Array Oper).size=[0]:=rfl;rw [e0];unfold wpOpsSIn;have e1:(#[o58]:Array Oper)[0]?=some o58:=rfl;rw [e1];refine ⟨fun _ _=>trivial,?_⟩;rw [if_pos (by rfl),yJ];simp only [hr];unfold wpOpsSIn;show Exit.thenS _ _ .normal _ _ _;unfold Exit.thenS;refine wpSIn_of_wpIn rfl (wpIn_block (wpIn_seq (wpIn_region_list ?_)));simp [wpListIn,Oper.wpIn,q58,o58,go_sem];refine wpIn_cond_false (by simp [Act.eval,Array.replicate]) ?_;rw [z58_eq];refine wpIn_seq (wpIn_region_list ?_);show wpListIn (W none) 0 Try.prog #[dI,mD,mC] _ [dI,mD,mC] _ w;unfold wpListIn
 rw [if_pos (by rfl)];refine U1 (by rintro c hh;cases hh) ?_;rw [run58a (by simp [Act.eval,Array.replicate])];show wpListIn Fence.wide 0 Try.prog _ _ [mD,mC] _ w;simp [wpListIn,Oper.wpIn,dI,mD,mC,go_sem];refine wpIn_cond_true (by simp [Act.eval,Array.replicate]) ?_;have hT:B2 (za G B) ρ ([none,some ⟨1,[.undef,.undef,.undef]⟩,some ⟨1,[.undef]⟩]++E) w:=hH.tell (Te (A:=[none,some ⟨1,[x,y,z]⟩,some ⟨1,[u]⟩]) ⟨und3 x y z rfl,und1 u rfl,trivial⟩ (Qq E))
 refine aW1 G B E hT rfl (by simp) (by simpa using h2) (by simpa using h3) (by simp [VR,VRs,Array.replicate]) fun ρ3 a' w3 k1 k2 k3 k4=>?_;simp only [Exit.inBlock,bodyPostS];exact ⟨k4,_,rfl,.tuple #[],by simp [results,hres],rfl,rfl,ρ3,k1,k2,k3⟩
end
theorem aI2 (G:Nat→List AV) (B:Nat) (ks kp kb:Nat) (kd:Nat→Nat) (l:List AV) (hk:G kb=l) (h8:E4 l=true) (hL:l.length≤1000000) (g:Yh G ks kp kd l) :
  vT G (fun e vs H=>e=Ex.ret∧Y1 G ks kp l=true∧vs=[.slice true (.ro kb) 0 l.length,.ptr (.rw 1) 0,.ptr (.rw 2) 0]∧∃ E:Hp,H=[none,some ⟨1,[.int .i64 (Gk l),.slice true (.ro ks) 0 (rzn l),.slice true (.ro kp) 0 (rzm l)]⟩,some ⟨1,[.int .i64 0]⟩]++E) (fun _ H=>Y1 G ks kp l=false∧∃ (x y z u:AV) (E:Hp),H=[none,some ⟨1,[x,y,z]⟩,some ⟨1,[u]⟩]++E) (Wn (⟨Dc Try.prog [59,42,60,61,85,62,65,69,68,70,87,92] ((28,(gO 2518 (fun xs=>Tl l&&D9 [.agg [.int .i64 (Gk l),.slice true (.ro ks) 0 (rzn l),.slice true (.ro kp) 0 (rzm l)]] [] xs) (.var 33 (rzM G ks kp l)) (.var 21 (aI G ks kp l))))::progR) [] 1,96,Ko [(63,(Em 2516 (fun xs=>Sm l&&Be (rzT l) (rzN l) (rzA l) [.int .i64 8,.func 64 []] xs) (.var 31 (rvB (rzT l) (rzN l) (rzA l))) (.tup [.slice true (.ro (.var 24 ks)) (.lit 0) (.var 3 (rzn l)),.int .i64 (.var 13 (Ft (rzT l) 8 (rzA l)))]) (.var 11 (rzX l)))),(66,(Em 2517 (fun xs=>Tm l&&Be (rzT l) (rzN l) (rzX l) [.int .i64 512,.func 67 []] xs) (.var 32 (rvD (rzT l) (rzX l))) (.tup [.slice true (.ro (.var 25 kp)) (.lit 0) (.var 4 (rzm l)),.int .i64 (.var 14 (Ft (rzT l) 512 (rzX l)))]) (.var 12 (gP l))))],fun _ _=>none,.skip⟩:Hf) 400 30 3 (O4 (O4 (C3 Try.f29))) 55 [0,2,3] [.slice true (.ro (.var 26 kb)) (.lit 0) (.var 5 l.length),.ptr (.rw 1) (.lit 0),.ptr (.rw 2) (.lit 0)] [none,some ⟨1,.of [.int .i64 (.lit 0),.nils,.nils]⟩,some ⟨1,.of [.int .i64 (.lit 0)]⟩]):=by
 rw [t29r,hk]
 have eE:Int.toNat (if 0>IntKind.wrap .i64 (((l.length:Nat):Int) - 4) then 0 else IntKind.wrap .i64 (((l.length:Nat):Int) - 4))=l.length - 4:=by
  rw [B5 (n:=((l.length:Nat):Int) - 4) (by omega)]
  split<;>omega
 have eE2:(if 0>IntKind.wrap .i64 (((l.length:Nat):Int) - 4) then 0 else IntKind.wrap .i64 (((l.length:Nat):Int) - 4))=((l.length - 4:Nat):Int):=by
  rw [B5 (n:=((l.length:Nat):Int) - 4) (by omega)]
  split<;>omega
 rw [eE2,Int.toNat_natCast];have eN:l.length - 4 - 4=rzN l:=by unfold rzN;omega
 rw [eN];have eT:A0 l 4 (rzN l)=rzT l:=rfl;have eL:A0 l 0 l.length=l:=L3 rfl;have eF:A0 (aI G ks kp l) 0 (aI G ks kp l).length=aI G ks kp l:=L3 rfl;rw [eT,eL,eF];have h8T:=uA h8;have hN:rzN l≤1000000:=by unfold rzN;omega
 have r0:=aH h8 hL;rw [B5 (n:=((rzN l:Nat):Int)+1) (by omega)];have bg:Vq 1 [.int .i64 (((rzN l:Nat):Int)+1)]≤140737488355328:=by show (((rzN l:Nat):Int)+1)*((1:Nat):Int)≤_;omega
 have u4:u8s (A0 l 0 4)=true:=by
  have:=G9 h8
  simp only [u8s,qD,A0] at this ⊢;exact fun v hv=>this v (List.mem_of_mem_drop (List.mem_of_mem_take hv))
 have no:∀ {x y z u:AV} {E:Hp},(Y1 G ks kp l=true→False)→(fun _ H=>Y1 G ks kp l=false∧∃ (x y z u:AV) (E:Hp),H=[none,some ⟨1,[x,y,z]⟩,some ⟨1,[u]⟩]++E) (AV.func 987654 []) ([none,some ⟨1,[x,y,z]⟩,some ⟨1,[u]⟩]++E):=fun h=>⟨rz_no h,_,_,_,_,_,rfl⟩;refine ⟨yI (by omega),yI (by omega),fun h4=>?_,fun h4=>?_⟩
 ·have h4:=zR h4;have hl8:8≤l.length:=by omega
  refine ⟨yI (by omega),A8.2 (by omega),u4,rfl,fun hm=>?_,fun hm=>?_⟩
  ·refine ⟨yI (by omega),yI (by omega),yI (by omega),yI bg,yI (by omega),A8.2 (by unfold rzN;omega),F9 (G9 h8T),A8.2 (by omega),E0.2 r0,fun e0=>⟨fun v0=>?_,fun v0=>?_⟩,fun e0=>?_⟩
   ·exact no fun o=>by
     have q:=(N9.1 (En o).2.1).2
     have:=zR v0
     omega
   ·have c1:Sm l=true:=by
     simp only [Sm,rz0,zO,qC];exact ⟨⟨hl8,hm⟩,N9.2 ⟨eq_of_beq e0,by have:=sJ v0;omega⟩⟩
    obtain ⟨rA,s0,s1⟩:=tZ h8 hL c1;have eS:IntKind.wrap .i64 (A7 [.agg (rzT l),.int .i64 0])=Gk l:=B5 (n:=Gk l) (by omega);rw [eS];refine ⟨by show (Sm l&&Be _ _ _ _ _)=true;rw [c1];exact Nx,fun b1=>⟨fun e1=>?_,fun e1=>?_⟩,fun b1=>?_⟩
    ·have k1:N3 (rzT l) 8 (rzA l)=true:=by
      cases e:N3 (rzT l) 8 (rzA l) with
      | true=>rfl
      | false=>
       exfalso;unfold Ft at e1;rw [if_neg (by rw [e];decide)] at e1;rw [aC2 (eq_of_beq e1)] at e;cases e
     have c2:Tm l=true:=by simp only [Tm,zO];exact ⟨c1,k1,b1⟩
     have z2:=rz_2 h8 hL c2;refine ⟨by show (Tm l&&Be _ _ _ _ _)=true;rw [c2];exact Nx,fun b2=>⟨fun e2=>?_,fun e2=>?_⟩,fun b2=>?_⟩
     ·have k2:N3 (rzT l) 512 (rzX l)=true:=by
       cases e:N3 (rzT l) 512 (rzX l) with
       | true=>rfl
       | false=>
        exfalso;unfold Ft at e2;rw [if_neg (by rw [e];decide)] at e2;rw [aC2 (eq_of_beq e2)] at e;cases e
      have c3:Tl l=true:=by simp only [Tl,zO];exact ⟨c2,k2,b2⟩
      have z:=rz_3 h8 hL c3
      have rY:D8 (rzT l) (rzN l) (gP l):=by
       unfold gP lT;rw [if_pos k2];exact (dQ z.rp z.all _ (zA7 _)).1
      have p1:=rY.pos;have p2:=rY.le;rw [B5 (n:=((rzN l:Nat):Int) - gP l) (by omega)];refine ⟨fun lf=>?_,fun lf=>⟨by show (Tl l&&D9 _ _ _)=true;rw [c3,Bool.true_and];exact D2 (vs0:=[.agg [.int .i64 (Gk l),.slice true (.ro ks) 0 (rzn l),.slice true (.ro kp) 0 (rzm l)]]) (H0:=[]),fun my=>?_,fun my=>?_⟩⟩
      ·exact no fun o=>by have:=(En o).2.2.2.2.1;have:=zR lf;omega
      ·obtain ⟨hb,hw⟩:=lR g z;have uF:u8s (aI G ks kp l)=true:=Dh (Dl hb hw my);refine ⟨A8.2 (zA7 _),uF,A8.2 (zA7 _),G9 h8,fun ef=>⟨rfl,?_,rfl,_,rfl⟩,fun ef=>no fun o=>?_⟩
       ·simp only [Y1,zO,qC];exact ⟨c3,by have:=sJ lf;omega,my,ef⟩
       ·rw [(En o).2.2.2.2.2.2] at ef;cases ef
      ·exact no fun o=>by rw [(En o).2.2.2.2.2.1] at my;cases my
     ·exact no fun o=>by
       have k2:=(En o).2.2.2.1.1;unfold Ft at e2;rw [if_pos k2] at e2;cases e2
     ·exact no fun o=>by rw [(En o).2.2.2.1.2] at b2;cases b2
    ·exact no fun o=>by
      have k1:=(En o).2.2.1.1;unfold Ft at e1;rw [if_pos k1] at e1;cases e1
    ·exact no fun o=>by rw [(En o).2.2.1.2] at b1;cases b1
   ·exact no fun o=>by
     have q:=(N9.1 (En o).2.1).1;rw [q] at e0;cases e0
  ·exact no fun o=>by
    have q:=(En o).1.2;have hm:((F8 (A0 l 0 4):List UInt8)==F8 magL)=false:=hm;rw [q] at hm;cases hm
 ·exact no fun o=>by have:=(En o).1.1;have:=sJ h4;omega
end Go.Am
