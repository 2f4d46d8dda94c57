/-
  Images as files: the document's Bytes. Images as files: the document's Bytes, its call.
-/
import Derived.Test.YthejjolnlngahaaPart14
import Derived.Test.YthejjolnlngahaaPart8
namespace Go.Am
open Go.Proofs Crc
open IntKind renaming wrap → wS
open List renaming length → wW
set_option maxRecDepth 100000
section
variable (G:Nat→List AV) (B:Nat)
theorem oU {a b:Nat} (h:a=b):Nat.beq a b=true:=by rw [h];exact zA9 _
theorem L3 {l:List AV} {n:Nat} (h:l.length=n):A0 l 0 n=l:=by subst h;simp [A0]
theorem aJ3 (ks kp n m:Nat) (s:Int) (A:List AV) (hA:u8s A=true) (hl:A.length≤1000) (h:Ed G (G ks) n):AWp (za G B) 0 (.loop (A5 Try.f30 0)) (fl 106 [1,3,4] [.ptr (.rw 0) 0,.slice false (.rw 1) 0 A.length,.int .i64 0]) [some ⟨1,[.int .i64 s,.slice true (.ro ks) 0 n,.slice true (.ro kp) 0 m]⟩,some ⟨1,A⟩] (lv 106 [1,3,4] fun e vs H=>e=.exit 0∧wk [.ptr (.rw 0) 0,.slice false (.rw 1) 0 (A++B9 G (G ks) n).length,.undef] vs∧H=[some ⟨1,[.int .i64 s,.slice true (.ro ks) 0 n,.slice true (.ro kp) 0 m]⟩,some ⟨1,A++B9 G (G ks) n⟩]):=by
 have e0:A=A++B9 G (G ks) 0:=by rw [B9,List.append_nil]
 have start:AWp (za G B) 0 (.loop (A5 Try.f30 0)) (fl 106 [1,3,4] [.ptr (.rw 0) 0,.slice false (.rw 1) 0 (A++B9 G (G ks) 0).length,.int .i64 ((0:Nat):Int)]) [some ⟨1,[.int .i64 s,.slice true (.ro ks) 0 n,.slice true (.ro kp) 0 m]⟩,some ⟨1,A++B9 G (G ks) 0⟩] (lv 106 [1,3,4] fun e vs H=>e=.exit 0∧wk [.ptr (.rw 0) 0,.slice false (.rw 1) 0 (A++B9 G (G ks) n).length,.undef] vs∧H=[some ⟨1,[.int .i64 s,.slice true (.ro ks) 0 n,.slice true (.ro kp) 0 m]⟩,some ⟨1,A++B9 G (G ks) n⟩]):=by
  refine W8 n (fun k=>[.ptr (.rw 0) 0,.slice false (.rw 1) 0 (A++B9 G (G ks) k).length,.int .i64 (k:Int)]) (fun k=>[some ⟨1,[.int .i64 s,.slice true (.ro ks) 0 n,.slice true (.ro kp) 0 m]⟩,some ⟨1,A++B9 G (G ks) k⟩]) fun k hk=>?_
  refine D3 (C:=(za G B)) (K:=Dc Try.prog [] progP [] 0) (by rw [show loopsOf (A5 Try.f30 0)=[] by kernel_rfl];exact C7 (mix G B) (by kernel_rfl) (Cv G B) .nil) (fuel:=300) (n0:=20) (m:=0) (c:=A5 Try.f30 0) (vs:=[.ptr (.rw 0) (.lit 0),.slice false (.rw 1) (.lit 0) (.len (.var 21 (A++B9 G (G ks) k))),.int .i64 (.ofN (.var 8 k))]) (H:=[some ⟨1,.of [.int .i64 (.var 1 s),.slice true (.ro (.var 24 ks)) (.lit 0) (.var 3 n),.slice true (.ro (.var 25 kp)) (.lit 0) (.var 4 m)]⟩,some ⟨1,.var 21 (A++B9 G (G ks) k)⟩]) (zA8 _) ?_;rw [rb_s];have h8:=h.le8
  refine ⟨fun hlt=>?_,fun hge=>?_⟩
  ·have hlt':=zR hlt;have hkn:k<n:=by omega
   obtain ⟨n1,n2,n3⟩:=h.num k hkn;obtain ⟨d1,d2,d3⟩:=h.dat k hkn;have dl:=h.len hkn;have ed:A0 (G (G0 (G ks) (k*4+2))) (H8 (G ks) (k*4+2)) (D1 (G ks) (k*4+2))=F7 G (G ks) k:=rfl;have en:D1 (G ks) (k*4+2)=sN (G ks) k:=rfl;have ea:A2 (G ks) (k*4)=sA (G ks) k:=rfl;have er:A2 (G ks) (k*4+1)=sR (G ks) k:=rfl;have ey:A2 (G ks) (k*4+3)=sZ (G ks) k:=rfl;have uw:u8s (Fo G (G ks) k)=true:=Ly (h.u8 hkn);have us:u8s (B9 G (G ks) k)=true:=Ht fun j hj=>h.u8 (by omega)
   have ls:(B9 G (G ks) k).length≤k*8232:=Lv fun j hj=>by rw [h.len (by omega)];exact (h.dat j (by omega)).2.2
   rw [ed,en,ea,er,ey,Gh n1,Gh n2,Gh n3];have eq:∀ x:Int,A9 (A4 [.int .u64 x])=fN x:=fun x=>rfl;have el:∀ x:Int,(A4 [.int .u64 x]).length=(fN x).length:=fun x=>(K9 _).symm;simp only [eq,el];have l1:=N6 (sA (G ks) k);have l2:=N6 (sR (G ks) k);have l3:=N6 (sN (G ks) k:Int);have l4:=N6 (sZ (G ks) k);have q3:(fN (sN (G ks) k:Int)++F7 G (G ks) k).length=(fN (sN (G ks) k:Int)).length+sN (G ks) k:=by rw [zA6,dl]
   rw [L3 (l:=fN (sA (G ks) k)) rfl,L3 (l:=fN (sR (G ks) k)) rfl,L3 (l:=fN (sZ (G ks) k)) rfl,L3 q3];have hc:(A++B9 G (G ks) k).length≤100000:=by rw [zA6];omega
   have eA:(((((A++B9 G (G ks) k)++fN (sA (G ks) k))++fN (sR (G ks) k))++(fN (sN (G ks) k:Int)++F7 G (G ks) k))++fN (sZ (G ks) k))=A++B9 G (G ks) (k+1):=by
    rw [B9,Fo,T5,dl];simp only [List.append_assoc]
   have eL:(A++B9 G (G ks) k).length+(fN (sA (G ks) k)).length+(fN (sR (G ks) k)).length+((fN (sN (G ks) k:Int)).length+sN (G ks) k)+(fN (sZ (G ks) k)).length=(A++B9 G (G ks) (k+1)).length:=by
    rw [←eA,zA6 (bs:=fN (sZ (G ks) k)),zA6 (bs:=fN (sN (G ks) k:Int)++F7 G (G ks) k),q3,zA6 (bs:=fN (sR (G ks) k)),zA6 (bs:=fN (sA (G ks) k))]
   have uD:u8s (fN (sN (G ks) k:Int)++F7 G (G ks) k)=true:=by rw [C9,N2,h.u8 hkn];rfl
   rw [eA,eL]
   refine ⟨yI (by omega),hlt,S9 h.ok hkn,Cg n1,A8.2 (zA7 _),F9 (N2 _),A8.2 (by omega),zA9 _,Cg n2,A8.2 (zA7 _),F9 (N2 _),A8.2 (by omega),oU (by rw [zA6 (bs:=fN (sA (G ks) k))]),A8.2 (by omega),A8.2 d2,d1,h.u8 hkn,A8.2 (by rw [q3];exact zA7 _),F9 uD,A8.2 (by omega),oU (by rw [zA6 (bs:=fN (sR (G ks) k)),zA6 (bs:=fN (sA (G ks) k))]),Cg n3,A8.2 (zA7 _),F9 (N2 _),A8.2 (by omega),oU (by rw [zA6 (bs:=fN (sN (G ks) k:Int)++F7 G (G ks) k),q3,zA6 (bs:=fN (sR (G ks) k)),zA6 (bs:=fN (sA (G ks) k))]),hkn,.inr ?_⟩
   rw [B5 (by omega)];have f:A6 0 (A++B9 G (G ks) (k+1))=true:=B7 (by rw [C9,hA,B9,C9,us,uw];rfl);exact C5.renM (H:=[some ⟨1,[.int .i64 s,.slice true (.ro ks) 0 n,.slice true (.ro kp) 0 m]⟩,some ⟨1,A++B9 G (G ks) (k+1)⟩]) (θ:=[0,10]) (zA8 _) (fun i hi=>absurd hi (Nat.not_lt_zero i)) (by decide) ⟨⟨rfl,rfl⟩,⟨G2 (zA8 _) _ f,by rw [B4 [0,10] _ f];rfl⟩,trivial⟩ rfl ⟨rfl,rfl,rfl,trivial⟩
  ·have hge':=sJ hge;obtain rfl:k=n:=by omega
   exact ⟨rfl,by simp [wk],rfl⟩
 rw [←e0] at start;exact start
theorem aJ4 (ks kp n m:Nat) (s:Int) (A:List AV) (hA:u8s A=true) (hl:A.length≤100000) (h:Vv (G kp) m):AWp (za G B) 0 (.loop (A5 Try.f30 1)) (fl 106 [1,3,6] [.ptr (.rw 0) 0,.slice false (.rw 1) 0 A.length,.int .i64 0]) [some ⟨1,[.int .i64 s,.slice true (.ro ks) 0 n,.slice true (.ro kp) 0 m]⟩,some ⟨1,A⟩] (lv 106 [1,3,6] fun e vs H=>e=.exit 2∧wk [.undef,.slice false (.rw 1) 0 (A++B6 (G kp) m).length,.undef] vs∧H=[some ⟨1,[.int .i64 s,.slice true (.ro ks) 0 n,.slice true (.ro kp) 0 m]⟩,some ⟨1,A++B6 (G kp) m⟩]):=by
 have e0:A=A++B6 (G kp) 0:=by rw [B6,List.append_nil]
 have start:AWp (za G B) 0 (.loop (A5 Try.f30 1)) (fl 106 [1,3,6] [.ptr (.rw 0) 0,.slice false (.rw 1) 0 (A++B6 (G kp) 0).length,.int .i64 ((0:Nat):Int)]) [some ⟨1,[.int .i64 s,.slice true (.ro ks) 0 n,.slice true (.ro kp) 0 m]⟩,some ⟨1,A++B6 (G kp) 0⟩] (lv 106 [1,3,6] fun e vs H=>e=.exit 2∧wk [.undef,.slice false (.rw 1) 0 (A++B6 (G kp) m).length,.undef] vs∧H=[some ⟨1,[.int .i64 s,.slice true (.ro ks) 0 n,.slice true (.ro kp) 0 m]⟩,some ⟨1,A++B6 (G kp) m⟩]):=by
  refine W8 m (fun k=>[.ptr (.rw 0) 0,.slice false (.rw 1) 0 (A++B6 (G kp) k).length,.int .i64 (k:Int)]) (fun k=>[some ⟨1,[.int .i64 s,.slice true (.ro ks) 0 n,.slice true (.ro kp) 0 m]⟩,some ⟨1,A++B6 (G kp) k⟩]) fun k hk=>?_
  refine D3 (C:=(za G B)) (K:=Dc Try.prog [] progP [] 0) (by rw [show loopsOf (A5 Try.f30 1)=[] by kernel_rfl];exact C7 (mix G B) (by kernel_rfl) (Cv G B) .nil) (fuel:=300) (n0:=20) (m:=0) (c:=A5 Try.f30 1) (vs:=[.ptr (.rw 0) (.lit 0),.slice false (.rw 1) (.lit 0) (.len (.var 21 (A++B6 (G kp) k))),.int .i64 (.ofN (.var 8 k))]) (H:=[some ⟨1,.of [.int .i64 (.var 1 s),.slice true (.ro (.var 24 ks)) (.lit 0) (.var 3 n),.slice true (.ro (.var 25 kp)) (.lit 0) (.var 4 m)]⟩,some ⟨1,.var 21 (A++B6 (G kp) k)⟩]) (zA8 _) ?_;rw [rb_p];have h8:=h.le
  refine ⟨fun hlt=>?_,fun hge=>?_⟩
  ·have hlt':=zR hlt;have hkn:k<m:=by omega
   have n1:=h.num k hkn;obtain ⟨po,pi,_,_⟩:=S1 h.ok hkn
   have pb:isB (G kp) (k*2+1)=true:=by
    simp only [G6,Ao,zO] at po;exact po.2.1
   have ex:A2 (G kp) (k*2)=xP (G kp) k:=rfl;have uw:u8s (Ay (G kp) k)=true:=Mi;have us:u8s (B6 (G kp) k)=true:=Hz;have ls:(B6 (G kp) k).length≤k*11:=No;rw [ex,Gh n1];have eq:∀ x:Int,A9 (A4 [.int .u64 x])=fN x:=fun x=>rfl;have el:∀ x:Int,(A4 [.int .u64 x]).length=(fN x).length:=fun x=>(K9 _).symm;simp only [eq,el];have l1:=N6 (xP (G kp) k);rw [L3 (l:=fN (xP (G kp) k)) rfl];have hc:(A++B6 (G kp) k).length≤200000:=by rw [zA6];omega
   have eA:(((A++B6 (G kp) k)++fN (xP (G kp) k))++[.int .u8 (Z1 [.bool (G8 (G kp) (k*2+1))])])=A++B6 (G kp) (k+1):=by
    rw [B6,Ay,Ae];simp only [List.append_assoc];rfl
   have eL:(A++B6 (G kp) k).length+(fN (xP (G kp) k)).length+1=(A++B6 (G kp) (k+1)).length:=by
    rw [←eA,zA6 (bs:=[_]),zA6 (bs:=fN (xP (G kp) k))];rfl
   rw [eA,eL];refine ⟨yI (by omega),hlt,pi,Cg n1,A8.2 (zA7 _),F9 (N2 _),A8.2 (by omega),zA9 _,yI (by omega),hlt,pb,A8.2 (by omega),oU (by rw [zA6 (bs:=fN (xP (G kp) k))]),hkn,.inr ?_⟩;rw [B5 (by omega)];have f:A6 0 (A++B6 (G kp) (k+1))=true:=B7 (by rw [C9,hA,B6,C9,us,uw];rfl)
   exact C5.renM (H:=[some ⟨1,[.int .i64 s,.slice true (.ro ks) 0 n,.slice true (.ro kp) 0 m]⟩,some ⟨1,A++B6 (G kp) (k+1)⟩]) (θ:=[0,5]) (zA8 _) (fun i hi=>absurd hi (Nat.not_lt_zero i)) (by decide) ⟨⟨rfl,rfl⟩,⟨G2 (zA8 _) _ f,by rw [B4 [0,5] _ f];rfl⟩,trivial⟩ rfl ⟨rfl,rfl,rfl,trivial⟩
  ·have hge':=sJ hge;obtain rfl:k=m:=by omega
   exact ⟨rfl,by simp [wk],rfl⟩
 rw [←e0] at start;exact start
theorem t30 (q1 q2:List AV→Bool) (ks kp n m:Nat) (s:Int) (w1 w2:List AV) (Q:Ex→List AV→Hp→Prop) (R:AV→Hp→Prop):vT G Q R (H5 (Dc Try.prog [] ((74,sumD)::progP) [D4 2513 q1 0 106 [1,3,4] (.one (.exit 0) [.ptr (.rw 0) (.lit 0),.slice false (.rw 1) (.lit 0) (.len (.var 21 w1)),.undef] [some ⟨1,.of [.int .i64 (.var 1 s),.slice true (.ro (.var 24 ks)) (.lit 0) (.var 3 n),.slice true (.ro (.var 25 kp)) (.lit 0) (.var 4 m)]⟩,some ⟨1,.var 21 w1⟩]),D4 2514 q2 2 106 [1,3,6] (.one (.exit 2) [.undef,.slice false (.rw 1) (.lit 0) (.len (.var 22 w2)),.undef] [some ⟨1,.of [.int .i64 (.var 1 s),.slice true (.ro (.var 24 ks)) (.lit 0) (.var 3 n),.slice true (.ro (.var 25 kp)) (.lit 0) (.var 4 m)]⟩,some ⟨1,.var 22 w2⟩])] 0) 400 20 Try.f30 [.agg (.of [.int .i64 (.var 1 s),.slice true (.ro (.var 24 ks)) (.lit 0) (.var 3 n),.slice true (.ro (.var 25 kp)) (.lit 0) (.var 4 m)])] [] 8)=(
  inU64 [.int .u64 (wS .u64 s)]=true∧leB (wW (A4 [.int .u64 (wS .u64 s)])) (wW (A4 [.int .u64 (wS .u64 s)]))=true∧cellsB (A0 (A9 (A4 [.int .u64 (wS .u64 s)])) 0 (wW (A4 [.int .u64 (wS .u64 s)])))=true∧leB (4+wW (A4 [.int .u64 (wS .u64 s)])) 140737488355328=true∧inU64 [.int .u64 (wS .u64 ((n:Int)))]=true∧leB (wW (A4 [.int .u64 (wS .u64 ((n:Int)))])) (wW (A4 [.int .u64 (wS .u64 ((n:Int)))]))=true∧cellsB (A0 (A9 (A4 [.int .u64 (wS .u64 ((n:Int)))])) 0 (wW (A4 [.int .u64 (wS .u64 ((n:Int)))])))=true∧leB (4+wW (A4 [.int .u64 (wS .u64 s)])+wW (A4 [.int .u64 (wS .u64 ((n:Int)))])) 140737488355328=true∧Nat.beq (wW (([.int .u8 83,.int .u8 84,.int .u8 68,.int .u8 1]:List AV)++(A0 (A9 (A4 [.int .u64 (wS .u64 s)])) 0 (wW (A4 [.int .u64 (wS .u64 s)]))))) (4+wW (A4 [.int .u64 (wS .u64 s)]))=true∧
 q1 [.agg ([.ptr (.rw 0) 0,.slice false (.rw 5) 0 (4+wW (A4 [.int .u64 (wS .u64 s)])+wW (A4 [.int .u64 (wS .u64 ((n:Int)))])),.int .i64 0]:List AV),.agg ([.tup [.int .i64 1,.agg ([.int .i64 s,.slice true (.ro ks) 0 n,.slice true (.ro kp) 0 m]:List AV)],.undef,.tup [.int .i64 1,.agg (A9 (A4 [.int .u64 (wS .u64 s)]))],.undef,.tup [.int .i64 1,.agg (A9 (A4 [.int .u64 (wS .u64 ((n:Int)))]))],.tup [.int .i64 1,.agg ((([.int .u8 83,.int .u8 84,.int .u8 68,.int .u8 1]:List AV)++(A0 (A9 (A4 [.int .u64 (wS .u64 s)])) 0 (wW (A4 [.int .u64 (wS .u64 s)]))))++(A0 (A9 (A4 [.int .u64 (wS .u64 ((n:Int)))])) 0 (wW (A4 [.int .u64 (wS .u64 ((n:Int)))]))))]]:List AV)]=true∧inU64 [.int .u64 (wS .u64 ((m:Int)))]=true∧leB (wW (A4 [.int .u64 (wS .u64 ((m:Int)))])) (wW (A4 [.int .u64 (wS .u64 ((m:Int)))]))=true∧cellsB (A0 (A9 (A4 [.int .u64 (wS .u64 ((m:Int)))])) 0 (wW (A4 [.int .u64 (wS .u64 ((m:Int)))])))=true∧leB (wW w1+wW (A4 [.int .u64 (wS .u64 ((m:Int)))])) 140737488355328=true∧Nat.beq (wW w1) (wW w1)=true∧
 q2 [.agg ([.ptr (.rw 0) 0,.slice false (.rw 3) 0 (wW w1+wW (A4 [.int .u64 (wS .u64 ((m:Int)))])),.int .i64 0]:List AV),.agg ([.tup [.int .i64 1,.agg ([.int .i64 s,.slice true (.ro ks) 0 n,.slice true (.ro kp) 0 m]:List AV)],.undef,.tup [.int .i64 1,.agg (A9 (A4 [.int .u64 (wS .u64 ((m:Int)))]))],.tup [.int .i64 1,.agg (w1++(A0 (A9 (A4 [.int .u64 (wS .u64 ((m:Int)))])) 0 (wW (A4 [.int .u64 (wS .u64 ((m:Int)))]))))]]:List AV)]=true∧Nat.beq (wW w2) (wW w2)=true∧u8s w2=true∧leB (wW w2) 1099511627776=true∧leB (wW w2+4) 140737488355328=true∧Nat.beq (wW w2) (wW w2)=true∧R (.slice false (.rw 3) 0 (wW w2+4)) [some ⟨1,([.int .i64 s,.slice true (.ro ks) 0 n,.slice true (.ro kp) 0 m]:List AV)⟩,none,some ⟨1,([.int .u8 (wS .u8 (S4 .u32 (Bf [.agg w2]) 24)),.int .u8 (wS .u8 (S4 .u32 (Bf [.agg w2]) 16)),.int .u8 (wS .u8 (S4 .u32 (Bf [.agg w2]) 8)),.int .u8 (wS .u8 (Bf [.agg w2]))]:List AV)⟩,some ⟨1,(w2++([.int .u8 (wS .u8 (S4 .u32 (Bf [.agg w2]) 24)),.int .u8 (wS .u8 (S4 .u32 (Bf [.agg w2]) 16)),.int .u8 (wS .u8 (S4 .u32 (Bf [.agg w2]) 8)),.int .u8 (wS .u8 (Bf [.agg w2]))]:List AV))⟩]):=by kernel_rfl
end
theorem aK3 (G:Nat→List AV) (B:Nat) (ks kp n m:Nat) (s:Int) (hb:Ad G ks kp n m) (hw:Z4 G ks kp n m) (hy:K1 s (G ks) n (G kp) m=true):ACalls (za G B) 30 [.agg [.int .i64 s,.slice true (.ro ks) 0 n,.slice true (.ro kp) 0 m]] [] fun v H=>v=.slice false (.rw 0) 0 (E3 G s (G ks) n (G kp) m).length∧H=[some ⟨1,(E3 G s (G ks) n (G kp) m)⟩]:=by
 have hS:=Dl hb hw hy;have hP:=dS hb hy;have hs:=uY hy;have h8:=hS.le8;have h512:=hP.le;have uA1:u8s ((magL++fN s)++fN (n:Int))=true:=by rw [C9,C9,N2,N2];rfl
 have uS:u8s (B9 G (G ks) n)=true:=Ht fun j hj=>hS.u8 hj;have uW1:u8s (((magL++fN s)++fN (n:Int))++B9 G (G ks) n)=true:=by rw [C9,uA1,uS];rfl
 have uA2:u8s ((((magL++fN s)++fN (n:Int))++B9 G (G ks) n)++fN (m:Int))=true:=by rw [C9,uW1,N2];rfl
 have l1:=N6 s;have l2:=N6 (n:Int);have l3:=N6 (m:Int);have l4:=Lv (G:=G) (cs:=(G ks)) (n:=n) fun j hj=>by rw [hS.len hj];exact (hS.dat j hj).2.2
 have lA1:(((magL++fN s)++fN (n:Int))).length≤24:=by simp only [zA6,magL,List.length_cons,List.length_nil];omega
 have lW1:((((magL++fN s)++fN (n:Int))++B9 G (G ks) n)).length≤24+n*8232:=by rw [zA6];omega
 have lA2:(((((magL++fN s)++fN (n:Int))++B9 G (G ks) n)++fN (m:Int))).length≤100000:=by rw [zA6];omega
 have eB:(((((magL++fN s)++fN (n:Int))++B9 G (G ks) n)++fN (m:Int))++B6 (G kp) m)=Bg G s (G ks) n (G kp) m:=by unfold Bg;simp only [List.append_assoc]
 have lB:=Vl (G:=G) (s:=s) (ps:=(G kp)) hS hP.le;have uB:=Zt (s:=s) (ps:=(G kp)) (m:=m) hS;have uF:u8s (E3 G s (G ks) n (G kp) m)=true:=Dh hS;have fl1:∀ {l:List AV} (θ:List Nat),u8s l=true→∀ N,A6 N l=true∧rens θ l=l:=fun θ h N=>⟨B7 h,B4 _ _ (B7 (k:=0) h)⟩
 have q1:F5 (za G B) 0 (A5 Try.f30 0) (D4 2513 (D9 [.ptr (.rw 0) 0,.slice false (.rw 5) 0 (((magL++fN s)++fN (n:Int))).length,.int .i64 0] [some ⟨1,[.int .i64 s,.slice true (.ro ks) 0 n,.slice true (.ro kp) 0 m]⟩,none,some ⟨1,fN s⟩,none,some ⟨1,fN (n:Int)⟩,some ⟨1,((magL++fN s)++fN (n:Int))⟩]) 0 106 [1,3,4] (.one (.exit 0) [.ptr (.rw 0) (.lit 0),.slice false (.rw 1) (.lit 0) (.len (.var 21 (((magL++fN s)++fN (n:Int))++B9 G (G ks) n))),.undef] [some ⟨1,.of [.int .i64 (.var 1 s),.slice true (.ro (.var 24 ks)) (.lit 0) (.var 3 n),.slice true (.ro (.var 25 kp)) (.lit 0) (.var 4 m)]⟩,some ⟨1,.var 21 (((magL++fN s)++fN (n:Int))++B9 G (G ks) n)⟩])):=by
  have vw:C5 0 [.ptr (.rw 0) 0,.slice false (.rw 1) 0 (((magL++fN s)++fN (n:Int))).length,.int .i64 0] [some ⟨1,[.int .i64 s,.slice true (.ro ks) 0 n,.slice true (.ro kp) 0 m]⟩,some ⟨1,((magL++fN s)++fN (n:Int))⟩] [.ptr (.rw 0) 0,.slice false (.rw 5) 0 (((magL++fN s)++fN (n:Int))).length,.int .i64 0] [some ⟨1,[.int .i64 s,.slice true (.ro ks) 0 n,.slice true (.ro kp) 0 m]⟩,none,some ⟨1,fN s⟩,none,some ⟨1,fN (n:Int)⟩,some ⟨1,((magL++fN s)++fN (n:Int))⟩]:=C5.renM (θ:=[0,5]) (zA8 _) (fun i hi=>absurd hi (Nat.not_lt_zero i)) (by decide) ⟨⟨rfl,rfl⟩,⟨(fl1 [] uA1 _).1,by rw [(fl1 [0,5] uA1 0).2];rfl⟩,trivial⟩ rfl ⟨rfl,rfl,rfl,trivial⟩
  exact N7 rfl ((AWp.preJ (aJ3 G B ks kp n m s ((magL++fN s)++fN (n:Int)) uA1 (by omega) hS) rfl vw).lmono fun e vs H ⟨h1,h2,h3⟩=>⟨h1,.inl ⟨h2,h3⟩⟩)
 have q2:F5 (za G B) 0 (A5 Try.f30 1) (D4 2514 (D9 [.ptr (.rw 0) 0,.slice false (.rw 3) 0 (((((magL++fN s)++fN (n:Int))++B9 G (G ks) n)++fN (m:Int))).length,.int .i64 0] [some ⟨1,[.int .i64 s,.slice true (.ro ks) 0 n,.slice true (.ro kp) 0 m]⟩,none,some ⟨1,fN (m:Int)⟩,some ⟨1,((((magL++fN s)++fN (n:Int))++B9 G (G ks) n)++fN (m:Int))⟩]) 2 106 [1,3,6] (.one (.exit 2) [.undef,.slice false (.rw 1) (.lit 0) (.len (.var 22 (((((magL++fN s)++fN (n:Int))++B9 G (G ks) n)++fN (m:Int))++B6 (G kp) m))),.undef] [some ⟨1,.of [.int .i64 (.var 1 s),.slice true (.ro (.var 24 ks)) (.lit 0) (.var 3 n),.slice true (.ro (.var 25 kp)) (.lit 0) (.var 4 m)]⟩,some ⟨1,.var 22 (((((magL++fN s)++fN (n:Int))++B9 G (G ks) n)++fN (m:Int))++B6 (G kp) m)⟩])):=by
  have vw:C5 0 [.ptr (.rw 0) 0,.slice false (.rw 1) 0 (((((magL++fN s)++fN (n:Int))++B9 G (G ks) n)++fN (m:Int))).length,.int .i64 0] [some ⟨1,[.int .i64 s,.slice true (.ro ks) 0 n,.slice true (.ro kp) 0 m]⟩,some ⟨1,((((magL++fN s)++fN (n:Int))++B9 G (G ks) n)++fN (m:Int))⟩] [.ptr (.rw 0) 0,.slice false (.rw 3) 0 (((((magL++fN s)++fN (n:Int))++B9 G (G ks) n)++fN (m:Int))).length,.int .i64 0] [some ⟨1,[.int .i64 s,.slice true (.ro ks) 0 n,.slice true (.ro kp) 0 m]⟩,none,some ⟨1,fN (m:Int)⟩,some ⟨1,((((magL++fN s)++fN (n:Int))++B9 G (G ks) n)++fN (m:Int))⟩]:=C5.renM (θ:=[0,3]) (zA8 _) (fun i hi=>absurd hi (Nat.not_lt_zero i)) (by decide) ⟨⟨rfl,rfl⟩,⟨(fl1 [] uA2 _).1,by rw [(fl1 [0,3] uA2 0).2];rfl⟩,trivial⟩ rfl ⟨rfl,rfl,rfl,trivial⟩
  exact N7 rfl ((AWp.preJ (aJ4 G B ks kp n m s ((((magL++fN s)++fN (n:Int))++B9 G (G ks) n)++fN (m:Int)) uA2 lA2 hP) rfl vw).lmono fun e vs H ⟨h1,h2,h3⟩=>⟨h1,.inl ⟨h2,h3⟩⟩)
 have key:=C8 (C:=(za G B)) (f:=30) (fn:=Try.f30) (K:=Dc Try.prog [] ((74,sumD)::progP) [D4 2513 (D9 [.ptr (.rw 0) 0,.slice false (.rw 5) 0 (((magL++fN s)++fN (n:Int))).length,.int .i64 0] [some ⟨1,[.int .i64 s,.slice true (.ro ks) 0 n,.slice true (.ro kp) 0 m]⟩,none,some ⟨1,fN s⟩,none,some ⟨1,fN (n:Int)⟩,some ⟨1,((magL++fN s)++fN (n:Int))⟩]) 0 106 [1,3,4] (.one (.exit 0) [.ptr (.rw 0) (.lit 0),.slice false (.rw 1) (.lit 0) (.len (.var 21 (((magL++fN s)++fN (n:Int))++B9 G (G ks) n))),.undef] [some ⟨1,.of [.int .i64 (.var 1 s),.slice true (.ro (.var 24 ks)) (.lit 0) (.var 3 n),.slice true (.ro (.var 25 kp)) (.lit 0) (.var 4 m)]⟩,some ⟨1,.var 21 (((magL++fN s)++fN (n:Int))++B9 G (G ks) n)⟩]),D4 2514 (D9 [.ptr (.rw 0) 0,.slice false (.rw 3) 0 (((((magL++fN s)++fN (n:Int))++B9 G (G ks) n)++fN (m:Int))).length,.int .i64 0] [some ⟨1,[.int .i64 s,.slice true (.ro ks) 0 n,.slice true (.ro kp) 0 m]⟩,none,some ⟨1,fN (m:Int)⟩,some ⟨1,((((magL++fN s)++fN (n:Int))++B9 G (G ks) n)++fN (m:Int))⟩]) 2 106 [1,3,6] (.one (.exit 2) [.undef,.slice false (.rw 1) (.lit 0) (.len (.var 22 (((((magL++fN s)++fN (n:Int))++B9 G (G ks) n)++fN (m:Int))++B6 (G kp) m))),.undef] [some ⟨1,.of [.int .i64 (.var 1 s),.slice true (.ro (.var 24 ks)) (.lit 0) (.var 3 n),.slice true (.ro (.var 25 kp)) (.lit 0) (.var 4 m)]⟩,some ⟨1,.var 22 (((((magL++fN s)++fN (n:Int))++B9 G (G ks) n)++fN (m:Int))++B6 (G kp) m)⟩])] 0) (R:=fun v H=>v=.slice false (.rw 3) 0 (E3 G s (G ks) n (G kp) m).length∧∃ H0,H=H0++[some ⟨1,(E3 G s (G ks) n (G kp) m)⟩]∧H0.length=3) (by rw [show loopsOf (C3 Try.f30)=[A5 Try.f30 0,A5 Try.f30 1] by kernel_rfl];exact C7 (mix G B) (by kernel_rfl) (.cons (aW5 G B) (Cv G B)) (.cons (i:=0) (by kernel_rfl) rfl q1 (.cons (i:=2) (by kernel_rfl) rfl q2 .nil))) (by kernel_rfl) (by kernel_rfl) (by kernel_rfl) (fuel:=400) (n0:=20) (keep:=8) (args:=[.agg (.of [.int .i64 (.var 1 s),.slice true (.ro (.var 24 ks)) (.lit 0) (.var 3 n),.slice true (.ro (.var 25 kp)) (.lit 0) (.var 4 m)])]) (H:=[]) (by
  have eq:∀ x:Int,A9 (A4 [.int .u64 x])=fN x:=fun x=>rfl;have el:∀ x:Int,(A4 [.int .u64 x]).length=(fN x).length:=fun x=>(K9 _).symm;have n63:X2 (n:Int)=true:=N5.2 (by omega);have m63:X2 (m:Int)=true:=N5.2 (by omega);rw [t30,Gh hs,Gh n63,Gh m63];simp only [eq,el];rw [L3 (l:=fN s) rfl,L3 (l:=fN (n:Int)) rfl,L3 (l:=fN (m:Int)) rfl];have eM:([.int .u8 83,.int .u8 84,.int .u8 68,.int .u8 1]:List AV)=magL:=rfl;rw [eM]
  have e1:4+(fN s).length+(fN (n:Int)).length=(((magL++fN s)++fN (n:Int))).length:=by simp only [zA6,magL,List.length_cons,List.length_nil]
  have e2:((((magL++fN s)++fN (n:Int))++B9 G (G ks) n)).length+(fN (m:Int)).length=(((((magL++fN s)++fN (n:Int))++B9 G (G ks) n)++fN (m:Int))).length:=by rw [zA6 (bs:=fN (m:Int))]
  rw [e1,e2];refine ⟨Cg hs,A8.2 (zA7 _),F9 (N2 _),A8.2 (by omega),Cg n63,A8.2 (zA7 _),F9 (N2 _),A8.2 (by omega),oU (by simp only [zA6,magL,List.length_cons,List.length_nil]),D2,Cg m63,A8.2 (zA7 _),F9 (N2 _),A8.2 (by omega),zA9 _,D2,?_⟩;rw [eB]
  exact ⟨zA9 _,uB,A8.2 (by omega),A8.2 (by omega),zA9 _,by rw [E3,zA6];rfl,[_,_,_],rfl,rfl⟩)
 refine wH (q:=3) uF (key.monoK fun v H ⟨h1,H0,h2,h3⟩=>⟨h1,?_⟩);have h4:(H.take 8)[3]?=some (some ⟨1,(E3 G s (G ks) n (G kp) m)⟩):=by rw [h2,qP (by omega),h3];rfl
 rwa [zA4,if_pos (by omega)] at h4
theorem by_no (G:Nat→List AV) (B:Nat) (ks kp n m:Nat) (s:Int) (hb:Ad G ks kp n m) (hn:n≤1000000) (hm:m≤1000000) (hy:K1 s (G ks) n (G kp) m=false):ACalls (za G B) 28 [.agg [.int .i64 s,.slice true (.ro ks) 0 n,.slice true (.ro kp) 0 m]] [] fun v _=>v=.tup [.nils,.int .i64 2]:=by
 have u1:U9 [.agg (G ks),.int .i64 (n:Int)]=true:=R3.2 ⟨hb.sec,hn⟩;have u2:Ol [.agg (G kp),.int .i64 (m:Int)]=true:=Hy.2 ⟨hb.pls,hm⟩;have e0:Fc s (G ks) n (G kp) m=2:=by unfold Fc;rw [if_neg (by rw [hy];decide)]
 have c20:DSumOk (za G B) 20 (Fs 2512 (D9 [.agg [.int .i64 s,.slice true (.ro ks) 0 n,.slice true (.ro kp) 0 m]] []) (.one (.int .i64 (.var 28 (Fc s (G ks) n (G kp) m))) [])):=Lc (v0:=.int .i64 (Fc s (G ks) n (G kp) m)) rfl (cD G B ks n kp m s u1 u2) rfl rfl (by simp) rfl
 have key:=C8 (C:=(za G B)) (f:=28) (fn:=Try.f28) (K:=Dc Try.prog [] ([(20,Fs 2512 (D9 [.agg [.int .i64 s,.slice true (.ro ks) 0 n,.slice true (.ro kp) 0 m]] []) (.one (.int .i64 (.var 28 (Fc s (G ks) n (G kp) m))) [])),(51,Jz 2510 (fun _=>false) (.var 21 [])),(53,Jz 2511 (fun _=>false) (.var 22 [])),(57,sumS)]++progP) [] 0) (R:=fun v _=>v=.tup [.nils,.int .i64 2]) (by rw [show loopsOf (C3 Try.f28)=[] by kernel_rfl];exact C7 (mix G B) (by kernel_rfl) (.cons c20 (.cons qW (.cons qW (.cons (qL G B) (Cv G B))))) .nil) (by kernel_rfl) (by kernel_rfl) (by kernel_rfl) (fuel:=300) (n0:=20) (keep:=10) (args:=[.agg (.of [.int .i64 (.var 1 s),.slice true (.ro (.var 24 ks)) (.lit 0) (.var 3 n),.slice true (.ro (.var 25 kp)) (.lit 0) (.var 4 m)])]) (H:=[]) (by
  rw [t28,e0]
  exact ⟨D2,fun h=>absurd h (by decide),fun _=>rfl⟩)
 exact key.monoK fun v H h=>h
open Int renaming toNat → wZ
section
variable (G:Nat→List AV) (B:Nat)
def Pn (s:List AV) (n:Nat) (a:Int):Hp:=[some ⟨1,([.slice false (.rw 1) 0 n,.int .i64 a]:List AV)⟩,some ⟨1,s⟩]
theorem rb20 (s:List AV) (n:Nat) (a v t h:Int) (Q:Ex→List AV→Hp→Prop) (R:AV→Hp→Prop):vT G Q R (H4 (Dc Try.prog [] [] [] 2) 200 10 2 (A5 Try.f86 0) 61 [0,2,3,4,5,6] [.ptr (.rw 0) (.lit 0),.int .u64 (.lit 0),.int .i64 (.lit 0),.int .u64 (.var 1 v),.int .i64 (.var 2 t),.int .u64 (.var 3 h)] [some ⟨1,.of [.slice false (.rw 1) (.lit 0) (.var 4 n),.int .i64 (.var 5 a)]⟩,some ⟨1,.var 6 s⟩])=(
  (decide ((t:Int)<(n:Int))=true→decide ((0:Int)≤t)=true∧decide ((t:Int)<(n:Int))=true∧isI .u8 s (wZ t)=true∧(((h:Int)==63)=true→(decide ((A2 s (wZ t):Int)>1)=true→Q (.exit 0) [.ptr (.rw 0) 0,.int .u64 0,.int .i64 0,.int .u64 v,.int .i64 t,.int .u64 h] (Pn s n a))∧(decide ((A2 s (wZ t):Int)>1)=false→decide ((h:Int)>0)=true∧(((A2 s (wZ t):Int)==0)=true→Q (.exit 0) [.ptr (.rw 0) 0,.int .u64 0,.int .i64 0,.int .u64 v,.int .i64 t,.int .u64 h] (Pn s n a))∧(((A2 s (wZ t):Int)==0)=false→decide ((0:Int)≤h)=true∧decide ((A2 s (wZ t):Int)<128)=true∧Q .ret [.ptr (.rw 0) 0,.int .u64 (Kh .u64 v (V7 .u64 (wS .u64 (P1 .u8 (A2 s (wZ t)) 127)) h)),.int .i64 0,.int .u64 (Kh .u64 v (V7 .u64 (wS .u64 (P1 .u8 (A2 s (wZ t)) 127)) h)),.int .i64 (wS .i64 (t+1)),.int .u64 h] [some ⟨1,([.slice false (.rw 1) 0 n,.int .i64 (wS .i64 (t+1))]:List AV)⟩,some ⟨1,s⟩])))∧(((h:Int)==63)=false→(decide ((h:Int)>0)=true→(((A2 s (wZ t):Int)==0)=true→Q (.exit 0) [.ptr (.rw 0) 0,.int .u64 0,.int .i64 0,.int .u64 v,.int .i64 t,.int .u64 h] (Pn s n a))∧(((A2 s (wZ t):Int)==0)=false→decide ((0:Int)≤h)=true∧(decide ((A2 s (wZ t):Int)<128)=true→Q .ret [.ptr (.rw 0) 0,.int .u64 (Kh .u64 v (V7 .u64 (wS .u64 (P1 .u8 (A2 s (wZ t)) 127)) h)),.int .i64 0,.int .u64 (Kh .u64 v (V7 .u64 (wS .u64 (P1 .u8 (A2 s (wZ t)) 127)) h)),.int .i64 (wS .i64 (t+1)),.int .u64 h] [some ⟨1,([.slice false (.rw 1) 0 n,.int .i64 (wS .i64 (t+1))]:List AV)⟩,some ⟨1,s⟩])∧
 (decide ((A2 s (wZ t):Int)<128)=false→Q .normal [.ptr (.rw 0) 0,.int .u64 0,.int .i64 0,.int .u64 (Kh .u64 v (V7 .u64 (wS .u64 (P1 .u8 (A2 s (wZ t)) 127)) h)),.int .i64 (wS .i64 (t+1)),.int .u64 (wS .u64 (h+7))] (Pn s n a))))∧(decide ((h:Int)>0)=false→decide ((0:Int)≤h)=true∧(decide ((A2 s (wZ t):Int)<128)=true→Q .ret [.ptr (.rw 0) 0,.int .u64 (Kh .u64 v (V7 .u64 (wS .u64 (P1 .u8 (A2 s (wZ t)) 127)) h)),.int .i64 0,.int .u64 (Kh .u64 v (V7 .u64 (wS .u64 (P1 .u8 (A2 s (wZ t)) 127)) h)),.int .i64 (wS .i64 (t+1)),.int .u64 h] [some ⟨1,([.slice false (.rw 1) 0 n,.int .i64 (wS .i64 (t+1))]:List AV)⟩,some ⟨1,s⟩])∧(decide ((A2 s (wZ t):Int)<128)=false→Q .normal [.ptr (.rw 0) 0,.int .u64 0,.int .i64 0,.int .u64 (Kh .u64 v (V7 .u64 (wS .u64 (P1 .u8 (A2 s (wZ t)) 127)) h)),.int .i64 (wS .i64 (t+1)),.int .u64 (wS .u64 (h+7))] (Pn s n a)))))∧(decide ((t:Int)<(n:Int))=false→Q (.exit 0) [.ptr (.rw 0) 0,.int .u64 0,.int .i64 0,.int .u64 v,.int .i64 t,.int .u64 h] (Pn s n a))):=by kernel_rfl
def Au (s:List AV) (t:Nat):Nat→Nat→Option (Nat×Nat)
 | 0,_=>none
 | f+1,k=>if t+k<s.length then
   if (k=9∧1<(A2 s (t+k)).toNat)∨(0<k∧(A2 s (t+k)).toNat=0) then none
   else if (A2 s (t+k)).toNat<128 then some ((A2 s (t+k)).toNat,1)
   else (Au s t f (k+1)).map fun p=>((A2 s (t+k)).toNat % 128+128*p.1,p.2+1)
  else none
def wrd (s:List AV) (t:Nat):Option (Nat×Nat):=Au s t 10 0
def upd (acc k:Nat) (p:Nat×Nat):Nat×Nat:=(acc+128^k*p.1,k+p.2)
def b8:AV→Bool
 | .int .u8 n=>decide (0≤n)&&decide (n≤255)
 | _=>false
def E4 (l:List AV):Bool:=l.all b8
theorem Xq {l:List AV} (h:E4 l=true) {i:Nat} (hi:i<l.length):isI .u8 l i=true∧0≤A2 l i∧A2 l i≤255:=by
 simp only [E4,qD] at h
 have:=h l[i] (List.getElem_mem hi)
 have e:=xW hi;generalize l[i]=x at this e;cases x with
 | int k n=>cases k<;>simp_all [b8,isI,A2]
 | _=>simp [b8] at this
theorem G9 {l:List AV} (h:E4 l=true):u8s l=true:=by
 simp only [E4,u8s,qD] at h ⊢;intro v hv
 have:=h v hv
 cases v with
 | int k n=>cases k<;>simp_all [b8,Om]
 | _=>simp [b8] at this
theorem aF0 (n:Int):IntKind.u64.wrap n=n % 18446744073709551616:=by
 simp only [wS,IntKind.signed,IntKind.bits,Bool.false_and,Bool.false_eq_true,if_false];omega
theorem pow9 {k:Nat} (h:k≤9):128^k≤9223372036854775808:=by
 have:=Nat.pow_le_pow_right (n:=128) (by omega) h
 have e:128^9=9223372036854775808:=by decide
 omega
theorem pow8 {k:Nat} (h:k≤8):128^k≤72057594037927936:=by
 have:=Nat.pow_le_pow_right (n:=128) (by omega) h
 have e:128^8=72057594037927936:=by decide
 omega
theorem fQ {k d:Nat} (h:k≤9) (hd:d<128) (h9:k=9→d≤1):d*128^k≤9223372036854775808:=by
 by_cases e:k=9
 ·subst e
  have:=h9 rfl
  have e:128^9=9223372036854775808:=by decide
  rw [e];omega
 ·have:=pow8 (k:=k) (by omega)
  have:d*128^k≤127*72057594037927936:=Nat.mul_le_mul (by omega) this
  omega
theorem and127:∀ b:BitVec 8,(b &&& 127#8).toNat=b.toNat % 128:=by decide +kernel
theorem low7 {c:Int} (h0:0≤c) (h1:c≤255):wS .u64 (P1 .u8 c 127)=((c.toNat % 128:Nat):Int):=by
 have e:P1 .u8 c 127=((c.toNat % 128:Nat):Int):=by
  show IntKind.u8.wrap (((BitVec.ofInt 8 c &&& BitVec.ofInt 8 127).toNat:Nat):Int)=_;have e2:BitVec.ofInt 8 127=127#8:=by decide
  rw [e2,and127,Kz,BitVec.toNat_ofInt];omega
 rw [e,Bj (by omega)]
theorem aV8 (k:Nat):(2:Int)^(7*k)=((128^k:Nat):Int):=by
 rw [Int.pow_mul]
 have:(2:Int)^7=128:=by decide
 rw [this];simp
theorem qQ {k d:Nat} (h:k≤9) (hd:d<128) (h9:k=9→d≤1):V7 .u64 (d:Int) ((7*k:Nat):Int)=((d*128^k:Nat):Int):=by
 unfold V7
 have:min ((7*k:Nat):Int).toNat IntKind.u64.bits=7*k:=by
  show min ((7*k:Nat):Int).toNat 64=7*k;omega
 rw [this,aV8,aF0]
 have:=fQ h hd h9
 rw [←Int.natCast_mul];omega
theorem or_dig {k d acc:Nat} (h:k≤9) (hd:d<128) (h9:k=9→d≤1) (ha:acc<128^k):Kh .u64 (acc:Int) ((d*128^k:Nat):Int)=((acc+d*128^k:Nat):Int):=by
 have hf:=fQ h hd h9;have hp:=pow9 h;show IntKind.u64.wrap (((BitVec.ofInt 64 (acc:Int) ||| BitVec.ofInt 64 ((d*128^k:Nat):Int)).toNat:Nat):Int)=_;have e1:(BitVec.ofInt 64 (acc:Int)).toNat=acc:=by rw [BitVec.toNat_ofInt];omega
 have e2:(BitVec.ofInt 64 ((d*128^k:Nat):Int)).toNat=d*128^k:=by rw [BitVec.toNat_ofInt];omega
 rw [BitVec.toNat_or,e1,e2];have e3:(128:Nat)^k=2^(7*k):=by rw [Nat.pow_mul]
 have e4:=Nat.two_pow_add_eq_or_of_lt (i:=7*k) (b:=acc) (by rw [←e3];exact ha) d;rw [←e3] at e4
 have e5:acc ||| d*128^k=acc+d*128^k:=by
  rw [Nat.or_comm,Nat.mul_comm,←e4,Nat.add_comm]
 rw [e5,Bj (by omega)]
abbrev Hm (s:List AV) (t k:Nat):Prop:=(k=9∧1<(A2 s (t+k)).toNat)∨(0<k∧(A2 s (t+k)).toNat=0)
theorem wX {s:List AV} {a k:Nat} (hk:k≤9) (h:¬a+k<s.length∨Hm s a k):Au s a (10 - k) k=none:=by
 have e:10 - k=(9 - k)+1:=by omega
 rw [e,Au];rcases h with h | h
 ·rw [if_neg h]
 ·by_cases hl:a+k<s.length
  ·rw [if_pos hl,if_pos h]
  ·rw [if_neg hl]
theorem Ck {s:List AV} {a k acc:Nat} (hs:wrd s a=(Au s a (10 - k) k).map (upd acc k)) (hk:k≤9) (h:¬a+k<s.length∨Hm s a k):wrd s a=none:=by
 rw [hs,wX hk h];rfl
theorem kT {s:List AV} {a k acc:Nat} (hs:wrd s a=(Au s a (10 - k) k).map (upd acc k)) (hk:k≤9) (hl:a+k<s.length) (hb:¬Hm s a k) (hc:(A2 s (a+k)).toNat<128) :
  wrd s a=some (acc+(A2 s (a+k)).toNat*128^k,k+1):=by
 have e:10 - k=(9 - k)+1:=by omega
 rw [hs,e,Au,if_pos hl,if_neg hb,if_pos hc];simp [upd,Nat.mul_comm]
theorem Qk {s:List AV} {a k acc:Nat} (hs:wrd s a=(Au s a (10 - k) k).map (upd acc k)) (hk:k≤9) (hl:a+k<s.length) (hb:¬Hm s a k) (hc:¬(A2 s (a+k)).toNat<128) :
  k≤8∧wrd s a=(Au s a (10 - (k+1)) (k+1)).map (upd (acc+(A2 s (a+k)).toNat % 128*128^k) (k+1)):=by
 have h8:k≤8:=by
  rcases Nat.lt_or_ge k 9 with h | h
  ·omega
  ·exfalso;apply hb;left;omega
 refine ⟨h8,?_⟩;have e:10 - k=(9 - k)+1:=by omega
 have e2:10 - (k+1)=9 - k:=by omega
 rw [hs,e,Au,if_pos hl,if_neg hb,if_neg hc,e2,Option.map_map];congr 1;funext p;simp only [Function.comp,upd,xH];refine ⟨?_,by omega⟩;rw [Nat.pow_succ,Nat.mul_add,Nat.mul_comm (128^k) (_ % 128),Nat.mul_assoc,Nat.add_assoc]
def jW (n a:Nat):Option Blk:=some ⟨1,[.slice false (.rw 1) 0 n,.int .i64 (a:Int)]⟩
theorem Sg {k acc d:Nat} (h:acc<128^k) (hd:d<128):acc+d*128^k<128^(k+1):=by
 have:d*128^k≤127*128^k:=Nat.mul_le_mul (by omega) (zA7 _)
 rw [Nat.pow_succ];omega
theorem dg02 :DGood (za G B) (Dc Try.prog [] [] [] 2) []:=C7 (mix G B) (by kernel_rfl) .nil .nil
theorem rl20 (s:List AV) (n a:Nat) (hb:E4 s=true) (hn:s.length=n) (h62:n≤4611686018427387904) (ha:a≤n) :
  AWp (za G B) 2 (.loop (A5 Try.f86 0)) (fl 61 [0,2,3,4,5,6] [.ptr (.rw 0) 0,.int .u64 0,.int .i64 0,.int .u64 0,.int .i64 (a:Int),.int .u64 0]) [jW n a,some ⟨1,s⟩]
   (lv 61 [0,2,3,4,5,6] fun e vs H=>(e=.exit 0∧wrd s a=none∧wk [.ptr (.rw 0) 0,.int .u64 0,.int .i64 0,.undef,.undef,.undef] vs∧H=[jW n a,some ⟨1,s⟩])
    ∨ (e=.ret∧∃ v j,wrd s a=some (v,j)∧wk [.ptr (.rw 0) 0,.int .u64 (v:Int),.int .i64 0,.undef,.undef,.undef] vs∧H=[jW n (a+j),some ⟨1,s⟩])):=by
 refine X5 (fun j vs H=>∃ k acc:Nat,k≤9∧j=9 - k∧acc<128^k∧wrd s a=(Au s a (10 - k) k).map (upd acc k)∧vs=[.ptr (.rw 0) 0,.int .u64 0,.int .i64 0,.int .u64 (acc:Int),.int .i64 ((a+k:Nat):Int),.int .u64 ((7*k:Nat):Int)]∧H=[jW n a,some ⟨1,s⟩]) 9
  ⟨0,0,by omega,rfl,by simp,by rw [show upd 0 0=id from by funext p;simp [upd]];simp [wrd],rfl,rfl⟩ ?_
 rintro j vs H ⟨k,acc,hk,rfl,hacc,hs,rfl,rfl⟩
 refine D3 (C:=(za G B)) (dg02 G B) (fuel:=200) (n0:=10) (m:=2) (c:=A5 Try.f86 0) (vs:=[.ptr (.rw 0) (.lit 0),.int .u64 (.lit 0),.int .i64 (.lit 0),.int .u64 (.var 1 (acc:Int)),.int .i64 (.var 2 ((a+k:Nat):Int)),.int .u64 (.var 3 ((7*k:Nat):Int))])
  (H:=[some ⟨1,.of [.slice false (.rw 1) (.lit 0) (.var 4 n),.int .i64 (.var 5 (a:Int))]⟩,some ⟨1,.var 6 s⟩]) (by simp) ?_
 rw [rb20,Int.toNat_natCast];have i1:wS .i64 (((a+k:Nat):Int)+1)=((a+k+1:Nat):Int):=by rw [B5 (by omega)];omega
 have i2:wS .u64 (((7*k:Nat):Int)+7)=((7*(k+1):Nat):Int):=by rw [Bj (by omega)];omega
 rw [i1,i2];by_cases hl:a+k<s.length
 ·obtain ⟨g1,g2,g3⟩:=Xq hb hl;have hc:A2 s (a+k)=((A2 s (a+k)).toNat:Int):=by omega
  have hd:(A2 s (a+k)).toNat % 128<128:=Nat.mod_lt _ (by omega);have g0:decide ((0:Int)≤((a+k:Nat):Int))=true:=yI (by omega);have g7:decide ((0:Int)≤((7*k:Nat):Int))=true:=yI (by omega);rw [low7 g2 g3]
  -- the number with one digit more
  have vals:¬Hm s a k→Kh .u64 (acc:Int) (V7 .u64 (((A2 s (a+k)).toNat % 128:Nat):Int) ((7*k:Nat):Int))=((acc+(A2 s (a+k)).toNat % 128*128^k:Nat):Int):=fun hb=>by
   have h9:k=9→(A2 s (a+k)).toNat % 128≤1:=fun h=>by
    have:¬1<(A2 s (a+k)).toNat:=fun h1=>hb (.inl ⟨h,h1⟩)
    omega
   rw [qQ hk hd h9,or_dig hk hd h9 hacc]
  have ret:¬Hm s a k→(A2 s (a+k)).toNat<128→wrd s a=some (acc+(A2 s (a+k)).toNat % 128*128^k,k+1):=fun hb hc=>by
   have:=kT hs hk hl hb hc
   rwa [Nat.mod_eq_of_lt hc]
  refine ⟨fun _=>⟨g0,yI (by omega),g1,fun h63=>⟨fun h=>?_,fun h=>⟨yI (by have:=eq_of_beq h63;omega),fun h0=>?_,fun h0=>?_⟩⟩,fun h63=>⟨fun hp=>⟨fun h0=>?_,fun h0=>⟨g7,fun hlt=>?_,fun hlt=>?_⟩⟩,fun hp=>⟨g7,fun hlt=>?_,fun hlt=>?_⟩⟩⟩,fun h=>absurd (sJ h) (by omega)⟩
  all_goals try simp only [qC,decide_eq_false_iff_not,beq_iff_eq,beq_eq_false_iff_ne,ne_eq] at *
  ·exact .inl ⟨by trivial,Ck hs hk (.inr (.inl ⟨by omega,by omega⟩)),by simp [wk],rfl⟩
  ·exact .inl ⟨by trivial,Ck hs hk (.inr (.inr ⟨by omega,by omega⟩)),by simp [wk],rfl⟩
  ·have nb:¬Hm s a k:=by rintro (⟨_,h2⟩ | ⟨_,h2⟩)<;>omega
   rw [vals nb];exact ⟨by omega,by omega,.inr ⟨by trivial,_,_,ret nb (by omega),by simp [wk],rfl⟩⟩
  ·exact .inl ⟨by trivial,Ck hs hk (.inr (.inr ⟨by omega,by omega⟩)),by simp [wk],rfl⟩
  ·have nb:¬Hm s a k:=by rintro (⟨_,h2⟩ | ⟨_,h2⟩)<;>omega
   rw [vals nb];exact .inr ⟨by trivial,_,_,ret nb (by omega),by simp [wk],rfl⟩
  ·have nb:¬Hm s a k:=by rintro (⟨_,h2⟩ | ⟨_,h2⟩)<;>omega
   rw [vals nb];obtain ⟨n1,n2⟩:=Qk hs hk hl nb (by omega);exact ⟨9 - (k+1),by omega,.inl ⟨k+1,_,by omega,rfl,Sg hacc hd,n2,rfl,rfl⟩⟩
  ·have nb:¬Hm s a k:=by rintro (⟨_,h2⟩ | ⟨_,h2⟩)<;>omega
   rw [vals nb];exact .inr ⟨by trivial,_,_,ret nb (by omega),by simp [wk],rfl⟩
  ·have nb:¬Hm s a k:=by rintro (⟨_,h2⟩ | ⟨_,h2⟩)<;>omega
   rw [vals nb];obtain ⟨n1,n2⟩:=Qk hs hk hl nb (by omega);exact ⟨9 - (k+1),by omega,.inl ⟨k+1,_,by omega,rfl,Sg hacc hd,n2,rfl,rfl⟩⟩
 ·refine ⟨fun h=>absurd (zR h) (by omega),fun _=>.inl ⟨by trivial,Ck hs hk (.inl hl),by simp [wk],rfl⟩⟩
def Aw (xs:List AV):Bool:=match xs with
 | [.agg l,.int _ t]=>(wrd l t.toNat).isSome
 | _=>false
def A7 (xs:List AV):Int:=match xs with
 | [.agg l,.int _ t]=>match wrd l t.toNat with
  | some (v,_)=>v
  | none=>0
 | _=>0
def C0 (xs:List AV):Int:=match xs with
 | [.agg l,.int _ t]=>match wrd l t.toNat with
  | some _=>0
  | none=>4
 | _=>4
def A3 (xs:List AV):Int:=match xs with
 | [.agg l,.int _ t]=>match wrd l t.toNat with
  | some (_,j)=>((t.toNat+j:Nat):Int)
  | none=>t
 | _=>0
def okRdU (xs:List AV):Bool:=match xs with
 | [.agg l,.ptr _ n,.int _ a]=>E4 l&&(Nat.beq l.length n&&(leB n 4611686018427387904&&(decide (0≤a)&&decide (a≤(n:Int)))))
 | _=>false
structure D8 (l:List AV) (n:Nat) (a:Int):Prop where
 b:E4 l=true
 len:l.length=n
 big:n≤4611686018427387904
 pos:a=(a.toNat:Int)
 le:a.toNat≤n
theorem E0 {l:List AV} {r:Ref} {n:Nat} {k:IntKind} {a:Int}:okRdU [.agg l,.ptr r n,.int k a]=true↔D8 l n a:=by
 simp only [okRdU,zO,A8,qC];exact ⟨fun ⟨h1,h2,h3,h4,h5⟩=>⟨h1,rG h2,h3,by omega,by omega⟩,fun h=>⟨h.b,by rw [h.len];exact zA9 _,h.big,by have:=h.pos;omega,by have:=h.pos;have:=h.le;omega⟩⟩
def rL20:DL:=⟨0,61,[0,2,3,4,5,6],fun vs H=>match vs,H with
 | [.ptr (.rw 0) (.lit 0),.int .u64 (.lit 0),.int .i64 (.lit 0),.int .u64 (.lit 0),.int .i64 a,.int .u64 (.lit 0)],[some ⟨1,.of [.slice false (.rw 1) (.lit 0) n,.int .i64 b]⟩,some ⟨1,l⟩]=>
  some (.chk (.uf 1120 okRdU [.agg l,.ptr (.rw 0) n,.int .i64 a])<|.chk (.cmp .eql a b)<|.tst (.uf 1121 Aw [.agg l,.int .i64 a])
   (.one .ret [.ptr (.rw 0) (.lit 0),.int .u64 (.uf 1122 A7 [.agg l,.int .i64 a]),.int .i64 (.lit 0),.undef,.undef,.undef] [some ⟨1,.of [.slice false (.rw 1) (.lit 0) n,.int .i64 (.uf 1124 A3 [.agg l,.int .i64 a])]⟩,some ⟨1,l⟩])
   (.one (.exit 0) [.ptr (.rw 0) (.lit 0),.int .u64 (.lit 0),.int .i64 (.lit 0),.undef,.undef,.undef] [some ⟨1,.of [.slice false (.rw 1) (.lit 0) n,.int .i64 b]⟩,some ⟨1,l⟩]))
 | _,_=>none⟩
theorem aZ4 :F5 (za G B) 2 (A5 Try.f86 0) rL20:=by
 refine .of fun vs H o ho n Q hQ=>?_;simp only [rL20] at ho;split at ho
 ·rename_i a n b l;simp only [zN] at ho;subst ho;obtain ⟨h1,h2,h3,h4⟩:=hQ;simp only [vB,vVs,vV,vR,vN] at h1 h2 h3 h4;have ok:=E0.1 h1;have h2:vI G a=vI G b:=by simpa [Ov] using h2
  simp only [rL20,vVs,vV,vR,vN,vI,vL,B8,List.map_cons,List.map_nil,Option.map_some,C6];rw [←h2,ok.pos];refine (rl20 G B _ _ _ ok.b ok.len ok.big ok.le).lmono ?_;rintro e vs'' H'' (⟨rfl,g1,g2,rfl⟩ | ⟨rfl,v,j,g1,g2,rfl⟩)
  ·have:=h4 (by simp [Aw,g1])
   refine .inl ⟨_,g2,?_⟩;simp only [J2,vVs,vV,vR,vN,vI,vB,vL,B8,List.map_cons,List.map_nil,Option.map_some,C6] at this;rw [←h2,ok.pos] at this;exact this
  ·have:=h3 (by simp [Aw,g1])
   refine .inl ⟨_,g2,?_⟩;simp only [J2,vVs,vV,vR,vN,vI,vB,vL,B8,List.map_cons,List.map_nil,Option.map_some,C6,A7,A3,g1] at this;exact this
 ·simp at ho
theorem dgR20 :DGood (za G B) (Dc Try.prog [87] [] [rL20] 2) (loopsOf (C3 Try.f86)):=C7 (mix G B) (by kernel_rfl) .nil (.cast (.cons (i:=0) (by kernel_rfl) rfl (aZ4 G B) .nil) (by kernel_rfl))
theorem w20 (s:List AV) (n:Nat) (a:Int) (Q:Ex→List AV→Hp→Prop) (R:AV→Hp→Prop):vT G Q R (H5 (Dc Try.prog [87] [] [rL20] 2) 200 10 Try.f86 [.ptr (.rw 0) (.lit 0)] [some ⟨1,.of [.slice false (.rw 1) (.lit 0) (.var 4 n),.int .i64 (.var 5 a)]⟩,some ⟨1,.var 6 s⟩] 2)=(
  okRdU [.agg s,.ptr (.rw 0) n,.int .i64 a]=true∧((a:Int)==a)=true∧(Aw [.agg s,.int .i64 a]=true→R (.tup [.int .u64 (A7 [.agg s,.int .i64 a]),.int .i64 0]) [some ⟨1,([.slice false (.rw 1) 0 n,.int .i64 (A3 [.agg s,.int .i64 a])]:List AV)⟩,some ⟨1,s⟩])∧(Aw [.agg s,.int .i64 a]=false→R (.tup [.int .u64 0,.int .i64 4]) [some ⟨1,([.slice false (.rw 1) 0 n,.int .i64 a]:List AV)⟩,some ⟨1,s⟩])):=by kernel_rfl
theorem dH {l:List AV} {k:IntKind} {a:Int}:(Aw [.agg l,.int k a]=true→C0 [.agg l,.int k a]=0)∧(Aw [.agg l,.int k a]=false→C0 [.agg l,.int k a]=4∧A7 [.agg l,.int k a]=0∧A3 [.agg l,.int k a]=a):=by
 simp only [Aw,C0,A7,A3];cases wrd l a.toNat with
 | none=>exact ⟨fun h=>by simp at h,fun _=>⟨rfl,rfl,rfl⟩⟩
 | some p=>exact ⟨fun _=>rfl,fun h=>by simp at h⟩
theorem read20 (s:List AV) (n:Nat) (a:Int) (h:okRdU [.agg s,.ptr (.rw 0) n,.int .i64 a]=true):ACalls (za G B) 86 [.ptr (.rw 0) 0] [some ⟨1,[.slice false (.rw 1) 0 n,.int .i64 a]⟩,some ⟨1,s⟩]
  fun v' H'=>v'=.tup [.int .u64 (A7 [.agg s,.int .i64 a]),.int .i64 (C0 [.agg s,.int .i64 a])]∧H'=[some ⟨1,[.slice false (.rw 1) 0 n,.int .i64 (A3 [.agg s,.int .i64 a])]⟩,some ⟨1,s⟩]:=by
 have hf:∀ j,A6 j s=true:=fun j=>B7 (G9 (E0.1 h).b)
 have key:=C8 (C:=(za G B)) (fn:=Try.f86) (f:=86) (R:=fun v' H'=>v'=.tup [.int .u64 (A7 [.agg s,.int .i64 a]),.int .i64 (C0 [.agg s,.int .i64 a])]∧H'=[some ⟨1,[.slice false (.rw 1) 0 n,.int .i64 (A3 [.agg s,.int .i64 a])]⟩,some ⟨1,s⟩])
  (dgR20 G B) (by kernel_rfl) (by kernel_rfl) (by kernel_rfl) (fuel:=200) (n0:=10) (keep:=2) (args:=[.ptr (.rw 0) (.lit 0)]) (H:=[some ⟨1,.of [.slice false (.rw 1) (.lit 0) (.var 4 n),.int .i64 (.var 5 a)]⟩,some ⟨1,.var 6 s⟩]) (by
  rw [w20];obtain ⟨g1,g2⟩:=dH (l:=s) (k:=.i64) (a:=a);refine ⟨h,beq_self_eq_true a,fun hk=>?_,fun hk=>?_⟩
  ·rw [g1 hk];exact ⟨rfl,rfl⟩
  ·obtain ⟨e1,e2,e3⟩:=g2 hk
   rw [e1,e2,e3];exact ⟨rfl,rfl⟩)
 exact ACalls.keep (H:=[some ⟨1,[.slice false (.rw 1) 0 n,.int .i64 a]⟩,some ⟨1,s⟩]) key (by simp) (by simp [I1,A6,B0,hf]) (by simp [B0,A6]) (by simp)
def readS:DSum:=fun xs H=>match xs with
 | [.ptr (.rw i) (.lit 0)]=>match H[i]? with
  | some (some ⟨1,.of [.slice false (.rw m) (.lit 0) n,.int .i64 a]⟩)=>match H[m]? with
   | some (some ⟨1,l⟩)=>match Nat.beq i m with
    | true=>none
    | false=>some (.chk (.uf 1120 okRdU [.agg l,.ptr (.rw 0) n,.int .i64 a]) (.one (.tup [.int .u64 (.uf 1122 A7 [.agg l,.int .i64 a]),.int .i64 (.uf 1123 C0 [.agg l,.int .i64 a])]) [.set i ⟨1,.of [.slice false (.rw m) (.lit 0) n,.int .i64 (.uf 1124 A3 [.agg l,.int .i64 a])]⟩]))
   | _=>none
  | _=>none
 | _=>none
theorem mA :DSumOk (za G B) 86 readS:=by
 intro xs H o ho;simp only [readS] at ho;split at ho
 ·rename_i i;split at ho
  ·rename_i m n a hi;split at ho
   ·rename_i l hm;split at ho
    ·simp at ho
    ·rename_i him;have him:i≠m:=fun h=>by rw [h,zA9] at him;simp at him
     simp only [zN] at ho;subst ho;intro h1;simp only [vB,vVs,vV,vR,vN] at h1;have hf:∀ j,A6 j (vL G l)=true:=fun j=>B7 (G9 (E0.1 h1).b);have key:=read20 G B (vL G l) (vN G n) (vI G a) h1;refine E1.fr (θ:=[i,m]) (by simp [him]) rfl (fun k b hk=>?_) (by simp [A6,B0]) (by simp [vVs,vV,vR,vN,rens,C2]) key (by simp) (by simp [B0,A6]) (by simp [I1,hf,A6,B0]) (by simp [vV,vVs,vI,C2,rens]) ?_
     ·match k with
      | 0=>simp at hk;subst hk;exact ⟨_,rfl,by simp [A6,B0],by simpa [I7,C6,vL,vVs,vV,vR,vN,rens,C2] using G4 (G:=G) hi⟩
      | 1=>simp at hk;subst hk;exact ⟨_,rfl,hf _,by simpa [I7,C6,B4 _ _ (hf 0)] using G4 (G:=G) hm⟩
      | k+2=>simp at hk
     ·have hs:=Cp (G:=G) hm;simp only [C6] at hs;simp only [List.map_cons,List.map_nil,acts,Hop.act,I6,C6,T6,lay,P9,I7,Option.map_some,B4 _ _ (hf 0),List.length_cons,List.length_nil,List.drop_succ_cons,List.drop_nil,List.append_nil,vL,vVs,vV,vR,vN,vI];rw [List.set_comm _ _ him,hs];simp [rens,C2,J5]
   ·simp at ho
  ·simp at ho
 ·simp at ho
end
end Go.Am
