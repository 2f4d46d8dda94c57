/-
  Images: the section in which a place lies. Images: which may be: the trees.
-/
import Derived.Test.YthejjolnlngahaaPart7
namespace Go.Am
open Go.Proofs
set_option maxRecDepth 100000
section
variable (G:Nat→List AV) (B:Nat)
def sA (cs:List AV) (k:Nat):Int:=A1 cs (k*4)
def sR (cs:List AV) (k:Nat):Int:=A1 cs (k*4+1)
def sN (cs:List AV) (k:Nat):Nat:=C7 cs (k*4+2)
def sZ (cs:List AV) (k:Nat):Int:=A1 cs (k*4+3)
def I6 (cs:List AV) (n:Nat):Bool:=I2 (fun k=>E5 cs (k*4) [.int .i64,.int .i64,.sl,.int .i64]) n
theorem M9 {cs:List AV} {n k:Nat} (h:I6 cs n=true) (hk:k<n):E5 cs (k*4) [.int .i64,.int .i64,.sl,.int .i64]=true:=F6.1 h k hk
theorem gU {cs:List AV} {n k:Nat} (h:I6 cs n=true) (hk:k<n):isI .i64 cs (k*4)=true∧Fd cs (k*4+2)=true:=by
 have:=M9 h hk
 simp only [E5,Ak,zN] at this;exact ⟨this.1,this.2.2.1⟩
def Eb (cs:List AV) (x:Int) (h:Bool) (k:Nat):Bool:=decide (sA cs k≤x)&&decide (IntKind.wrap .i64 (x - sA cs k)≤IntKind.wrap .i64 ((sN cs k:Int) - P4 h))
def Mo (cs:List AV) (x:Int) (h:Bool) (k:Nat):Bool:=decide (sA cs k≤x)&&(decide (x≤8192)&&decide (IntKind.wrap .i64 (x+P4 h)≤IntKind.wrap .i64 (sA cs k+(sN cs k:Int))))
def C9 (cs:List AV) (n:Nat) (x:Int) (h:Bool):Nat:=M4 (Eb cs x h) n
def inN (cs:List AV) (n:Nat) (x:Int) (h:Bool):Nat:=M4 (Mo cs x h) n
def Qj (cs:List AV) (n:Nat) (x:Int) (h:Bool):Int:=if inN cs n x h<n then (inN cs n x h:Int) else -1
def Ec:List AV→Nat:=fun xs=>match xs with
 | [.agg cs,.int _ n,.int _ x,.bool h]=>C9 cs n.toNat x h
 | _=>0
def Qi:List AV→Int:=fun xs=>match xs with
 | [.agg cs,.int _ n,.int _ x,.bool h]=>Qj cs n.toNat x h
 | _=>0
def S5:List AV→Bool:=fun xs=>match xs with
 | [.agg cs,.int _ n]=>I6 cs n.toNat&&Nat.ble n.toNat 1000000
 | _=>false
theorem L9 {cs:List AV} {n:Nat}:S5 [.agg cs,.int .i64 (n:Int)]=true↔I6 cs n=true∧n≤1000000:=by
 simp only [S5,F9,zN];exact ⟨fun ⟨h1,h2⟩=>⟨h1,rR h2⟩,fun ⟨h1,h2⟩=>⟨h1,Nat.ble_eq_true_of_le h2⟩⟩
def dtQ (G:Nat→List AV) (ks n:Nat) (x:Int) (h:Bool):List AV→Bool:=Pj (S5 [.agg (G ks),.int .i64 (n:Int)]) [.slice true (.ro ks) 0 n,.ptr (.rw 0) 0,.nilp,.int .i64 (n:Int),.int .i64 0] [some ⟨1,[.int .i64 x,.bool h]⟩]
def dtO (ks n:Nat) (x:Int) (h:Bool):LOut:=.tst (.cmp .lss (.ofN (.uf 1707 Ec [.agg (.ro (.var 2 ks)),.int .i64 (.ofN (.var 3 n)),.int .i64 (.var 6 x),.bool (.var 7 h)])) (.ofN (.var 3 n))) (.one .ret [.undef,.undef,.ptr (.ro (.var 2 ks)) (.mul (.uf 1707 Ec [.agg (.ro (.var 2 ks)),.int .i64 (.ofN (.var 3 n)),.int .i64 (.var 6 x),.bool (.var 7 h)]) 4),.undef,.undef] [some ⟨1,.of [.int .i64 (.var 6 x),.bool (.var 7 h)]⟩]) (.one (.exit 0) [.undef,.undef,.nilp,.undef,.undef] [some ⟨1,.of [.int .i64 (.var 6 x),.bool (.var 7 h)]⟩])
theorem t34 (ks n:Nat) (x:Int) (h:Bool) (Q:Ex→List AV→Hp→Prop) (R:AV→Hp→Prop):vT G Q R (G0 (Dc Try.prog [] [] [(D6 1706 (dtQ G ks n x h) 0 42 [0,3,4,8,9] (dtO ks n x h))] 1) 300 20 Try.f34 [.slice true (.ro (.var 2 ks)) (.lit 0) (.var 3 n),.agg (.of [.int .i64 (.var 6 x),.bool (.var 7 h)])] [] 0)=(
  (dtQ G ks n x h) [.agg ([.slice true (.ro ks) 0 n,.ptr (.rw 0) 0,.nilp,.int .i64 ((n:Int)),.int .i64 0]:List AV),.agg ([.tup [.int .i64 1,.agg ([.int .i64 x,.bool h]:List AV)]]:List AV)]=true∧(decide ((((Ec [.agg (G ks),.int .i64 ((n:Int)),.int .i64 x,.bool h]:Nat):Int):Int)<(n:Int))=true→R (.ptr (.ro ks) ((Ec [.agg (G ks),.int .i64 ((n:Int)),.int .i64 x,.bool h])*4)) [])∧(decide ((((Ec [.agg (G ks),.int .i64 ((n:Int)),.int .i64 x,.bool h]:Nat):Int):Int)<(n:Int))=false→R (.nilp) [])):=by kernel_rfl
def inQ (G:Nat→List AV) (ks n kp m:Nat) (s x:Int) (h:Bool):List AV→Bool:=Pj (S5 [.agg (G ks),.int .i64 (n:Int)]) [.ptr (.rw 0) 0,.ptr (.rw 1) 0,.int .i64 0,.int .i64 0] [some ⟨1,[.int .i64 s,.slice true (.ro ks) 0 n,.slice true (.ro kp) 0 m]⟩,some ⟨1,[.int .i64 x,.bool h]⟩]
def inO (ks n kp m:Nat) (s x:Int) (h:Bool):LOut:=.tst (.cmp .eql (.uf 1709 Qi [.agg (.ro (.var 2 ks)),.int .i64 (.ofN (.var 3 n)),.int .i64 (.var 6 x),.bool (.var 7 h)]) (.lit (-1))) (.one (.exit 0) [.undef,.undef,.undef,.undef] [some ⟨1,.of [.int .i64 (.var 1 s),.slice true (.ro (.var 2 ks)) (.lit 0) (.var 3 n),.slice true (.ro (.var 4 kp)) (.lit 0) (.var 5 m)]⟩,some ⟨1,.of [.int .i64 (.var 6 x),.bool (.var 7 h)]⟩]) (.one .ret [.undef,.undef,.int .i64 (.uf 1709 Qi [.agg (.ro (.var 2 ks)),.int .i64 (.ofN (.var 3 n)),.int .i64 (.var 6 x),.bool (.var 7 h)]),.undef] [some ⟨1,.of [.int .i64 (.var 1 s),.slice true (.ro (.var 2 ks)) (.lit 0) (.var 3 n),.slice true (.ro (.var 4 kp)) (.lit 0) (.var 5 m)]⟩,some ⟨1,.of [.int .i64 (.var 6 x),.bool (.var 7 h)]⟩])
theorem t37 (ks n kp m:Nat) (s x:Int) (h:Bool) (Q:Ex→List AV→Hp→Prop) (R:AV→Hp→Prop):vT G Q R (G0 (Dc Try.prog [] [] [(D6 1708 (inQ G ks n kp m s x h) 0 44 [2,3,4,5] (inO ks n kp m s x h))] 2) 300 20 Try.f37 [.agg (.of [.int .i64 (.var 1 s),.slice true (.ro (.var 2 ks)) (.lit 0) (.var 3 n),.slice true (.ro (.var 4 kp)) (.lit 0) (.var 5 m)]),.agg (.of [.int .i64 (.var 6 x),.bool (.var 7 h)])] [] 0)=(
  (inQ G ks n kp m s x h) [.agg ([.ptr (.rw 0) 0,.ptr (.rw 1) 0,.int .i64 0,.int .i64 0]:List AV),.agg ([.tup [.int .i64 1,.agg ([.int .i64 s,.slice true (.ro ks) 0 n,.slice true (.ro kp) 0 m]:List AV)],.tup [.int .i64 1,.agg ([.int .i64 x,.bool h]:List AV)]]:List AV)]=true∧(((Qi [.agg (G ks),.int .i64 ((n:Int)),.int .i64 x,.bool h]:Int)==(-1))=true→R (.int .i64 ((-1))) [])∧(((Qi [.agg (G ks),.int .i64 ((n:Int)),.int .i64 x,.bool h]:Int)==(-1))=false→R (.int .i64 (Qi [.agg (G ks),.int .i64 ((n:Int)),.int .i64 x,.bool h])) [])):=by kernel_rfl
theorem Ji {p:Nat→Bool} {n i:Nat} (h1:i≤M4 p n) (h2:i<n):p i=decide (i=M4 p n):=by
 obtain ⟨g1,g2,g3⟩:=K5 (p:=p) (k:=n);by_cases e:i=M4 p n
 ·rw [yM e,e];exact g2 (by omega)
 ·rw [yR e];exact g3 i (by omega)
theorem Ib {cs:List AV} {n:Nat} {x:Int} {h:Bool}:Ec [.agg cs,.int .i64 (n:Int),.int .i64 x,.bool h]=C9 cs n x h:=by simp only [Ec,F9]
theorem Qh {cs:List AV} {n:Nat} {x:Int} {h:Bool}:Qi [.agg cs,.int .i64 (n:Int),.int .i64 x,.bool h]=Qj cs n x h:=by simp only [Qi,F9]
theorem wdU_eq {h:Bool}:Gc [.bool h]=P4 h:=rfl
theorem dtL_ok (ks n:Nat) (x:Int) (h:Bool):H5 (⟨Try.prog,G,B⟩:A0) 1 (A2 Try.f34 0) (D6 1706 (dtQ G ks n x h) 0 42 [0,3,4,8,9] (dtO ks n x h)):=by
 refine Dq rfl fun hc=>?_;obtain ⟨hk,hn⟩:=L9.1 hc;have hle:C9 (G ks) n x h≤n:=K5.1;refine X7 (C9 (G ks) n x h) (fun i=>[.slice true (.ro ks) 0 n,.ptr (.rw 0) 0,.nilp,.int .i64 (n:Int),.int .i64 (i:Int)]) (fun _=>[some ⟨1,[.int .i64 x,.bool h]⟩]) fun i hi=>?_
 refine D1 (C:=(⟨Try.prog,G,B⟩:A0)) (by rw [show B5 (A2 Try.f34 0)=[] by kernel_rfl];exact D7 (inl:=[]) (ls:=[]) (M:=1) (K6 G B) (by kernel_rfl) (Y3 G B) .nil) (fuel:=300) (n0:=20) (m:=1) (c:=A2 Try.f34 0) (vs:=[.slice true (.ro (.var 2 ks)) (.lit 0) (.var 3 n),.ptr (.rw 0) (.lit 0),.nilp,.int .i64 (.ofN (.var 3 n)),.int .i64 (.ofN (.var 8 i))]) (H:=[some ⟨1,.of [.int .i64 (.var 6 x),.bool (.var 7 h)]⟩]) (by simp) ?_;rw [dt_b];have fb:H9 1 [some ⟨1,[.int .i64 x,.bool h]⟩]=true:=by simp [H9,A3,A8]
 have key:i<n→Eb (G ks) x h i=decide (i=C9 (G ks) n x h):=fun h2=>Ji hi h2;simp only [Eb,sA,sN] at key
 have nx:Eb (G ks) x h i=false→i<n→i<C9 (G ks) n x h:=fun h1 h2=>by
  have:=Ji hi h2
  rw [h1] at this
  have:=yP this.symm
  unfold C9 at *;omega
 refine ⟨fun h1=>?_,fun h1=>?_⟩
 ·have h1':=yL h1;have hin:i<n:=by omega
  obtain ⟨t1,t2⟩:=gU hk hin;rw [B6 (n:=(i:Int)+1) (by omega)];refine ⟨yM (by omega),h1,t1,fun h2=>⟨t1,t2,fun h3=>?_,fun h3=>?_⟩,fun h2=>?_⟩
  ·have e:i=C9 (G ks) n x h:=yL (by rw [←key hin,zN];exact ⟨h2,h3⟩);refine .inl ⟨?_,rfl,.inr ?_⟩
   ·show decide (((Ec [.agg (G ks),.int .i64 (n:Int),.int .i64 x,.bool h]:Nat):Int)<(n:Int))=true;rw [Ib,←e];exact h1
   ·refine C2.same (H:=[some ⟨1,[.int .i64 x,.bool h]⟩]) (by simp) fb ?_;show fv 1 [.undef,.undef,.ptr (.ro ks) (Ec [.agg (G ks),.int .i64 (n:Int),.int .i64 x,.bool h]*4),.undef,.undef] _;rw [Ib,←e];simp [fv,A8]
  ·exact ⟨nx (by unfold Eb sA sN;rw [Bool.and_eq_false_iff];exact .inr h3) hin,.inr (C2.same (H:=[some ⟨1,[.int .i64 x,.bool h]⟩]) (by simp) fb (by simp [fv,A8,A3]))⟩
  ·exact ⟨nx (by unfold Eb sA sN;rw [Bool.and_eq_false_iff];exact .inl h2) hin,.inr (C2.same (H:=[some ⟨1,[.int .i64 x,.bool h]⟩]) (by simp) fb (by simp [fv,A8,A3]))⟩
 ·have h1':=yP h1;refine .inr ⟨?_,rfl,.inl ⟨by simp [vVs,vV,wk],rfl⟩⟩;show decide (((Ec [.agg (G ks),.int .i64 (n:Int),.int .i64 x,.bool h]:Nat):Int)<(n:Int))=false;rw [Ib];exact yR (by omega)
theorem ACalls.drop0 {C:A0} {f:FuncId} {args:List AV} {v0:AV} (h:ACalls C f args [] fun v _=>v=v0) (hb:A8 0 v0=true) (hu:v0≠.undef):ACalls C f args [] fun v H=>v=v0∧H=[]:=by
 refine h.view fun v H' hj=>⟨v0,[],⟨rfl,rfl⟩,?_⟩;subst hj;exact C2.same (H:=[]) (G:=H') (by simp) rfl (by simp [fv,hb])
theorem aZ6 (ks n:Nat) (x:Int) (h:Bool) (hk:S5 [.agg (G ks),.int .i64 (n:Int)]=true):ACalls (⟨Try.prog,G,B⟩:A0) 34 [.slice true (.ro ks) 0 n,.agg [.int .i64 x,.bool h]] [] fun v H=>v=(if C9 (G ks) n x h<n then .ptr (.ro ks) (C9 (G ks) n x h*4) else .nilp)∧H=[]:=by
 have:=C1 (C:=(⟨Try.prog,G,B⟩:A0)) (fuel:=300) (n0:=20) (f:=34) (fn:=Try.f34) (args:=[.slice true (.ro (.var 2 ks)) (.lit 0) (.var 3 n),.agg (.of [.int .i64 (.var 6 x),.bool (.var 7 h)])]) (H:=[]) (keep:=0)
  (R:=fun v _=>v=(if C9 (G ks) n x h<n then .ptr (.ro ks) (C9 (G ks) n x h*4) else .nilp)) (D7 (inl:=[]) (ls:=[(D6 1706 (dtQ G ks n x h) 0 42 [0,3,4,8,9] (dtO ks n x h))]) (M:=1) (K6 G B) (by kernel_rfl) .nil (.cast (.cons (i:=0) (by kernel_rfl) rfl (dtL_ok G B ks n x h) .nil) (by kernel_rfl))) (by kernel_rfl) (by kernel_rfl) (by kernel_rfl) (by
  rw [t34];refine ⟨Av hk rfl rfl,fun e=>?_,fun e=>?_⟩
  ·rw [Ib] at *;have:((C9 (G ks) n x h:Nat):Int)<(n:Int):=yL e;exact (if_pos (by omega)).symm
  ·rw [Ib] at *;have:¬((C9 (G ks) n x h:Nat):Int)<(n:Int):=yP e;exact (if_neg (by omega)).symm)
 refine ACalls.drop0 this ?_ ?_<;>split<;>simp [A8]
theorem inL_ok (ks n kp m:Nat) (s x:Int) (h:Bool):H5 (⟨Try.prog,G,B⟩:A0) 2 (A2 Try.f37 0) (D6 1708 (inQ G ks n kp m s x h) 0 44 [2,3,4,5] (inO ks n kp m s x h)):=by
 refine Dq rfl fun hc=>?_;obtain ⟨hk,hn⟩:=L9.1 hc;have hle:inN (G ks) n x h≤n:=K5.1;refine X7 (inN (G ks) n x h) (fun i=>[.ptr (.rw 0) 0,.ptr (.rw 1) 0,.int .i64 0,.int .i64 (i:Int)]) (fun _=>[some ⟨1,[.int .i64 s,.slice true (.ro ks) 0 n,.slice true (.ro kp) 0 m]⟩,some ⟨1,[.int .i64 x,.bool h]⟩]) fun i hi=>?_
 refine D1 (C:=(⟨Try.prog,G,B⟩:A0)) (by rw [show B5 (A2 Try.f37 0)=[] by kernel_rfl];exact D7 (inl:=[]) (ls:=[]) (M:=2) (K6 G B) (by kernel_rfl) (Y3 G B) .nil) (fuel:=300) (n0:=20) (m:=2) (c:=A2 Try.f37 0) (vs:=[.ptr (.rw 0) (.lit 0),.ptr (.rw 1) (.lit 0),.int .i64 (.lit 0),.int .i64 (.ofN (.var 8 i))]) (H:=[some ⟨1,.of [.int .i64 (.var 1 s),.slice true (.ro (.var 2 ks)) (.lit 0) (.var 3 n),.slice true (.ro (.var 4 kp)) (.lit 0) (.var 5 m)]⟩,some ⟨1,.of [.int .i64 (.var 6 x),.bool (.var 7 h)]⟩]) (by simp) ?_;rw [in_b]
 have fb:H9 2 [some ⟨1,[.int .i64 s,.slice true (.ro ks) 0 n,.slice true (.ro kp) 0 m]⟩,some ⟨1,[.int .i64 x,.bool h]⟩]=true:=by simp [H9,A3,A8]
 have key:i<n→Mo (G ks) x h i=decide (i=inN (G ks) n x h):=fun h2=>Ji hi h2;simp only [Mo,sA,sN] at key
 have nx:Mo (G ks) x h i=false→i<n→i<inN (G ks) n x h:=fun h1 h2=>by
  have:=Ji hi h2
  rw [h1] at this
  have:=yP this.symm
  unfold inN at *;omega
 refine ⟨fun h1=>?_,fun h1=>?_⟩
 ·have h1':=yL h1;have hin:i<n:=by omega
  rw [B6 (n:=(i:Int)+1) (by omega)];refine ⟨yM (by omega),h1,M9 hk hin,fun h2=>⟨fun h3=>⟨fun h4=>?_,fun h4=>?_⟩,fun h3=>?_⟩,fun h2=>?_⟩
  ·have e:i=inN (G ks) n x h:=yL (by rw [←key hin,zN,zN];exact ⟨h2,h3,h4⟩);have e2:Qj (G ks) n x h=(i:Int):=by unfold Qj;rw [←e,if_pos hin]
   refine .inr ⟨?_,rfl,.inr ?_⟩
   ·show (Qi [.agg (G ks),.int .i64 (n:Int),.int .i64 x,.bool h]==(-1:Int))=false;rw [Qh,e2];exact beq_eq_false_iff_ne.2 (by omega)
   ·refine C2.same (H:=[some ⟨1,[.int .i64 s,.slice true (.ro ks) 0 n,.slice true (.ro kp) 0 m]⟩,some ⟨1,[.int .i64 x,.bool h]⟩]) (by simp) fb ?_;show fv 2 [.undef,.undef,.int .i64 (Qi [.agg (G ks),.int .i64 (n:Int),.int .i64 x,.bool h]),.undef] _;rw [Qh,e2];simp [fv,A8]
  ·exact ⟨nx (by unfold Mo sA sN;rw [Bool.and_eq_false_iff,Bool.and_eq_false_iff];exact .inr (.inr h4)) hin,.inr (C2.same (H:=[some ⟨1,[.int .i64 s,.slice true (.ro ks) 0 n,.slice true (.ro kp) 0 m]⟩,some ⟨1,[.int .i64 x,.bool h]⟩]) (by simp) fb (by simp [fv,A8,A3]))⟩
  ·exact ⟨nx (by unfold Mo sA sN;rw [Bool.and_eq_false_iff,Bool.and_eq_false_iff];exact .inr (.inl h3)) hin,.inr (C2.same (H:=[some ⟨1,[.int .i64 s,.slice true (.ro ks) 0 n,.slice true (.ro kp) 0 m]⟩,some ⟨1,[.int .i64 x,.bool h]⟩]) (by simp) fb (by simp [fv,A8,A3]))⟩
  ·exact ⟨nx (by unfold Mo sA sN;rw [Bool.and_eq_false_iff];exact .inl h2) hin,.inr (C2.same (H:=[some ⟨1,[.int .i64 s,.slice true (.ro ks) 0 n,.slice true (.ro kp) 0 m]⟩,some ⟨1,[.int .i64 x,.bool h]⟩]) (by simp) fb (by simp [fv,A8,A3]))⟩
 ·have h1':=yP h1;refine .inl ⟨?_,rfl,.inl ⟨by simp [vVs,vV,wk],rfl⟩⟩;show (Qi [.agg (G ks),.int .i64 (n:Int),.int .i64 x,.bool h]==(-1:Int))=true;rw [Qh];unfold Qj;rw [if_neg (by omega)];rfl
theorem aY6 (ks n kp m:Nat) (s x:Int) (h:Bool) (hk:S5 [.agg (G ks),.int .i64 (n:Int)]=true):ACalls (⟨Try.prog,G,B⟩:A0) 37 [.agg [.int .i64 s,.slice true (.ro ks) 0 n,.slice true (.ro kp) 0 m],.agg [.int .i64 x,.bool h]] [] fun v H=>v=.int .i64 (Qj (G ks) n x h)∧H=[]:=by
 have:=C1 (C:=(⟨Try.prog,G,B⟩:A0)) (fuel:=300) (n0:=20) (f:=37) (fn:=Try.f37) (args:=[.agg (.of [.int .i64 (.var 1 s),.slice true (.ro (.var 2 ks)) (.lit 0) (.var 3 n),.slice true (.ro (.var 4 kp)) (.lit 0) (.var 5 m)]),.agg (.of [.int .i64 (.var 6 x),.bool (.var 7 h)])]) (H:=[]) (keep:=0)
  (R:=fun v _=>v=.int .i64 (Qj (G ks) n x h)) (D7 (inl:=[]) (ls:=[(D6 1708 (inQ G ks n kp m s x h) 0 44 [2,3,4,5] (inO ks n kp m s x h))]) (M:=2) (K6 G B) (by kernel_rfl) .nil (.cast (.cons (i:=0) (by kernel_rfl) rfl (inL_ok G B ks n kp m s x h) .nil) (by kernel_rfl))) (by kernel_rfl) (by kernel_rfl) (by kernel_rfl) (by
  rw [t37,Qh];refine ⟨Av hk rfl rfl,fun e=>?_,fun e=>rfl⟩
  rw [eq_of_beq e])
 exact ACalls.drop0 this rfl (by simp)
end
section
variable (G:Nat→List AV) (B:Nat)
theorem E0.ro0 {C:A0} {f:FuncId} {args:List EV} {H:DHp} {v:EV} (h:ACalls C f (vVs C.G args) [] fun v' H'=>v'=vV C.G v∧H'=[]) (ha:A3 0 (vVs C.G args)=true) (hv:A8 0 (vV C.G v)=true):E0 C f args H v []:=by
 refine E0.fr (C:=C) (θ:=[]) (H0:=[]) (H1:=[]) (v0:=vV C.G v) (by simp) rfl (fun i b hi=>by simp at hi) ha (by rw [B9 _ _ ha]) h (zA1 _) hv rfl (by rw [Hq _ _ hv]) ?_;simp [acts,X3,lay]
def dtS:DSum:=fun args _=>match args with
 | [.slice _ (.ro k) (.lit 0) n,.agg (.of [.int .i64 x,.bool b])]=>some (.chk (.uf 1710 S5 [.agg (.ro k),.int .i64 (.ofN n)]) (.tst (.cmp .lss (.ofN (.uf 1707 Ec [.agg (.ro k),.int .i64 (.ofN n),.int .i64 x,.bool b])) (.ofN n)) (.one (.ptr (.ro k) (.mul (.uf 1707 Ec [.agg (.ro k),.int .i64 (.ofN n),.int .i64 x,.bool b]) 4)) []) (.one .nilp [])))
 | _=>none
def inS:DSum:=fun args _=>match args with
 | [.agg (.of [.int .i64 _,.slice _ (.ro k) (.lit 0) n,.slice _ (.ro _) (.lit 0) _]),.agg (.of [.int .i64 x,.bool b])]=>some (.chk (.uf 1710 S5 [.agg (.ro k),.int .i64 (.ofN n)]) (.one (.int .i64 (.uf 1709 Qi [.agg (.ro k),.int .i64 (.ofN n),.int .i64 x,.bool b])) []))
 | _=>none
theorem dtS_ok :D4 (⟨Try.prog,G,B⟩:A0) 34 dtS:=by
 intro args H o ho;unfold dtS at ho;split at ho
 ·rename_i mb k n x b;simp only [zK] at ho;subst ho;intro hk;have key:=aZ6 G B (vN G k) (vN G n) (vI G x) (vB G b) hk;rw [←Ib] at key
  have wk:∀ {K},ACalls (⟨Try.prog,G,B⟩:A0) 34 [.slice true (.ro (vN G k)) 0 (vN G n),.agg [.int .i64 (vI G x),.bool (vB G b)]] [] K→ACalls (⟨Try.prog,G,B⟩:A0) 34 (vVs G [.slice mb (.ro k) (.lit 0) n,.agg (.of [.int .i64 x,.bool b])]) [] K:=fun h=>h.weaken fun ρ vs hv=>by
   simp only [vVs,vV,vL,vR,vN,VRs] at hv ⊢;obtain ⟨v,vs',e,q1,q2⟩:=hv;exact ⟨v,vs',e,T1 q1,q2⟩
  refine ⟨fun hl=>?_,fun hl=>?_⟩
  ·have hl':((Ec [.agg (G (vN G k)),.int .i64 (vN G n:Int),.int .i64 (vI G x),.bool (vB G b)]:Nat):Int)<(vN G n:Int):=yL hl;rw [if_pos (by omega)] at key;exact E0.ro0 (C:=(⟨Try.prog,G,B⟩:A0)) (wk key) (by simp [vVs,vV,vL,vR,A3,A8]) (by simp [vV,vR,A8])
  ·have hl':¬((Ec [.agg (G (vN G k)),.int .i64 (vN G n:Int),.int .i64 (vI G x),.bool (vB G b)]:Nat):Int)<(vN G n:Int):=yP hl;rw [if_neg (by omega)] at key;exact E0.ro0 (C:=(⟨Try.prog,G,B⟩:A0)) (wk key) (by simp [vVs,vV,vL,vR,A3,A8]) (by simp [vV,A8])
 ·simp at ho
theorem inS_ok :D4 (⟨Try.prog,G,B⟩:A0) 37 inS:=by
 intro args H o ho;unfold inS at ho;split at ho
 ·rename_i s mb k n mb' k' n' x b;simp only [zK] at ho;subst ho;intro hk;have key:=aY6 G B (vN G k) (vN G n) (vN G k') (vN G n') (vI G s) (vI G x) (vB G b) hk;rw [←Qh] at key;refine E0.ro0 (C:=(⟨Try.prog,G,B⟩:A0)) (key.weaken fun ρ vs hv=>?_) (by simp [vVs,vV,vL,vR,A3,A8]) (by simp [vV,A8]);simp only [vVs,vV,vL,vR,vN,VRs,VR] at hv ⊢;obtain ⟨v,vs',e,⟨ws,e2,w1,t1,e3,q1,w2,t2,e4,q2,w3,t3,e5,q3,q4⟩,q6⟩:=hv
  exact ⟨v,vs',e,⟨ws,e2,w1,t1,e3,q1,w2,t2,e4,(by have:=T1 (show VR ρ (.slice mb (.ro (vN G k)) 0 (vN G n)) w2 by simpa only [VR] using q2);simpa only [VR] using this),w3,t3,e5,(by have:=T1 (show VR ρ (.slice mb' (.ro (vN G k')) 0 (vN G n')) w3 by simpa only [VR] using q3);simpa only [VR] using this),q4⟩,q6⟩
 ·simp at ho
def progIc:List (Nat×DSum):=(34,dtS)::(37,inS)::progIb
theorem Ft :Q8 (⟨Try.prog,G,B⟩:A0) progIc:=.cons (dtS_ok G B) (.cons (inS_ok G B) (Y3 G B))
theorem ck_d (ks n kp m:Nat) (s y:Int) (w:Bool) (i:Nat) (Q:Ex→List AV→Hp→Prop) (R:AV→Hp→Prop):vT G Q R (G3 (Dc Try.prog [] progIc [] 1) 300 20 1 (A2 Try.f20 1) 98 [1,2,3,4,73,74,75] [.ptr (.rw 0) (.lit 0),.int .i64 (.lit 0),.bool (.var 9 w),.int .i64 (.var 10 y),.slice true (.ro (.var 4 kp)) (.lit 0) (.var 5 m),.int .i64 (.ofN (.var 5 m)),.int .i64 (.ofN (.var 8 i))] [some ⟨1,.of [.int .i64 (.var 1 s),.slice true (.ro (.var 2 ks)) (.lit 0) (.var 3 n),.slice true (.ro (.var 4 kp)) (.lit 0) (.var 5 m)]⟩])=(
  (decide (((i:Int):Int)<(m:Int))=true→decide ((0:Int)≤(i:Int))=true∧decide (((i:Int):Int)<(m:Int))=true∧E5 (G kp) (i*2) [.int .i64,.bool]=true∧(decide ((A1 (G kp) (i*2):Int)<y)=true→Q .ret [.ptr (.rw 0) 0,.int .i64 2,.bool w,.int .i64 y,.slice true (.ro kp) 0 m,.int .i64 ((m:Int)),.int .i64 ((i:Int))] [some ⟨1,([.int .i64 s,.slice true (.ro ks) 0 n,.slice true (.ro kp) 0 m]:List AV)⟩,some ⟨1,([.int .i64 (A1 (G kp) (i*2)),.bool (E1 (G kp) (i*2+1))]:List AV)⟩])∧(decide ((A1 (G kp) (i*2):Int)<y)=false→S5 [.agg (G ks),.int .i64 ((n:Int))]=true∧(decide ((((Ec [.agg (G ks),.int .i64 ((n:Int)),.int .i64 (A1 (G kp) (i*2)),.bool (E1 (G kp) (i*2+1))]:Nat):Int):Int)<(n:Int))=true→Q .normal [.ptr (.rw 0) 0,.int .i64 0,.bool w,.int .i64 (IntKind.wrap .i64 (A1 (G kp) (i*2)+Gc [.bool (E1 (G kp) (i*2+1))])),.slice true (.ro kp) 0 m,.int .i64 ((m:Int)),.int .i64 (IntKind.wrap .i64 ((i:Int)+1))] [some ⟨1,([.int .i64 s,.slice true (.ro ks) 0 n,.slice true (.ro kp) 0 m]:List AV)⟩,some ⟨1,([.int .i64 (A1 (G kp) (i*2)),.bool (E1 (G kp) (i*2+1))]:List AV)⟩])∧(decide ((((Ec [.agg (G ks),.int .i64 ((n:Int)),.int .i64 (A1 (G kp) (i*2)),.bool (E1 (G kp) (i*2+1))]:Nat):Int):Int)<(n:Int))=false→Q .ret [.ptr (.rw 0) 0,.int .i64 2,.bool w,.int .i64 y,.slice true (.ro kp) 0 m,.int .i64 ((m:Int)),.int .i64 ((i:Int))] [some ⟨1,([.int .i64 s,.slice true (.ro ks) 0 n,.slice true (.ro kp) 0 m]:List AV)⟩,some ⟨1,([.int .i64 (A1 (G kp) (i*2)),.bool (E1 (G kp) (i*2+1))]:List AV)⟩])))∧
 (decide (((i:Int):Int)<(m:Int))=false→Q (.exit 2) [.ptr (.rw 0) 0,.int .i64 0,.bool w,.int .i64 y,.slice true (.ro kp) 0 m,.int .i64 ((m:Int)),.int .i64 ((i:Int))] [some ⟨1,([.int .i64 s,.slice true (.ro ks) 0 n,.slice true (.ro kp) 0 m]:List AV)⟩])):=by kernel_rfl
def Px (ks:Nat) (n:Nat) (kp:Nat) (m:Nat) (s:Int):List AV:=[.int .i64 s,.slice true (.ro ks) 0 n,.slice true (.ro kp) 0 m]
theorem ma_d (ks n kp m:Nat) (s:Int) (w:Bool) (i:Nat) (Q:Ex→List AV→Hp→Prop) (R:AV→Hp→Prop):vT G Q R (G3 (Dc Try.prog [] progIc [] 1) 300 20 1 (A2 Try.f21 1) 130 [1,2,3,6] [.ptr (.rw 0) (.lit 0),.bool (.lit false),.bool (.var 9 w),.int .i64 (.ofN (.var 8 i))] [some ⟨1,.of [.int .i64 (.var 1 s),.slice true (.ro (.var 2 ks)) (.lit 0) (.var 3 n),.slice true (.ro (.var 4 kp)) (.lit 0) (.var 5 m)]⟩])=(
  (decide (((i:Int):Int)<(m:Int))=true→decide ((0:Int)≤(i:Int))=true∧decide (((i:Int):Int)<(m:Int))=true∧E5 (G kp) (i*2) [.int .i64,.bool]=true∧(decide ((A1 (G kp) (i*2):Int)<0)=true→Q .ret [.ptr (.rw 0) 0,.bool false,.bool w,.int .i64 ((i:Int))] [some ⟨1,(Px ks n kp m s)⟩,some ⟨1,([.int .i64 (A1 (G kp) (i*2)),.bool (E1 (G kp) (i*2+1))]:List AV)⟩])∧(decide ((A1 (G kp) (i*2):Int)<0)=false→S5 [.agg (G ks),.int .i64 ((n:Int))]=true∧(decide ((Qi [.agg (G ks),.int .i64 ((n:Int)),.int .i64 (A1 (G kp) (i*2)),.bool (E1 (G kp) (i*2+1))]:Int)<0)=true→Q .ret [.ptr (.rw 0) 0,.bool false,.bool w,.int .i64 ((i:Int))] [some ⟨1,(Px ks n kp m s)⟩,some ⟨1,([.int .i64 (A1 (G kp) (i*2)),.bool (E1 (G kp) (i*2+1))]:List AV)⟩])∧(decide ((Qi [.agg (G ks),.int .i64 ((n:Int)),.int .i64 (A1 (G kp) (i*2)),.bool (E1 (G kp) (i*2+1))]:Int)<0)=false→(decide (((i:Int):Int)>0)=true→decide ((0:Int)≤IntKind.wrap .i64 ((i:Int) - 1))=true∧decide ((IntKind.wrap .i64 ((i:Int) - 1):Int)<(m:Int))=true∧isI .i64 (G kp) ((Int.toNat (IntKind.wrap .i64 ((i:Int) - 1)))*2)=true∧decide ((0:Int)≤IntKind.wrap .i64 ((i:Int) - 1))=true∧decide ((IntKind.wrap .i64 ((i:Int) - 1):Int)<(m:Int))=true∧E5 (G kp) ((Int.toNat (IntKind.wrap .i64 ((i:Int) - 1)))*2) [.int .i64,.bool]=true∧(decide ((IntKind.wrap .i64 (A1 (G kp) ((Int.toNat (IntKind.wrap .i64 ((i:Int) - 1)))*2)+Gc [.bool (E1 (G kp) ((Int.toNat (IntKind.wrap .i64 ((i:Int) - 1)))*2+1))]):Int)>A1 (G kp) (i*2))=true→
 Q .ret [.ptr (.rw 0) 0,.bool false,.bool w,.int .i64 ((i:Int))] [some ⟨1,(Px ks n kp m s)⟩,some ⟨1,([.int .i64 (A1 (G kp) (i*2)),.bool (E1 (G kp) (i*2+1))]:List AV)⟩])∧(decide ((IntKind.wrap .i64 (A1 (G kp) ((Int.toNat (IntKind.wrap .i64 ((i:Int) - 1)))*2)+Gc [.bool (E1 (G kp) ((Int.toNat (IntKind.wrap .i64 ((i:Int) - 1)))*2+1))]):Int)>A1 (G kp) (i*2))=false→Q .normal [.ptr (.rw 0) 0,.bool false,.bool w,.int .i64 (IntKind.wrap .i64 ((i:Int)+1))] [some ⟨1,(Px ks n kp m s)⟩,some ⟨1,([.int .i64 (A1 (G kp) (i*2)),.bool (E1 (G kp) (i*2+1))]:List AV)⟩]))∧(decide (((i:Int):Int)>0)=false→Q .normal [.ptr (.rw 0) 0,.bool false,.bool w,.int .i64 (IntKind.wrap .i64 ((i:Int)+1))] [some ⟨1,(Px ks n kp m s)⟩,some ⟨1,([.int .i64 (A1 (G kp) (i*2)),.bool (E1 (G kp) (i*2+1))]:List AV)⟩]))))∧(decide (((i:Int):Int)<(m:Int))=false→Q (.exit 2) [.ptr (.rw 0) 0,.bool false,.bool w,.int .i64 ((i:Int))] [some ⟨1,(Px ks n kp m s)⟩])):=by kernel_rfl
end
def xP (ps:List AV) (j:Nat):Int:=A1 ps (j*2)
def hP (ps:List AV) (j:Nat):Bool:=E1 ps (j*2+1)
def uQ (ps:List AV) (j:Nat):Bool:=E5 ps (j*2) [.int .i64,.bool]&&(decide (-9223372036854775808≤xP ps j)&&decide (xP ps j≤9223372036854775807))
def Q4 (ps:List AV) (m:Nat):Bool:=I2 (uQ ps) m
def Jr:List AV→Bool:=fun xs=>match xs with
 | [.agg ps,.int _ m]=>Q4 ps m.toNat&&Nat.ble m.toNat 1000000
 | _=>false
theorem Z3 {ps:List AV} {m:Nat}:Jr [.agg ps,.int .i64 (m:Int)]=true↔Q4 ps m=true∧m≤1000000:=by
 simp only [Jr,F9,zN];exact ⟨fun ⟨h1,h2⟩=>⟨h1,rR h2⟩,fun ⟨h1,h2⟩=>⟨h1,Nat.ble_eq_true_of_le h2⟩⟩
theorem S1 {ps:List AV} {m j:Nat} (h:Q4 ps m=true) (hj:j<m):E5 ps (j*2) [.int .i64,.bool]=true∧isI .i64 ps (j*2)=true∧-9223372036854775808≤xP ps j∧xP ps j≤9223372036854775807:=by
 have:=F6.1 h j hj
 simp only [uQ,zN,xE] at this;refine ⟨this.1,?_,this.2⟩
 have:=this.1
 simp only [E5,Ak,zN] at this;exact this.1
def sE (cs:List AV) (k:Nat):Int:=sA cs k+(sN cs k:Int)+sZ cs k
def aT (cs:List AV):Nat→Int
 | 0=>0
 | i+1=>sE cs i
def Rh (cs:List AV) (k:Nat):Bool:=Hm (sA cs k) (sR cs k) (sN cs k) (sZ cs k)
def Z8 (cs:List AV) (k:Nat):Bool:=Rh cs k&&decide (aT cs k≤sA cs k)
def eS (cs:List AV) (s:Int) (k:Nat):Bool:=!((P0 .i64 (sR cs k) 4:Int)==0)&&(decide (s≥sA cs k)&&decide (s<sE cs k))
def As (cs:List AV) (s:Int):Nat→Bool
 | 0=>false
 | i+1=>As cs s i||eS cs s i
def Tc (ps:List AV):Nat→Int
 | 0=>0
 | j+1=>xP ps j+P4 (hP ps j)
def Bj (cs:List AV) (n:Nat) (ps:List AV) (j:Nat):Bool:=decide (Tc ps j≤xP ps j)&&decide (C9 cs n (xP ps j) (hP ps j)<n)
theorem vJ {cs:List AV} {s:Int} {i:Nat} (h:As cs s i=true):As cs s (i+1)=true:=by simp [As,h]
theorem vH {cs:List AV} {s:Int} {i:Nat} (h:As cs s i=false) (h1:((P0 .i64 (sR cs i) 4:Int)==0)=true):As cs s (i+1)=false:=by simp only [As,eS,h,h1];rfl
theorem vG {cs:List AV} {s:Int} {i:Nat} (h:As cs s i=false) (h1:((P0 .i64 (sR cs i) 4:Int)==0)=false) (h2:decide (s≥sA cs i)=true):As cs s (i+1)=decide (s<sE cs i):=by simp only [As,eS,h,h1,h2];simp
theorem vF {cs:List AV} {s:Int} {i:Nat} (h:As cs s i=false) (h1:((P0 .i64 (sR cs i) 4:Int)==0)=false) (h2:decide (s≥sA cs i)=false):As cs s (i+1)=false:=by simp only [As,eS,h,h1,h2];rfl
def De:List AV→Bool:=fun xs=>match xs with
 | [.agg cs,.int _ n]=>I2 (Z8 cs) n.toNat
 | _=>false
def Ei:List AV→Bool:=fun xs=>match xs with
 | [.agg cs,.int _ n,.int _ s]=>As cs s n.toNat
 | _=>false
def Jt:List AV→Bool:=fun xs=>match xs with
 | [.agg cs,.int _ n,.agg ps,.int _ m]=>I2 (Bj cs n.toNat ps) m.toNat
 | _=>false
theorem Ew {cs:List AV} {n:Nat}:De [.agg cs,.int .i64 (n:Int)]=I2 (Z8 cs) n:=by simp only [De,F9]
theorem cB {cs:List AV} {n:Nat} {s:Int}:Ei [.agg cs,.int .i64 (n:Int),.int .i64 s]=As cs s n:=by simp only [Ei,F9]
theorem Kz {cs ps:List AV} {n m:Nat}:Jt [.agg cs,.int .i64 (n:Int),.agg ps,.int .i64 (m:Int)]=I2 (Bj cs n ps) m:=by simp only [Jt,F9]
theorem qZ {a r z:Int} {n:Nat}:Tx [.int .i64 a,.int .i64 r,.int .i64 (n:Int),.int .i64 z]=Hm a r n z:=by simp only [Tx,F9]
theorem upU_eq {a z:Int} {n:Nat}:upU [.int .i64 a,.int .i64 (n:Int),.int .i64 z]=upF a n z:=by simp only [upU,F9]
theorem bT {p:Nat→Bool} {n i:Nat} (h:i≤M4 (fun j=>!p j) n):∀ j,j<i→p j=true:=fun j hj=>by
 have:=(K5 (p:=fun j=>!p j) (k:=n)).2.2 j (by omega)
 simpa using this
theorem Jh {p:Nat→Bool} {n i:Nat} (h:i≤M4 (fun j=>!p j) n) (hi:i<n) (hp:p i=true):i<M4 (fun j=>!p j) n:=by
 have:=Ji h hi
 simp only [hp,Bool.not_true] at this
 have:=yP this.symm
 omega
theorem Lh {p:Nat→Bool} {n i:Nat} (h:i≤M4 (fun j=>!p j) n) (hi:¬i<n):I2 p n=true:=F6.2 fun j hj=>bT h j (by omega)
def cond1 (cs:List AV) (n:Nat):Bool:=S5 [.agg cs,.int .i64 (n:Int)]
def kM (cs:List AV) (n:Nat) (ps:List AV) (m:Nat):Bool:=S5 [.agg cs,.int .i64 (n:Int)]&&(Jr [.agg ps,.int .i64 (m:Int)]&&I2 (Z8 cs) n)
def ckQ (G:Nat→List AV) (ks n kp m:Nat) (s:Int):List AV→Bool:=Pj (cond1 (G ks) n) [.ptr (.rw 0) 0,.int .i64 0,.bool false,.int .i64 0,.slice true (.ro ks) 0 n,.int .i64 (n:Int),.int .i64 0] [some ⟨1,[.int .i64 s,.slice true (.ro ks) 0 n,.slice true (.ro kp) 0 m]⟩]
def ckO (ks n kp m:Nat) (s:Int):LOut:=.tst (.uf 1711 De [.agg (.ro (.var 2 ks)),.int .i64 (.ofN (.var 3 n))]) (.one (.exit 0) [.ptr (.rw 0) (.lit 0),.int .i64 (.lit 0),.bool (.uf 1712 Ei [.agg (.ro (.var 2 ks)),.int .i64 (.ofN (.var 3 n)),.int .i64 (.var 1 s)]),.undef,.undef,.undef,.undef] [some ⟨1,.of [.int .i64 (.var 1 s),.slice true (.ro (.var 2 ks)) (.lit 0) (.var 3 n),.slice true (.ro (.var 4 kp)) (.lit 0) (.var 5 m)]⟩]) (.one .ret [.undef,.int .i64 (.lit 2),.undef,.undef,.undef,.undef,.undef] [some ⟨1,.of [.int .i64 (.var 1 s),.slice true (.ro (.var 2 ks)) (.lit 0) (.var 3 n),.slice true (.ro (.var 4 kp)) (.lit 0) (.var 5 m)]⟩])
def cdQ (G:Nat→List AV) (ks n kp m:Nat) (s:Int):List AV→Bool:=Pj (kM (G ks) n (G kp) m) [.ptr (.rw 0) 0,.int .i64 0,.bool (Ei [.agg (G ks),.int .i64 (n:Int),.int .i64 s]),.int .i64 0,.slice true (.ro kp) 0 m,.int .i64 (m:Int),.int .i64 0] [some ⟨1,[.int .i64 s,.slice true (.ro ks) 0 n,.slice true (.ro kp) 0 m]⟩]
def cdO (ks n kp m:Nat) (s:Int):LOut:=.tst (.uf 1713 Jt [.agg (.ro (.var 2 ks)),.int .i64 (.ofN (.var 3 n)),.agg (.ro (.var 4 kp)),.int .i64 (.ofN (.var 5 m))]) (.one (.exit 2) [.ptr (.rw 0) (.lit 0),.int .i64 (.lit 0),.bool (.uf 1712 Ei [.agg (.ro (.var 2 ks)),.int .i64 (.ofN (.var 3 n)),.int .i64 (.var 1 s)]),.undef,.undef,.undef,.undef] [some ⟨1,.of [.int .i64 (.var 1 s),.slice true (.ro (.var 2 ks)) (.lit 0) (.var 3 n),.slice true (.ro (.var 4 kp)) (.lit 0) (.var 5 m)]⟩]) (.one .ret [.undef,.int .i64 (.lit 2),.undef,.undef,.undef,.undef,.undef] [some ⟨1,.of [.int .i64 (.var 1 s),.slice true (.ro (.var 2 ks)) (.lit 0) (.var 3 n),.slice true (.ro (.var 4 kp)) (.lit 0) (.var 5 m)]⟩])
theorem t20 (G:Nat→List AV) (ks n kp m:Nat) (s:Int) (Q:Ex→List AV→Hp→Prop) (R:AV→Hp→Prop):vT G Q R (G0 (Dc Try.prog [] progIc [(D6 1714 (ckQ G ks n kp m s) 0 98 [1,2,3,4,31,32,33] (ckO ks n kp m s)),(D6 1715 (cdQ G ks n kp m s) 2 98 [1,2,3,4,73,74,75] (cdO ks n kp m s))] 1) 300 20 Try.f20 [.agg (.of [.int .i64 (.var 1 s),.slice true (.ro (.var 2 ks)) (.lit 0) (.var 3 n),.slice true (.ro (.var 4 kp)) (.lit 0) (.var 5 m)])] [] 0)=(
  (decide (((n:Int):Int)>8)=true→R (.int .i64 2) [])∧(decide (((n:Int):Int)>8)=false→(decide (((m:Int):Int)>512)=true→R (.int .i64 2) [])∧(decide (((m:Int):Int)>512)=false→(decide ((s:Int)<0)=true→R (.int .i64 2) [])∧(decide ((s:Int)<0)=false→(((Int.tmod s 4:Int)==0)=true→(ckQ G ks n kp m s) [.agg ([.ptr (.rw 0) 0,.int .i64 0,.bool false,.int .i64 0,.slice true (.ro ks) 0 n,.int .i64 ((n:Int)),.int .i64 0]:List AV),.agg ([.tup [.int .i64 1,.agg ([.int .i64 s,.slice true (.ro ks) 0 n,.slice true (.ro kp) 0 m]:List AV)]]:List AV)]=true∧(De [.agg (G ks),.int .i64 ((n:Int))]=true→(cdQ G ks n kp m s) [.agg ([.ptr (.rw 0) 0,.int .i64 0,.bool (Ei [.agg (G ks),.int .i64 ((n:Int)),.int .i64 s]),.int .i64 0,.slice true (.ro kp) 0 m,.int .i64 ((m:Int)),.int .i64 0]:List AV),.agg ([.tup [.int .i64 1,.agg ([.int .i64 s,.slice true (.ro ks) 0 n,.slice true (.ro kp) 0 m]:List AV)]]:List AV)]=true∧(Jt [.agg (G ks),.int .i64 ((n:Int)),.agg (G kp),.int .i64 ((m:Int))]=true→(Ei [.agg (G ks),.int .i64 ((n:Int)),.int .i64 s]=true→R (.int .i64 0) [])∧(Ei [.agg (G ks),.int .i64 ((n:Int)),.int .i64 s]=false→R (.int .i64 2) []))∧(Jt [.agg (G ks),.int .i64 ((n:Int)),.agg (G kp),.int .i64 ((m:Int))]=false→R (.int .i64 2) []))∧(De [.agg (G ks),.int .i64 ((n:Int))]=false→R (.int .i64 2) []))∧(((Int.tmod s 4:Int)==0)=false→R (.int .i64 2) []))))):=by kernel_rfl
def maQ (G:Nat→List AV) (ks n kp m:Nat) (s:Int):List AV→Bool:=Pj (cond1 (G ks) n) [.ptr (.rw 0) 0,.bool false,.bool false,.int .i64 0] [some ⟨1,[.int .i64 s,.slice true (.ro ks) 0 n,.slice true (.ro kp) 0 m]⟩]
def maO (ks n kp m:Nat) (s:Int):LOut:=.tst (.uf 1711 De [.agg (.ro (.var 2 ks)),.int .i64 (.ofN (.var 3 n))]) (.one (.exit 0) [.ptr (.rw 0) (.lit 0),.bool (.lit false),.bool (.uf 1712 Ei [.agg (.ro (.var 2 ks)),.int .i64 (.ofN (.var 3 n)),.int .i64 (.var 1 s)]),.undef] [some ⟨1,.of [.int .i64 (.var 1 s),.slice true (.ro (.var 2 ks)) (.lit 0) (.var 3 n),.slice true (.ro (.var 4 kp)) (.lit 0) (.var 5 m)]⟩]) (.one .ret [.undef,.bool (.lit false),.undef,.undef] [some ⟨1,.of [.int .i64 (.var 1 s),.slice true (.ro (.var 2 ks)) (.lit 0) (.var 3 n),.slice true (.ro (.var 4 kp)) (.lit 0) (.var 5 m)]⟩])
def mdQ (G:Nat→List AV) (ks n kp m:Nat) (s:Int):List AV→Bool:=Pj (kM (G ks) n (G kp) m) [.ptr (.rw 0) 0,.bool false,.bool (Ei [.agg (G ks),.int .i64 (n:Int),.int .i64 s]),.int .i64 0] [some ⟨1,[.int .i64 s,.slice true (.ro ks) 0 n,.slice true (.ro kp) 0 m]⟩]
def mdO (ks n kp m:Nat) (s:Int):LOut:=.tst (.uf 1713 Jt [.agg (.ro (.var 2 ks)),.int .i64 (.ofN (.var 3 n)),.agg (.ro (.var 4 kp)),.int .i64 (.ofN (.var 5 m))]) (.one (.exit 2) [.ptr (.rw 0) (.lit 0),.bool (.lit false),.bool (.uf 1712 Ei [.agg (.ro (.var 2 ks)),.int .i64 (.ofN (.var 3 n)),.int .i64 (.var 1 s)]),.undef] [some ⟨1,.of [.int .i64 (.var 1 s),.slice true (.ro (.var 2 ks)) (.lit 0) (.var 3 n),.slice true (.ro (.var 4 kp)) (.lit 0) (.var 5 m)]⟩]) (.one .ret [.undef,.bool (.lit false),.undef,.undef] [some ⟨1,.of [.int .i64 (.var 1 s),.slice true (.ro (.var 2 ks)) (.lit 0) (.var 3 n),.slice true (.ro (.var 4 kp)) (.lit 0) (.var 5 m)]⟩])
theorem t21 (G:Nat→List AV) (ks n kp m:Nat) (s:Int) (Q:Ex→List AV→Hp→Prop) (R:AV→Hp→Prop):vT G Q R (G0 (Dc Try.prog [] progIc [(D6 1716 (maQ G ks n kp m s) 0 130 [1,2,3,4] (maO ks n kp m s)),(D6 1717 (mdQ G ks n kp m s) 2 130 [1,2,3,6] (mdO ks n kp m s))] 1) 300 20 Try.f21 [.agg (.of [.int .i64 (.var 1 s),.slice true (.ro (.var 2 ks)) (.lit 0) (.var 3 n),.slice true (.ro (.var 4 kp)) (.lit 0) (.var 5 m)])] [] 0)=(
  (decide (((n:Int):Int)>8)=true→R (.bool false) [])∧(decide (((n:Int):Int)>8)=false→(decide (((m:Int):Int)>512)=true→R (.bool false) [])∧(decide (((m:Int):Int)>512)=false→(decide ((s:Int)<0)=true→R (.bool false) [])∧(decide ((s:Int)<0)=false→(((Int.tmod s 4:Int)==0)=true→(maQ G ks n kp m s) [.agg ([.ptr (.rw 0) 0,.bool false,.bool false,.int .i64 0]:List AV),.agg ([.tup [.int .i64 1,.agg ([.int .i64 s,.slice true (.ro ks) 0 n,.slice true (.ro kp) 0 m]:List AV)]]:List AV)]=true∧(De [.agg (G ks),.int .i64 ((n:Int))]=true→(mdQ G ks n kp m s) [.agg ([.ptr (.rw 0) 0,.bool false,.bool (Ei [.agg (G ks),.int .i64 ((n:Int)),.int .i64 s]),.int .i64 0]:List AV),.agg ([.tup [.int .i64 1,.agg ([.int .i64 s,.slice true (.ro ks) 0 n,.slice true (.ro kp) 0 m]:List AV)]]:List AV)]=true∧(Jt [.agg (G ks),.int .i64 ((n:Int)),.agg (G kp),.int .i64 ((m:Int))]=true→R (.bool (Ei [.agg (G ks),.int .i64 ((n:Int)),.int .i64 s])) [])∧(Jt [.agg (G ks),.int .i64 ((n:Int)),.agg (G kp),.int .i64 ((m:Int))]=false→R (.bool false) []))∧(De [.agg (G ks),.int .i64 ((n:Int))]=false→R (.bool false) []))∧(((Int.tmod s 4:Int)==0)=false→R (.bool false) []))))):=by kernel_rfl
theorem hit_eq {cs:List AV} {x:Int} {h:Bool} {k:Nat} (hs:Rh cs k=true) (hx:0≤x∧x≤9223372036854775807):Eb cs x h k=Mo cs x h k:=by
 have hs:=U2.1 hs;have hw:2≤P4 h∧P4 h≤4:=by unfold P4;split<;>omega
 unfold Eb Mo;by_cases h1:sA cs k≤x
 ·rw [yM h1,Bool.true_and,Bool.true_and,B6 (n:=x - sA cs k) (by omega),B6 (n:=(sN cs k:Int) - P4 h) (by omega),B6 (n:=sA cs k+(sN cs k:Int)) (by omega)];by_cases h2:x≤8192
  ·rw [yM h2,Bool.true_and,B6 (n:=x+P4 h) (by omega),Bool.eq_iff_iff,decide_eq_true_iff,decide_eq_true_iff];omega
  ·rw [yR h2,Bool.false_and];exact yR (by omega)
 ·rw [yR h1,Bool.false_and,Bool.false_and]
theorem Ko {p q:Nat→Bool} {n:Nat} (h:∀ j,j<n→p j=q j):M4 p n=M4 q n:=by
 obtain ⟨a1,a2,a3⟩:=K5 (p:=p) (k:=n);obtain ⟨b1,b2,b3⟩:=K5 (p:=q) (k:=n);rcases Nat.lt_trichotomy (M4 p n) (M4 q n) with h1 | h1 | h1
 ·have:=a2 (by omega);rw [h _ (by omega),b3 _ h1] at this;simp at this
 ·exact h1
 ·have:=b2 (by omega);rw [←h _ (by omega),a3 _ h1] at this;simp at this
theorem cI {cs:List AV} {n:Nat} {x:Int} {h:Bool} (hs:I2 (Z8 cs) n=true) (hx:0≤x∧x≤9223372036854775807):C9 cs n x h=inN cs n x h:=Ko fun j hj=>hit_eq (by have:=F6.1 hs j hj;unfold Z8 at this;rw [zN] at this;exact this.1) hx
theorem oQ {cs:List AV} {n:Nat} {x:Int} {h:Bool} (hs:I2 (Z8 cs) n=true) (hx:0≤x∧x≤9223372036854775807) (hd:C9 cs n x h<n):x≤8192:=by
 rw [cI hs hx] at hd
 have:=(K5 (p:=Mo cs x h) (k:=n)).2.1 hd
 unfold Mo at this;simp only [zN,xE] at this;exact this.2.1
theorem uL {cs ps:List AV} {n m i:Nat} (hs:I2 (Z8 cs) n=true) (hp:Q4 ps m=true):i≤m→(∀ j,j<i→Bj cs n ps j=true)→0≤Tc ps i∧Tc ps i≤8200:=by
 induction i with
 | zero=>intro _ _;exact ⟨Int.le_refl _,by show (0:Int)≤8200;omega⟩
 | succ i ih=>
  intro hi h;have ih:=ih (by omega) fun j hj=>h j (by omega)
  have:=h i (by omega)
  unfold Bj at this;simp only [zN,xE] at this;have hx:=(S1 hp (j:=i) (by omega)).2.2
  have:=oQ hs (by omega) this.2
  have hw:2≤P4 (hP ps i)∧P4 (hP ps i)≤4:=by unfold P4;split<;>omega
  show 0≤xP ps i+P4 (hP ps i)∧xP ps i+P4 (hP ps i)≤8200;omega
theorem szE {cs:List AV} {i:Nat} (h:Rh cs i=true):IntKind.wrap .i64 (sA cs i+lK (sN cs i) (sZ cs i))=sE cs i:=by
 have:=U2.1 h
 have e:lK (sN cs i) (sZ cs i)=(sN cs i:Int)+sZ cs i:=B6 (by omega);rw [e,B6 (by omega)];unfold sE;omega
theorem rszE {cs:List AV} {i:Nat} (h:Rh cs i=true):IntKind.wrap .i64 (sA cs i+Om (sN cs i) (sZ cs i))=sE cs i:=by
 have:=U2.1 h
 have e:Om (sN cs i) (sZ cs i)=(sN cs i:Int)+sZ cs i:=if_pos ⟨by omega,by omega,by omega⟩;rw [e,B6 (by omega)];unfold sE;omega
theorem ckL_ok (G:Nat→List AV) (B:Nat) (ks n kp m:Nat) (s:Int):H5 (⟨Try.prog,G,B⟩:A0) 1 (A2 Try.f20 0) (D6 1714 (ckQ G ks n kp m s) 0 98 [1,2,3,4,31,32,33] (ckO ks n kp m s)):=by
 refine Dq rfl fun hc=>?_;obtain ⟨hk,hn⟩:=L9.1 hc;refine X7 (M4 (fun j=>!Z8 (G ks) j) n) (fun i=>[.ptr (.rw 0) 0,.int .i64 0,.bool (As (G ks) s i),.int .i64 (aT (G ks) i),.slice true (.ro ks) 0 n,.int .i64 (n:Int),.int .i64 (i:Int)]) (fun _=>[some ⟨1,[.int .i64 s,.slice true (.ro ks) 0 n,.slice true (.ro kp) 0 m]⟩]) fun i hi=>?_;have hle:M4 (fun j=>!Z8 (G ks) j) n≤n:=K5.1
 refine D1 (C:=(⟨Try.prog,G,B⟩:A0)) (by rw [show B5 (A2 Try.f20 0)=[] by kernel_rfl];exact D7 (inl:=[]) (ls:=[]) (M:=1) (K6 G B) (by kernel_rfl) (Y3 G B) .nil) (fuel:=300) (n0:=20) (m:=1) (c:=A2 Try.f20 0) (vs:=[.ptr (.rw 0) (.lit 0),.int .i64 (.lit 0),.bool (.var 9 (As (G ks) s i)),.int .i64 (.var 10 (aT (G ks) i)),.slice true (.ro (.var 2 ks)) (.lit 0) (.var 3 n),.int .i64 (.ofN (.var 3 n)),.int .i64 (.ofN (.var 8 i))]) (H:=[some ⟨1,.of [.int .i64 (.var 1 s),.slice true (.ro (.var 2 ks)) (.lit 0) (.var 3 n),.slice true (.ro (.var 4 kp)) (.lit 0) (.var 5 m)]⟩]) (by simp) ?_
 rw [ck_b];have fb:H9 1 [some ⟨1,[.int .i64 s,.slice true (.ro ks) 0 n,.slice true (.ro kp) 0 m]⟩]=true:=by simp [H9,A3,A8]
 refine ⟨fun h1=>?_,fun h1=>?_⟩
 ·have h1':=yL h1;have hin:i<n:=by omega
  rw [B6 (n:=(i:Int)+1) (by omega),qZ,wX]
  have no:Z8 (G ks) i=false→¬De [.agg (G ks),.int .i64 (n:Int)]=true:=fun h=>by
   rw [Ew,P5 hin h];simp
  have nof:Z8 (G ks) i=false→De [.agg (G ks),.int .i64 (n:Int)]=false:=fun h=>by
   rw [Ew,P5 hin h]
  refine ⟨yM (by omega),h1,M9 hk hin,fun h2=>?_,fun h2=>?_⟩
  ·have h2':Rh (G ks) i=true:=h2;have e:=szE h2';unfold sA sN sZ at e;rw [e];refine ⟨fun h3=>?_,fun h3=>?_⟩
   ·refine .inr ⟨nof ?_,rfl,.inr (C2.same (H:=[some ⟨1,[.int .i64 s,.slice true (.ro ks) 0 n,.slice true (.ro kp) 0 m]⟩]) (by simp) fb (by simp [fv,A8,vVs,vV,vI]))⟩;have h3:A1 (G ks) (i*4)<aT (G ks) i:=yL h3;unfold Z8;rw [h2',yR (by unfold sA;omega)];rfl
   ·have h3:¬A1 (G ks) (i*4)<aT (G ks) i:=yP h3;have lt:=Jh hi hin (by unfold Z8;rw [h2',yM (by unfold sA;omega)];rfl);refine ⟨fun w1=>?_,fun w1=>⟨fun g1=>?_,fun g1=>⟨fun g2=>?_,fun g2=>?_⟩⟩⟩
    ·exact ⟨lt,.inr (C2.same (H:=[some ⟨1,[.int .i64 s,.slice true (.ro ks) 0 n,.slice true (.ro kp) 0 m]⟩]) (by simp) fb (by simp [fv,A8,A3,vJ w1,aT]))⟩
    ·exact ⟨lt,.inr (C2.same (H:=[some ⟨1,[.int .i64 s,.slice true (.ro ks) 0 n,.slice true (.ro kp) 0 m]⟩]) (by simp) fb (by simp [fv,A8,A3,vH w1 g1,aT]))⟩
    ·exact ⟨lt,.inr (C2.same (H:=[some ⟨1,[.int .i64 s,.slice true (.ro ks) 0 n,.slice true (.ro kp) 0 m]⟩]) (by simp) fb (by simp [fv,A8,A3,vG w1 g1 g2,aT]))⟩
    ·exact ⟨lt,.inr (C2.same (H:=[some ⟨1,[.int .i64 s,.slice true (.ro ks) 0 n,.slice true (.ro kp) 0 m]⟩]) (by simp) fb (by simp [fv,A8,A3,vF w1 g1 g2,aT]))⟩
  ·refine .inr ⟨nof ?_,rfl,.inr (C2.same (H:=[some ⟨1,[.int .i64 s,.slice true (.ro ks) 0 n,.slice true (.ro kp) 0 m]⟩]) (by simp) fb (by simp [fv,A8,vVs,vV,vI]))⟩;have h2':Rh (G ks) i=false:=h2;unfold Z8;rw [h2'];rfl
 ·have h1':=yP h1;have e:i=n:=by omega
  refine .inl ⟨?_,rfl,.inl ⟨?_,rfl⟩⟩
  ·show De [.agg (G ks),.int .i64 (n:Int)]=true;rw [Ew];exact Lh hi (by omega)
  ·show wk [.ptr (.rw 0) 0,.int .i64 0,.bool (Ei [.agg (G ks),.int .i64 (n:Int),.int .i64 s]),.undef,.undef,.undef,.undef] _;rw [cB,←e];simp [wk]
end Go.Am
