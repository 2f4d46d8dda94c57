/-
  Images: the section in which a place lies. Images: which may be: the trees.
-/
import Derived.Test.YthejjolnlngahaaPart9
namespace Go.Am
open Go.Proofs
set_option maxRecDepth 100000
def sA (cs:List AV) (k:Nat):Int:=A0 cs (k*4)
def sR (cs:List AV) (k:Nat):Int:=A0 cs (k*4+1)
def sN (cs:List AV) (k:Nat):Nat:=B9 cs (k*4+2)
def sZ (cs:List AV) (k:Nat):Int:=A0 cs (k*4+3)
def K1 (cs:List AV) (n:Nat):Bool:=G9 (fun k=>E2 cs (k*4) [.int .i64,.int .i64,.sl,.int .i64]) n
theorem M7 {cs:List AV} {n k:Nat} (h:K1 cs n=true) (hk:k<n):E2 cs (k*4) [.int .i64,.int .i64,.sl,.int .i64]=true:=K7.1 h k hk
theorem Ze {cs:List AV} {n k:Nat} (h:K1 cs n=true) (hk:k<n):isI .i64 cs (k*4)=true∧Gt cs (k*4+2)=true:=by
 have:=M7 h hk
 simp only [E2,Ar,Bool.and_eq_true] at this;exact ⟨this.1,this.2.2.1⟩
def Pq (cs:List AV) (x:Int) (h:Bool) (k:Nat):Bool:=decide (sA cs k≤x)&&decide (IntKind.wrap .i64 (x - sA cs k)≤IntKind.wrap .i64 ((sN cs k:Int) - W9 h))
def Il (cs:List AV) (x:Int) (h:Bool) (k:Nat):Bool:=decide (sA cs k≤x)&&(decide (x≤8192)&&decide (IntKind.wrap .i64 (x+W9 h)≤IntKind.wrap .i64 (sA cs k+(sN cs k:Int))))
def U5 (cs:List AV) (n:Nat) (x:Int) (h:Bool):Nat:=K5 (Pq cs x h) n
def inN (cs:List AV) (n:Nat) (x:Int) (h:Bool):Nat:=K5 (Il cs x h) n
def Pm (cs:List AV) (n:Nat) (x:Int) (h:Bool):Int:=if inN cs n x h<n then (inN cs n x h:Int) else -1
def Br:List AV→Nat:=fun xs=>match xs with
 | [.agg cs,.int _ n,.int _ x,.bool h]=>U5 cs n.toNat x h
 | _=>0
def Lo:List AV→Int:=fun xs=>match xs with
 | [.agg cs,.int _ n,.int _ x,.bool h]=>Pm cs n.toNat x h
 | _=>0
def T6:List AV→Bool:=fun xs=>match xs with
 | [.agg cs,.int _ n]=>K1 cs n.toNat&&Nat.ble n.toNat 1000000
 | _=>false
theorem M6 {cs:List AV} {n:Nat}:T6 [.agg cs,.int .i64 (n:Int)]=true↔K1 cs n=true∧n≤1000000:=by
 simp only [T6,G5,Bool.and_eq_true];exact ⟨fun ⟨h1,h2⟩=>⟨h1,Nat.le_of_ble_eq_true h2⟩,fun ⟨h1,h2⟩=>⟨h1,Nat.ble_eq_true_of_le h2⟩⟩
def dtQ (G:Nat→List AV) (ks n:Nat) (x:Int) (h:Bool):List AV→Bool:=Ky (T6 [.agg (G ks),.int .i64 (n:Int)]) [.slice true (.ro ks) 0 n,.ptr (.rw 0) 0,.nilp,.int .i64 (n:Int),.int .i64 0] [some ⟨1,[.int .i64 x,.bool h]⟩]
def dtO (ks n:Nat) (x:Int) (h:Bool):LOut:=.tst (.cmp .lss (.ofN (.uf 1707 Br [.agg (.ro (.var 2 ks)),.int .i64 (.ofN (.var 3 n)),.int .i64 (.var 6 x),.bool (.var 7 h)])) (.ofN (.var 3 n))) (.one .ret [.undef,.undef,.ptr (.ro (.var 2 ks)) (.mul (.uf 1707 Br [.agg (.ro (.var 2 ks)),.int .i64 (.ofN (.var 3 n)),.int .i64 (.var 6 x),.bool (.var 7 h)]) 4),.undef,.undef] [some ⟨1,.of [.int .i64 (.var 6 x),.bool (.var 7 h)]⟩]) (.one (.exit 0) [.undef,.undef,.nilp,.undef,.undef] [some ⟨1,.of [.int .i64 (.var 6 x),.bool (.var 7 h)]⟩])
theorem t34 (G:Nat→List AV) (ks n:Nat) (x:Int) (h:Bool) (Q:Ex→List AV→Hp→Prop) (R:AV→Hp→Prop):vT G Q R (G6 (Dc Try.prog [] [] [(F9 1706 (dtQ G ks n x h) 0 42 [0,3,4,8,9] (dtO ks n x h))] 1) 300 20 Try.f34 [.slice true (.ro (.var 2 ks)) (.lit 0) (.var 3 n),.agg (.of [.int .i64 (.var 6 x),.bool (.var 7 h)])] [] 0)=(
  (dtQ G ks n x h) [.agg ([.slice true (.ro (ks)) (0) (n),.ptr (.rw 0) (0),.nilp,.int .i64 (((n:Nat):Int)),.int .i64 (0)]:List AV),.agg ([.tup [.int .i64 (1),.agg ([.int .i64 (x),.bool (h)]:List AV)]]:List AV)]=true∧(decide ((((Br [.agg (G (ks)),.int .i64 (((n:Nat):Int)),.int .i64 (x),.bool (h)]:Nat):Int):Int)<((n:Nat):Int))=true→R (.ptr (.ro (ks)) ((Br [.agg (G (ks)),.int .i64 (((n:Nat):Int)),.int .i64 (x),.bool (h)])*4)) [])∧(decide ((((Br [.agg (G (ks)),.int .i64 (((n:Nat):Int)),.int .i64 (x),.bool (h)]:Nat):Int):Int)<((n:Nat):Int))=false→R (.nilp) [])):=by kernel_rfl
def inQ (G:Nat→List AV) (ks n kp m:Nat) (s x:Int) (h:Bool):List AV→Bool:=Ky (T6 [.agg (G ks),.int .i64 (n:Int)]) [.ptr (.rw 0) 0,.ptr (.rw 1) 0,.int .i64 0,.int .i64 0] [some ⟨1,[.int .i64 s,.slice true (.ro ks) 0 n,.slice true (.ro kp) 0 m]⟩,some ⟨1,[.int .i64 x,.bool h]⟩]
def inO (ks n kp m:Nat) (s x:Int) (h:Bool):LOut:=.tst (.cmp .eql (.uf 1709 Lo [.agg (.ro (.var 2 ks)),.int .i64 (.ofN (.var 3 n)),.int .i64 (.var 6 x),.bool (.var 7 h)]) (.lit (-1))) (.one (.exit 0) [.undef,.undef,.undef,.undef] [some ⟨1,.of [.int .i64 (.var 1 s),.slice true (.ro (.var 2 ks)) (.lit 0) (.var 3 n),.slice true (.ro (.var 4 kp)) (.lit 0) (.var 5 m)]⟩,some ⟨1,.of [.int .i64 (.var 6 x),.bool (.var 7 h)]⟩]) (.one .ret [.undef,.undef,.int .i64 (.uf 1709 Lo [.agg (.ro (.var 2 ks)),.int .i64 (.ofN (.var 3 n)),.int .i64 (.var 6 x),.bool (.var 7 h)]),.undef] [some ⟨1,.of [.int .i64 (.var 1 s),.slice true (.ro (.var 2 ks)) (.lit 0) (.var 3 n),.slice true (.ro (.var 4 kp)) (.lit 0) (.var 5 m)]⟩,some ⟨1,.of [.int .i64 (.var 6 x),.bool (.var 7 h)]⟩])
theorem t37 (G:Nat→List AV) (ks n kp m:Nat) (s x:Int) (h:Bool) (Q:Ex→List AV→Hp→Prop) (R:AV→Hp→Prop):vT G Q R (G6 (Dc Try.prog [] [] [(F9 1708 (inQ G ks n kp m s x h) 0 44 [2,3,4,5] (inO ks n kp m s x h))] 2) 300 20 Try.f37 [.agg (.of [.int .i64 (.var 1 s),.slice true (.ro (.var 2 ks)) (.lit 0) (.var 3 n),.slice true (.ro (.var 4 kp)) (.lit 0) (.var 5 m)]),.agg (.of [.int .i64 (.var 6 x),.bool (.var 7 h)])] [] 0)=(
  (inQ G ks n kp m s x h) [.agg ([.ptr (.rw 0) (0),.ptr (.rw 1) (0),.int .i64 (0),.int .i64 (0)]:List AV),.agg ([.tup [.int .i64 (1),.agg ([.int .i64 (s),.slice true (.ro (ks)) (0) (n),.slice true (.ro (kp)) (0) (m)]:List AV)],.tup [.int .i64 (1),.agg ([.int .i64 (x),.bool (h)]:List AV)]]:List AV)]=true∧(((Lo [.agg (G (ks)),.int .i64 (((n:Nat):Int)),.int .i64 (x),.bool (h)]:Int)==(-1))=true→R (.int .i64 ((-1))) [])∧(((Lo [.agg (G (ks)),.int .i64 (((n:Nat):Int)),.int .i64 (x),.bool (h)]:Int)==(-1))=false→R (.int .i64 (Lo [.agg (G (ks)),.int .i64 (((n:Nat):Int)),.int .i64 (x),.bool (h)])) [])):=by kernel_rfl
theorem Pv {p:Nat→Bool} {n i:Nat} (h1:i≤K5 p n) (h2:i<n):p i=decide (i=K5 p n):=by
 obtain ⟨g1,g2,g3⟩:=L1 (p:=p) (k:=n);by_cases e:i=K5 p n
 ·rw [decide_eq_true e,e];exact g2 (by omega)
 ·rw [decide_eq_false e];exact g3 i (by omega)
theorem Fd {cs:List AV} {n:Nat} {x:Int} {h:Bool}:Br [.agg cs,.int .i64 (n:Int),.int .i64 x,.bool h]=U5 cs n x h:=by simp only [Br,G5]
theorem Ln {cs:List AV} {n:Nat} {x:Int} {h:Bool}:Lo [.agg cs,.int .i64 (n:Int),.int .i64 x,.bool h]=Pm cs n x h:=by simp only [Lo,G5]
theorem dtL_ok (G:Nat→List AV) (B:Nat) (ks n:Nat) (x:Int) (h:Bool):H5 (⟨Try.prog,G,B⟩:A2) 1 (A5 Try.f34 0) (F9 1706 (dtQ G ks n x h) 0 42 [0,3,4,8,9] (dtO ks n x h)):=by
 refine Bj rfl fun hc=>?_;obtain ⟨hk,hn⟩:=M6.1 hc;have hle:U5 (G ks) n x h≤n:=L1.1;refine Bl (U5 (G ks) n x h) (fun i=>[.slice true (.ro ks) 0 n,.ptr (.rw 0) 0,.nilp,.int .i64 (n:Int),.int .i64 (i:Int)]) (fun _=>[some ⟨1,[.int .i64 x,.bool h]⟩]) fun i hi=>?_
 refine D4 (C:=(⟨Try.prog,G,B⟩:A2)) (by rw [show loopsOf (A5 Try.f34 0)=[] by kernel_rfl];exact D3 (inl:=[]) (ls:=[]) (M:=1) (O1 G B) (by kernel_rfl) (Ga G B) .nil) (fuel:=300) (n0:=20) (m:=1) (c:=A5 Try.f34 0) (vs:=[.slice true (.ro (.var 2 ks)) (.lit 0) (.var 3 n),.ptr (.rw 0) (.lit 0),.nilp,.int .i64 (.ofN (.var 3 n)),.int .i64 (.ofN (.var 8 i))]) (H:=[some ⟨1,.of [.int .i64 (.var 6 x),.bool (.var 7 h)]⟩]) (by simp) ?_;rw [dt_b];have fb:J5 1 [some ⟨1,[.int .i64 x,.bool h]⟩]=true:=by simp [J5,A4,A8]
 have key:i<n→Pq (G ks) x h i=decide (i=U5 (G ks) n x h):=fun h2=>Pv hi h2;simp only [Pq,sA,sN] at key
 have nx:Pq (G ks) x h i=false→i<n→i<U5 (G ks) n x h:=fun h1 h2=>by
  have:=Pv hi h2
  rw [h1] at this
  have:=of_decide_eq_false this.symm
  unfold U5 at *;omega
 refine ⟨fun h1=>?_,fun h1=>?_⟩
 ·have h1':=of_decide_eq_true h1;have hin:i<n:=by omega
  obtain ⟨t1,t2⟩:=Ze hk hin;rw [C4 (n:=(i:Int)+1) (by omega)];refine ⟨decide_eq_true (by omega),h1,t1,fun h2=>⟨t1,t2,fun h3=>?_,fun h3=>?_⟩,fun h2=>?_⟩
  ·have e:i=U5 (G ks) n x h:=of_decide_eq_true (by rw [←key hin,Bool.and_eq_true];exact ⟨h2,h3⟩);refine .inl ⟨?_,rfl,.inr ?_⟩
   ·show decide (((Br [.agg (G ks),.int .i64 (n:Int),.int .i64 x,.bool h]:Nat):Int)<(n:Int))=true;rw [Fd,←e];exact h1
   ·refine C2.same (H:=[some ⟨1,[.int .i64 x,.bool h]⟩]) (by simp) fb ?_;show fv 1 [.undef,.undef,.ptr (.ro ks) (Br [.agg (G ks),.int .i64 (n:Int),.int .i64 x,.bool h]*4),.undef,.undef] _;rw [Fd,←e];simp [fv,A8]
  ·exact ⟨nx (by unfold Pq sA sN;rw [Bool.and_eq_false_iff];exact .inr h3) hin,.inr (C2.same (H:=[some ⟨1,[.int .i64 x,.bool h]⟩]) (by simp) fb (by simp [fv,A8,A4]))⟩
  ·exact ⟨nx (by unfold Pq sA sN;rw [Bool.and_eq_false_iff];exact .inl h2) hin,.inr (C2.same (H:=[some ⟨1,[.int .i64 x,.bool h]⟩]) (by simp) fb (by simp [fv,A8,A4]))⟩
 ·have h1':=of_decide_eq_false h1;refine .inr ⟨?_,rfl,.inl ⟨by simp [vVs,vV,wk],rfl⟩⟩;show decide (((Br [.agg (G ks),.int .i64 (n:Int),.int .i64 x,.bool h]:Nat):Int)<(n:Int))=false;rw [Fd];exact decide_eq_false (by omega)
theorem ACalls.drop0 {C:A2} {f:FuncId} {args:List AV} {v0:AV} (h:ACalls C f args [] fun v _=>v=v0) (hb:A8 0 v0=true) (hu:v0≠.undef):ACalls C f args [] fun v H=>v=v0∧H=[]:=by
 refine h.view fun v H' hj=>⟨v0,[],⟨rfl,rfl⟩,?_⟩;subst hj;exact C2.same (H:=[]) (G:=H') (by simp) rfl (by simp [fv,hb])
theorem yT (G:Nat→List AV) (B:Nat) (ks n:Nat) (x:Int) (h:Bool) (hk:T6 [.agg (G ks),.int .i64 (n:Int)]=true):ACalls (⟨Try.prog,G,B⟩:A2) 34 [.slice true (.ro ks) 0 n,.agg [.int .i64 x,.bool h]] [] fun v H=>v=(if U5 (G ks) n x h<n then .ptr (.ro ks) (U5 (G ks) n x h*4) else .nilp)∧H=[]:=by
 have:=C7 (C:=(⟨Try.prog,G,B⟩:A2)) (fuel:=300) (n0:=20) (f:=34) (fn:=Try.f34) (args:=[.slice true (.ro (.var 2 ks)) (.lit 0) (.var 3 n),.agg (.of [.int .i64 (.var 6 x),.bool (.var 7 h)])]) (H:=[]) (keep:=0)
  (R:=fun v _=>v=(if U5 (G ks) n x h<n then .ptr (.ro ks) (U5 (G ks) n x h*4) else .nilp)) (D3 (inl:=[]) (ls:=[(F9 1706 (dtQ G ks n x h) 0 42 [0,3,4,8,9] (dtO ks n x h))]) (M:=1) (O1 G B) (by kernel_rfl) .nil (.cast (.cons (i:=0) (by kernel_rfl) rfl (dtL_ok G B ks n x h) .nil) (by kernel_rfl))) (by kernel_rfl) (by kernel_rfl) (by kernel_rfl) (by
  rw [t34];refine ⟨X2 hk rfl rfl,fun e=>?_,fun e=>?_⟩
  ·rw [Fd] at *;have:((U5 (G ks) n x h:Nat):Int)<(n:Int):=of_decide_eq_true e;exact (if_pos (by omega)).symm
  ·rw [Fd] at *;have:¬((U5 (G ks) n x h:Nat):Int)<(n:Int):=of_decide_eq_false e;exact (if_neg (by omega)).symm)
 refine ACalls.drop0 this ?_ ?_<;>split<;>simp [A8]
theorem inL_ok (G:Nat→List AV) (B:Nat) (ks n kp m:Nat) (s x:Int) (h:Bool):H5 (⟨Try.prog,G,B⟩:A2) 2 (A5 Try.f37 0) (F9 1708 (inQ G ks n kp m s x h) 0 44 [2,3,4,5] (inO ks n kp m s x h)):=by
 refine Bj rfl fun hc=>?_;obtain ⟨hk,hn⟩:=M6.1 hc;have hle:inN (G ks) n x h≤n:=L1.1;refine Bl (inN (G ks) n x h) (fun i=>[.ptr (.rw 0) 0,.ptr (.rw 1) 0,.int .i64 0,.int .i64 (i:Int)]) (fun _=>[some ⟨1,[.int .i64 s,.slice true (.ro ks) 0 n,.slice true (.ro kp) 0 m]⟩,some ⟨1,[.int .i64 x,.bool h]⟩]) fun i hi=>?_
 refine D4 (C:=(⟨Try.prog,G,B⟩:A2)) (by rw [show loopsOf (A5 Try.f37 0)=[] by kernel_rfl];exact D3 (inl:=[]) (ls:=[]) (M:=2) (O1 G B) (by kernel_rfl) (Ga G B) .nil) (fuel:=300) (n0:=20) (m:=2) (c:=A5 Try.f37 0) (vs:=[.ptr (.rw 0) (.lit 0),.ptr (.rw 1) (.lit 0),.int .i64 (.lit 0),.int .i64 (.ofN (.var 8 i))]) (H:=[some ⟨1,.of [.int .i64 (.var 1 s),.slice true (.ro (.var 2 ks)) (.lit 0) (.var 3 n),.slice true (.ro (.var 4 kp)) (.lit 0) (.var 5 m)]⟩,some ⟨1,.of [.int .i64 (.var 6 x),.bool (.var 7 h)]⟩]) (by simp) ?_;rw [in_b]
 have fb:J5 2 [some ⟨1,[.int .i64 s,.slice true (.ro ks) 0 n,.slice true (.ro kp) 0 m]⟩,some ⟨1,[.int .i64 x,.bool h]⟩]=true:=by simp [J5,A4,A8]
 have key:i<n→Il (G ks) x h i=decide (i=inN (G ks) n x h):=fun h2=>Pv hi h2;simp only [Il,sA,sN] at key
 have nx:Il (G ks) x h i=false→i<n→i<inN (G ks) n x h:=fun h1 h2=>by
  have:=Pv hi h2
  rw [h1] at this
  have:=of_decide_eq_false this.symm
  unfold inN at *;omega
 refine ⟨fun h1=>?_,fun h1=>?_⟩
 ·have h1':=of_decide_eq_true h1;have hin:i<n:=by omega
  rw [C4 (n:=(i:Int)+1) (by omega)];refine ⟨decide_eq_true (by omega),h1,M7 hk hin,fun h2=>⟨fun h3=>⟨fun h4=>?_,fun h4=>?_⟩,fun h3=>?_⟩,fun h2=>?_⟩
  ·have e:i=inN (G ks) n x h:=of_decide_eq_true (by rw [←key hin,Bool.and_eq_true,Bool.and_eq_true];exact ⟨h2,h3,h4⟩);have e2:Pm (G ks) n x h=(i:Int):=by unfold Pm;rw [←e,if_pos hin]
   refine .inr ⟨?_,rfl,.inr ?_⟩
   ·show (Lo [.agg (G ks),.int .i64 (n:Int),.int .i64 x,.bool h]==(-1:Int))=false;rw [Ln,e2];exact beq_eq_false_iff_ne.2 (by omega)
   ·refine C2.same (H:=[some ⟨1,[.int .i64 s,.slice true (.ro ks) 0 n,.slice true (.ro kp) 0 m]⟩,some ⟨1,[.int .i64 x,.bool h]⟩]) (by simp) fb ?_;show fv 2 [.undef,.undef,.int .i64 (Lo [.agg (G ks),.int .i64 (n:Int),.int .i64 x,.bool h]),.undef] _;rw [Ln,e2];simp [fv,A8]
  ·exact ⟨nx (by unfold Il sA sN;rw [Bool.and_eq_false_iff,Bool.and_eq_false_iff];exact .inr (.inr h4)) hin,.inr (C2.same (H:=[some ⟨1,[.int .i64 s,.slice true (.ro ks) 0 n,.slice true (.ro kp) 0 m]⟩,some ⟨1,[.int .i64 x,.bool h]⟩]) (by simp) fb (by simp [fv,A8,A4]))⟩
  ·exact ⟨nx (by unfold Il sA sN;rw [Bool.and_eq_false_iff,Bool.and_eq_false_iff];exact .inr (.inl h3)) hin,.inr (C2.same (H:=[some ⟨1,[.int .i64 s,.slice true (.ro ks) 0 n,.slice true (.ro kp) 0 m]⟩,some ⟨1,[.int .i64 x,.bool h]⟩]) (by simp) fb (by simp [fv,A8,A4]))⟩
  ·exact ⟨nx (by unfold Il sA sN;rw [Bool.and_eq_false_iff];exact .inl h2) hin,.inr (C2.same (H:=[some ⟨1,[.int .i64 s,.slice true (.ro ks) 0 n,.slice true (.ro kp) 0 m]⟩,some ⟨1,[.int .i64 x,.bool h]⟩]) (by simp) fb (by simp [fv,A8,A4]))⟩
 ·have h1':=of_decide_eq_false h1;refine .inl ⟨?_,rfl,.inl ⟨by simp [vVs,vV,wk],rfl⟩⟩;show (Lo [.agg (G ks),.int .i64 (n:Int),.int .i64 x,.bool h]==(-1:Int))=true;rw [Ln];unfold Pm;rw [if_neg (by omega)];rfl
theorem yL (G:Nat→List AV) (B:Nat) (ks n kp m:Nat) (s x:Int) (h:Bool) (hk:T6 [.agg (G ks),.int .i64 (n:Int)]=true):ACalls (⟨Try.prog,G,B⟩:A2) 37 [.agg [.int .i64 s,.slice true (.ro ks) 0 n,.slice true (.ro kp) 0 m],.agg [.int .i64 x,.bool h]] [] fun v H=>v=.int .i64 (Pm (G ks) n x h)∧H=[]:=by
 have:=C7 (C:=(⟨Try.prog,G,B⟩:A2)) (fuel:=300) (n0:=20) (f:=37) (fn:=Try.f37) (args:=[.agg (.of [.int .i64 (.var 1 s),.slice true (.ro (.var 2 ks)) (.lit 0) (.var 3 n),.slice true (.ro (.var 4 kp)) (.lit 0) (.var 5 m)]),.agg (.of [.int .i64 (.var 6 x),.bool (.var 7 h)])]) (H:=[]) (keep:=0)
  (R:=fun v _=>v=.int .i64 (Pm (G ks) n x h)) (D3 (inl:=[]) (ls:=[(F9 1708 (inQ G ks n kp m s x h) 0 44 [2,3,4,5] (inO ks n kp m s x h))]) (M:=2) (O1 G B) (by kernel_rfl) .nil (.cast (.cons (i:=0) (by kernel_rfl) rfl (inL_ok G B ks n kp m s x h) .nil) (by kernel_rfl))) (by kernel_rfl) (by kernel_rfl) (by kernel_rfl) (by
  rw [t37,Ln];refine ⟨X2 hk rfl rfl,fun e=>?_,fun e=>rfl⟩
  rw [eq_of_beq e])
 exact ACalls.drop0 this rfl (by simp)
end Go.Am
namespace Go.Am
open Go.Proofs
set_option maxRecDepth 100000
theorem E0.ro0 {C:A2} {f:FuncId} {args:List EV} {H:DHp} {v:EV} (h:ACalls C f (vVs C.G args) [] fun v' H'=>v'=vV C.G v∧H'=[]) (ha:A4 0 (vVs C.G args)=true) (hv:A8 0 (vV C.G v)=true):E0 C f args H v []:=by
 refine E0.fr (C:=C) (θ:=[]) (H0:=[]) (H1:=[]) (v0:=vV C.G v) (by simp) rfl (fun i b hi=>by simp at hi) ha (by rw [B5 _ _ ha]) h (Nat.le_refl _) hv rfl (by rw [Es _ _ hv]) ?_;simp [acts,T8,lay]
def dtS:DSum:=fun args _=>match args with
 | [.slice _ (.ro k) (.lit 0) n,.agg (.of [.int .i64 x,.bool b])]=>some (.chk (.uf 1710 T6 [.agg (.ro k),.int .i64 (.ofN n)]) (.tst (.cmp .lss (.ofN (.uf 1707 Br [.agg (.ro k),.int .i64 (.ofN n),.int .i64 x,.bool b])) (.ofN n)) (.one (.ptr (.ro k) (.mul (.uf 1707 Br [.agg (.ro k),.int .i64 (.ofN n),.int .i64 x,.bool b]) 4)) []) (.one .nilp [])))
 | _=>none
def inS:DSum:=fun args _=>match args with
 | [.agg (.of [.int .i64 _,.slice _ (.ro k) (.lit 0) n,.slice _ (.ro _) (.lit 0) _]),.agg (.of [.int .i64 x,.bool b])]=>some (.chk (.uf 1710 T6 [.agg (.ro k),.int .i64 (.ofN n)]) (.one (.int .i64 (.uf 1709 Lo [.agg (.ro k),.int .i64 (.ofN n),.int .i64 x,.bool b])) []))
 | _=>none
theorem dtS_ok (G:Nat→List AV) (B:Nat):C5 (⟨Try.prog,G,B⟩:A2) 34 dtS:=by
 intro args H o ho;unfold dtS at ho;split at ho
 ·rename_i mb k n x b;simp only [Option.some.injEq] at ho;subst ho;intro hk;have key:=yT G B (vN G k) (vN G n) (vI G x) (vB G b) hk;rw [←Fd] at key
  have wk:∀ {K},ACalls (⟨Try.prog,G,B⟩:A2) 34 [.slice true (.ro (vN G k)) 0 (vN G n),.agg [.int .i64 (vI G x),.bool (vB G b)]] [] K→ACalls (⟨Try.prog,G,B⟩:A2) 34 (vVs G [.slice mb (.ro k) (.lit 0) n,.agg (.of [.int .i64 x,.bool b])]) [] K:=fun h=>h.weaken fun ρ vs hv=>by
   simp only [vVs,vV,vL,vR,vN,VRs] at hv ⊢;obtain ⟨v,vs',e,q1,q2⟩:=hv;exact ⟨v,vs',e,N3 q1,q2⟩
  refine ⟨fun hl=>?_,fun hl=>?_⟩
  ·have hl':((Br [.agg (G (vN G k)),.int .i64 (vN G n:Int),.int .i64 (vI G x),.bool (vB G b)]:Nat):Int)<(vN G n:Int):=of_decide_eq_true hl;rw [if_pos (by omega)] at key;exact E0.ro0 (C:=(⟨Try.prog,G,B⟩:A2)) (wk key) (by simp [vVs,vV,vL,vR,A4,A8]) (by simp [vV,vR,A8])
  ·have hl':¬((Br [.agg (G (vN G k)),.int .i64 (vN G n:Int),.int .i64 (vI G x),.bool (vB G b)]:Nat):Int)<(vN G n:Int):=of_decide_eq_false hl;rw [if_neg (by omega)] at key;exact E0.ro0 (C:=(⟨Try.prog,G,B⟩:A2)) (wk key) (by simp [vVs,vV,vL,vR,A4,A8]) (by simp [vV,A8])
 ·simp at ho
theorem inS_ok (G:Nat→List AV) (B:Nat):C5 (⟨Try.prog,G,B⟩:A2) 37 inS:=by
 intro args H o ho;unfold inS at ho;split at ho
 ·rename_i s mb k n mb' k' n' x b;simp only [Option.some.injEq] at ho;subst ho;intro hk;have key:=yL G B (vN G k) (vN G n) (vN G k') (vN G n') (vI G s) (vI G x) (vB G b) hk;rw [←Ln] at key;refine E0.ro0 (C:=(⟨Try.prog,G,B⟩:A2)) (key.weaken fun ρ vs hv=>?_) (by simp [vVs,vV,vL,vR,A4,A8]) (by simp [vV,A8]);simp only [vVs,vV,vL,vR,vN,VRs,VR] at hv ⊢;obtain ⟨v,vs',e,⟨ws,e2,w1,t1,e3,q1,w2,t2,e4,q2,w3,t3,e5,q3,q4⟩,q6⟩:=hv
  exact ⟨v,vs',e,⟨ws,e2,w1,t1,e3,q1,w2,t2,e4,(by have:=N3 (show VR ρ (.slice mb (.ro (vN G k)) 0 (vN G n)) w2 by simpa only [VR] using q2);simpa only [VR] using this),w3,t3,e5,(by have:=N3 (show VR ρ (.slice mb' (.ro (vN G k')) 0 (vN G n')) w3 by simpa only [VR] using q3);simpa only [VR] using this),q4⟩,q6⟩
 ·simp at ho
def progIc:List (Nat×DSum):=(34,dtS)::(37,inS)::progIb
theorem Jj (G:Nat→List AV) (B:Nat):P6 (⟨Try.prog,G,B⟩:A2) progIc:=.cons (dtS_ok G B) (.cons (inS_ok G B) (Ga G B))
theorem ck_d (G:Nat→List AV) (ks n kp m:Nat) (s y:Int) (w:Bool) (i:Nat) (Q:Ex→List AV→Hp→Prop) (R:AV→Hp→Prop):vT G Q R (E8 (Dc Try.prog [] progIc [] 1) 300 20 1 (A5 Try.f20 1) 98 [1,2,3,4,73,74,75] [.ptr (.rw 0) (.lit 0),.int .i64 (.lit 0),.bool (.var 9 w),.int .i64 (.var 10 y),.slice true (.ro (.var 4 kp)) (.lit 0) (.var 5 m),.int .i64 (.ofN (.var 5 m)),.int .i64 (.ofN (.var 8 i))] [some ⟨1,.of [.int .i64 (.var 1 s),.slice true (.ro (.var 2 ks)) (.lit 0) (.var 3 n),.slice true (.ro (.var 4 kp)) (.lit 0) (.var 5 m)]⟩])=(
  (decide ((((i:Nat):Int):Int)<((m:Nat):Int))=true→decide ((0:Int)≤((i:Nat):Int))=true∧decide ((((i:Nat):Int):Int)<((m:Nat):Int))=true∧E2 (G (kp)) ((i)*2) [.int .i64,.bool]=true∧(decide ((A0 (G (kp)) ((i)*2):Int)<y)=true→Q .ret [.ptr (.rw 0) (0),.int .i64 (2),.bool (w),.int .i64 (y),.slice true (.ro (kp)) (0) (m),.int .i64 (((m:Nat):Int)),.int .i64 (((i:Nat):Int))] [some ⟨1,([.int .i64 (s),.slice true (.ro (ks)) (0) (n),.slice true (.ro (kp)) (0) (m)]:List AV)⟩,some ⟨1,([.int .i64 (A0 (G (kp)) ((i)*2)),.bool (E7 (G (kp)) ((i)*2+1))]:List AV)⟩])∧(decide ((A0 (G (kp)) ((i)*2):Int)<y)=false→T6 [.agg (G (ks)),.int .i64 (((n:Nat):Int))]=true∧(decide ((((Br [.agg (G (ks)),.int .i64 (((n:Nat):Int)),.int .i64 (A0 (G (kp)) ((i)*2)),.bool (E7 (G (kp)) ((i)*2+1))]:Nat):Int):Int)<((n:Nat):Int))=true→Q .normal [.ptr (.rw 0) (0),.int .i64 (0),.bool (w),.int .i64 (IntKind.wrap .i64 (A0 (G (kp)) ((i)*2)+Od [.bool (E7 (G (kp)) ((i)*2+1))])),.slice true (.ro (kp)) (0) (m),.int .i64 (((m:Nat):Int)),.int .i64 (IntKind.wrap .i64 (((i:Nat):Int)+1))] [some ⟨1,([.int .i64 (s),.slice true (.ro (ks)) (0) (n),.slice true (.ro (kp)) (0) (m)]:List AV)⟩,some ⟨1,([.int .i64 (A0 (G (kp)) ((i)*2)),.bool (E7 (G (kp)) ((i)*2+1))]:List AV)⟩])∧(decide ((((Br [.agg (G (ks)),.int .i64 (((n:Nat):Int)),.int .i64 (A0 (G (kp)) ((i)*2)),.bool (E7 (G (kp)) ((i)*2+1))]:Nat):Int):Int)<((n:Nat):Int))=false→Q .ret [.ptr (.rw 0) (0),.int .i64 (2),.bool (w),.int .i64 (y),.slice true (.ro (kp)) (0) (m),.int .i64 (((m:Nat):Int)),.int .i64 (((i:Nat):Int))] [some ⟨1,([.int .i64 (s),.slice true (.ro (ks)) (0) (n),.slice true (.ro (kp)) (0) (m)]:List AV)⟩,some ⟨1,([.int .i64 (A0 (G (kp)) ((i)*2)),.bool (E7 (G (kp)) ((i)*2+1))]:List AV)⟩])))∧
 (decide ((((i:Nat):Int):Int)<((m:Nat):Int))=false→Q (.exit 2) [.ptr (.rw 0) (0),.int .i64 (0),.bool (w),.int .i64 (y),.slice true (.ro (kp)) (0) (m),.int .i64 (((m:Nat):Int)),.int .i64 (((i:Nat):Int))] [some ⟨1,([.int .i64 (s),.slice true (.ro (ks)) (0) (n),.slice true (.ro (kp)) (0) (m)]:List AV)⟩])):=by kernel_rfl
theorem ma_d (G:Nat→List AV) (ks n kp m:Nat) (s:Int) (w:Bool) (i:Nat) (Q:Ex→List AV→Hp→Prop) (R:AV→Hp→Prop):vT G Q R (E8 (Dc Try.prog [] progIc [] 1) 300 20 1 (A5 Try.f21 1) 130 [1,2,3,6] [.ptr (.rw 0) (.lit 0),.bool (.lit false),.bool (.var 9 w),.int .i64 (.ofN (.var 8 i))] [some ⟨1,.of [.int .i64 (.var 1 s),.slice true (.ro (.var 2 ks)) (.lit 0) (.var 3 n),.slice true (.ro (.var 4 kp)) (.lit 0) (.var 5 m)]⟩])=(
  (decide ((((i:Nat):Int):Int)<((m:Nat):Int))=true→decide ((0:Int)≤((i:Nat):Int))=true∧decide ((((i:Nat):Int):Int)<((m:Nat):Int))=true∧E2 (G (kp)) ((i)*2) [.int .i64,.bool]=true∧(decide ((A0 (G (kp)) ((i)*2):Int)<0)=true→Q .ret [.ptr (.rw 0) (0),.bool (false),.bool (w),.int .i64 (((i:Nat):Int))] [some ⟨1,([.int .i64 (s),.slice true (.ro (ks)) (0) (n),.slice true (.ro (kp)) (0) (m)]:List AV)⟩,some ⟨1,([.int .i64 (A0 (G (kp)) ((i)*2)),.bool (E7 (G (kp)) ((i)*2+1))]:List AV)⟩])∧(decide ((A0 (G (kp)) ((i)*2):Int)<0)=false→T6 [.agg (G (ks)),.int .i64 (((n:Nat):Int))]=true∧(decide ((Lo [.agg (G (ks)),.int .i64 (((n:Nat):Int)),.int .i64 (A0 (G (kp)) ((i)*2)),.bool (E7 (G (kp)) ((i)*2+1))]:Int)<0)=true→Q .ret [.ptr (.rw 0) (0),.bool (false),.bool (w),.int .i64 (((i:Nat):Int))] [some ⟨1,([.int .i64 (s),.slice true (.ro (ks)) (0) (n),.slice true (.ro (kp)) (0) (m)]:List AV)⟩,some ⟨1,([.int .i64 (A0 (G (kp)) ((i)*2)),.bool (E7 (G (kp)) ((i)*2+1))]:List AV)⟩])∧(decide ((Lo [.agg (G (ks)),.int .i64 (((n:Nat):Int)),.int .i64 (A0 (G (kp)) ((i)*2)),.bool (E7 (G (kp)) ((i)*2+1))]:Int)<0)=false→(decide ((((i:Nat):Int):Int)>0)=true→decide ((0:Int)≤IntKind.wrap .i64 (((i:Nat):Int) - 1))=true∧decide ((IntKind.wrap .i64 (((i:Nat):Int) - 1):Int)<((m:Nat):Int))=true∧isI .i64 (G (kp)) ((Int.toNat (IntKind.wrap .i64 (((i:Nat):Int) - 1)))*2)=true∧decide ((0:Int)≤IntKind.wrap .i64 (((i:Nat):Int) - 1))=true∧decide ((IntKind.wrap .i64 (((i:Nat):Int) - 1):Int)<((m:Nat):Int))=true∧E2 (G (kp)) ((Int.toNat (IntKind.wrap .i64 (((i:Nat):Int) - 1)))*2) [.int .i64,.bool]=true∧
 (decide ((IntKind.wrap .i64 (A0 (G (kp)) ((Int.toNat (IntKind.wrap .i64 (((i:Nat):Int) - 1)))*2)+Od [.bool (E7 (G (kp)) ((Int.toNat (IntKind.wrap .i64 (((i:Nat):Int) - 1)))*2+1))]):Int)>A0 (G (kp)) ((i)*2))=true→Q .ret [.ptr (.rw 0) (0),.bool (false),.bool (w),.int .i64 (((i:Nat):Int))] [some ⟨1,([.int .i64 (s),.slice true (.ro (ks)) (0) (n),.slice true (.ro (kp)) (0) (m)]:List AV)⟩,some ⟨1,([.int .i64 (A0 (G (kp)) ((i)*2)),.bool (E7 (G (kp)) ((i)*2+1))]:List AV)⟩])∧(decide ((IntKind.wrap .i64 (A0 (G (kp)) ((Int.toNat (IntKind.wrap .i64 (((i:Nat):Int) - 1)))*2)+Od [.bool (E7 (G (kp)) ((Int.toNat (IntKind.wrap .i64 (((i:Nat):Int) - 1)))*2+1))]):Int)>A0 (G (kp)) ((i)*2))=false→Q .normal [.ptr (.rw 0) (0),.bool (false),.bool (w),.int .i64 (IntKind.wrap .i64 (((i:Nat):Int)+1))] [some ⟨1,([.int .i64 (s),.slice true (.ro (ks)) (0) (n),.slice true (.ro (kp)) (0) (m)]:List AV)⟩,some ⟨1,([.int .i64 (A0 (G (kp)) ((i)*2)),.bool (E7 (G (kp)) ((i)*2+1))]:List AV)⟩]))∧(decide ((((i:Nat):Int):Int)>0)=false→Q .normal [.ptr (.rw 0) (0),.bool (false),.bool (w),.int .i64 (IntKind.wrap .i64 (((i:Nat):Int)+1))] [some ⟨1,([.int .i64 (s),.slice true (.ro (ks)) (0) (n),.slice true (.ro (kp)) (0) (m)]:List AV)⟩,some ⟨1,([.int .i64 (A0 (G (kp)) ((i)*2)),.bool (E7 (G (kp)) ((i)*2+1))]:List AV)⟩]))))∧(decide ((((i:Nat):Int):Int)<((m:Nat):Int))=false→Q (.exit 2) [.ptr (.rw 0) (0),.bool (false),.bool (w),.int .i64 (((i:Nat):Int))] [some ⟨1,([.int .i64 (s),.slice true (.ro (ks)) (0) (n),.slice true (.ro (kp)) (0) (m)]:List AV)⟩])):=by kernel_rfl
end Go.Am
namespace Go.Am
open Go.Proofs
set_option maxRecDepth 100000
def xP (ps:List AV) (j:Nat):Int:=A0 ps (j*2)
def hP (ps:List AV) (j:Nat):Bool:=E7 ps (j*2+1)
def sD (ps:List AV) (j:Nat):Bool:=E2 ps (j*2) [.int .i64,.bool]&&(decide (-9223372036854775808≤xP ps j)&&decide (xP ps j≤9223372036854775807))
def V6 (ps:List AV) (m:Nat):Bool:=G9 (sD ps) m
def Ov:List AV→Bool:=fun xs=>match xs with
 | [.agg ps,.int _ m]=>V6 ps m.toNat&&Nat.ble m.toNat 1000000
 | _=>false
theorem Et {ps:List AV} {m:Nat}:Ov [.agg ps,.int .i64 (m:Int)]=true↔V6 ps m=true∧m≤1000000:=by
 simp only [Ov,G5,Bool.and_eq_true];exact ⟨fun ⟨h1,h2⟩=>⟨h1,Nat.le_of_ble_eq_true h2⟩,fun ⟨h1,h2⟩=>⟨h1,Nat.ble_eq_true_of_le h2⟩⟩
theorem N9 {ps:List AV} {m j:Nat} (h:V6 ps m=true) (hj:j<m):E2 ps (j*2) [.int .i64,.bool]=true∧isI .i64 ps (j*2)=true∧-9223372036854775808≤xP ps j∧xP ps j≤9223372036854775807:=by
 have:=K7.1 h j hj
 simp only [sD,Bool.and_eq_true,decide_eq_true_eq] at this;refine ⟨this.1,?_,this.2⟩
 have:=this.1
 simp only [E2,Ar,Bool.and_eq_true] at this;exact this.1
def sE (cs:List AV) (k:Nat):Int:=sA cs k+(sN cs k:Int)+sZ cs k
def Uy (cs:List AV):Nat→Int
 | 0=>0
 | i+1=>sE cs i
def Mk (cs:List AV) (k:Nat):Bool:=Ep (sA cs k) (sR cs k) (sN cs k) (sZ cs k)
def V4 (cs:List AV) (k:Nat):Bool:=Mk cs k&&decide (Uy cs k≤sA cs k)
def eS (cs:List AV) (s:Int) (k:Nat):Bool:=!((L7 .i64 (sR cs k) 4:Int)==0)&&(decide (s≥sA cs k)&&decide (s<sE cs k))
def Y6 (cs:List AV) (s:Int):Nat→Bool
 | 0=>false
 | i+1=>Y6 cs s i||eS cs s i
def Nx (ps:List AV):Nat→Int
 | 0=>0
 | j+1=>xP ps j+W9 (hP ps j)
def Aq (cs:List AV) (n:Nat) (ps:List AV) (j:Nat):Bool:=decide (Nx ps j≤xP ps j)&&decide (U5 cs n (xP ps j) (hP ps j)<n)
theorem lR {cs:List AV} {s:Int} {i:Nat} (h:Y6 cs s i=true):Y6 cs s (i+1)=true:=by simp [Y6,h]
theorem lQ {cs:List AV} {s:Int} {i:Nat} (h:Y6 cs s i=false) (h1:((L7 .i64 (sR cs i) 4:Int)==0)=true):Y6 cs s (i+1)=false:=by simp only [Y6,eS,h,h1];rfl
theorem lP {cs:List AV} {s:Int} {i:Nat} (h:Y6 cs s i=false) (h1:((L7 .i64 (sR cs i) 4:Int)==0)=false) (h2:decide (s≥sA cs i)=true):Y6 cs s (i+1)=decide (s<sE cs i):=by simp only [Y6,eS,h,h1,h2];simp
theorem lO {cs:List AV} {s:Int} {i:Nat} (h:Y6 cs s i=false) (h1:((L7 .i64 (sR cs i) 4:Int)==0)=false) (h2:decide (s≥sA cs i)=false):Y6 cs s (i+1)=false:=by simp only [Y6,eS,h,h1,h2];rfl
def Az:List AV→Bool:=fun xs=>match xs with
 | [.agg cs,.int _ n]=>G9 (V4 cs) n.toNat
 | _=>false
def By:List AV→Bool:=fun xs=>match xs with
 | [.agg cs,.int _ n,.int _ s]=>Y6 cs s n.toNat
 | _=>false
def Gs:List AV→Bool:=fun xs=>match xs with
 | [.agg cs,.int _ n,.agg ps,.int _ m]=>G9 (Aq cs n.toNat ps) m.toNat
 | _=>false
theorem Cg {cs:List AV} {n:Nat}:Az [.agg cs,.int .i64 (n:Int)]=G9 (V4 cs) n:=by simp only [Az,G5]
theorem Wf {cs:List AV} {n:Nat} {s:Int}:By [.agg cs,.int .i64 (n:Int),.int .i64 s]=Y6 cs s n:=by simp only [By,G5]
theorem Hl {cs ps:List AV} {n m:Nat}:Gs [.agg cs,.int .i64 (n:Int),.agg ps,.int .i64 (m:Int)]=G9 (Aq cs n ps) m:=by simp only [Gs,G5]
theorem iF {a r z:Int} {n:Nat}:Ok [.int .i64 a,.int .i64 r,.int .i64 (n:Int),.int .i64 z]=Ep a r n z:=by simp only [Ok,G5]
theorem zI {a z:Int} {n:Nat}:upU [.int .i64 a,.int .i64 (n:Int),.int .i64 z]=upF a n z:=by simp only [upU,G5]
theorem Vs {p:Nat→Bool} {n i:Nat} (h:i≤K5 (fun j=>!p j) n):∀ j,j<i→p j=true:=fun j hj=>by
 have:=(L1 (p:=fun j=>!p j) (k:=n)).2.2 j (by omega)
 simpa using this
theorem Ge {p:Nat→Bool} {n i:Nat} (h:i≤K5 (fun j=>!p j) n) (hi:i<n) (hp:p i=true):i<K5 (fun j=>!p j) n:=by
 have:=Pv h hi
 simp only [hp,Bool.not_true] at this
 have:=of_decide_eq_false this.symm
 omega
theorem Hr {p:Nat→Bool} {n i:Nat} (h:i≤K5 (fun j=>!p j) n) (hi:¬i<n):G9 p n=true:=K7.2 fun j hj=>Vs h j (by omega)
def wE (cs:List AV) (n:Nat):Bool:=T6 [.agg cs,.int .i64 (n:Int)]
def bQ (cs:List AV) (n:Nat) (ps:List AV) (m:Nat):Bool:=T6 [.agg cs,.int .i64 (n:Int)]&&(Ov [.agg ps,.int .i64 (m:Int)]&&G9 (V4 cs) n)
def ckQ (G:Nat→List AV) (ks n kp m:Nat) (s:Int):List AV→Bool:=Ky (wE (G ks) n) [.ptr (.rw 0) 0,.int .i64 0,.bool false,.int .i64 0,.slice true (.ro ks) 0 n,.int .i64 (n:Int),.int .i64 0] [some ⟨1,[.int .i64 s,.slice true (.ro ks) 0 n,.slice true (.ro kp) 0 m]⟩]
def ckO (ks n kp m:Nat) (s:Int):LOut:=.tst (.uf 1711 Az [.agg (.ro (.var 2 ks)),.int .i64 (.ofN (.var 3 n))]) (.one (.exit 0) [.ptr (.rw 0) (.lit 0),.int .i64 (.lit 0),.bool (.uf 1712 By [.agg (.ro (.var 2 ks)),.int .i64 (.ofN (.var 3 n)),.int .i64 (.var 1 s)]),.undef,.undef,.undef,.undef] [some ⟨1,.of [.int .i64 (.var 1 s),.slice true (.ro (.var 2 ks)) (.lit 0) (.var 3 n),.slice true (.ro (.var 4 kp)) (.lit 0) (.var 5 m)]⟩]) (.one .ret [.undef,.int .i64 (.lit 2),.undef,.undef,.undef,.undef,.undef] [some ⟨1,.of [.int .i64 (.var 1 s),.slice true (.ro (.var 2 ks)) (.lit 0) (.var 3 n),.slice true (.ro (.var 4 kp)) (.lit 0) (.var 5 m)]⟩])
def cdQ (G:Nat→List AV) (ks n kp m:Nat) (s:Int):List AV→Bool:=Ky (bQ (G ks) n (G kp) m) [.ptr (.rw 0) 0,.int .i64 0,.bool (By [.agg (G ks),.int .i64 (n:Int),.int .i64 s]),.int .i64 0,.slice true (.ro kp) 0 m,.int .i64 (m:Int),.int .i64 0] [some ⟨1,[.int .i64 s,.slice true (.ro ks) 0 n,.slice true (.ro kp) 0 m]⟩]
def cdO (ks n kp m:Nat) (s:Int):LOut:=.tst (.uf 1713 Gs [.agg (.ro (.var 2 ks)),.int .i64 (.ofN (.var 3 n)),.agg (.ro (.var 4 kp)),.int .i64 (.ofN (.var 5 m))]) (.one (.exit 2) [.ptr (.rw 0) (.lit 0),.int .i64 (.lit 0),.bool (.uf 1712 By [.agg (.ro (.var 2 ks)),.int .i64 (.ofN (.var 3 n)),.int .i64 (.var 1 s)]),.undef,.undef,.undef,.undef] [some ⟨1,.of [.int .i64 (.var 1 s),.slice true (.ro (.var 2 ks)) (.lit 0) (.var 3 n),.slice true (.ro (.var 4 kp)) (.lit 0) (.var 5 m)]⟩]) (.one .ret [.undef,.int .i64 (.lit 2),.undef,.undef,.undef,.undef,.undef] [some ⟨1,.of [.int .i64 (.var 1 s),.slice true (.ro (.var 2 ks)) (.lit 0) (.var 3 n),.slice true (.ro (.var 4 kp)) (.lit 0) (.var 5 m)]⟩])
theorem t20 (G:Nat→List AV) (ks n kp m:Nat) (s:Int) (Q:Ex→List AV→Hp→Prop) (R:AV→Hp→Prop):vT G Q R (G6 (Dc Try.prog [] progIc [(F9 1714 (ckQ G ks n kp m s) 0 98 [1,2,3,4,31,32,33] (ckO ks n kp m s)),(F9 1715 (cdQ G ks n kp m s) 2 98 [1,2,3,4,73,74,75] (cdO ks n kp m s))] 1) 300 20 Try.f20 [.agg (.of [.int .i64 (.var 1 s),.slice true (.ro (.var 2 ks)) (.lit 0) (.var 3 n),.slice true (.ro (.var 4 kp)) (.lit 0) (.var 5 m)])] [] 0)=(
  (decide ((((n:Nat):Int):Int)>8)=true→R (.int .i64 (2)) [])∧(decide ((((n:Nat):Int):Int)>8)=false→(decide ((((m:Nat):Int):Int)>512)=true→R (.int .i64 (2)) [])∧(decide ((((m:Nat):Int):Int)>512)=false→(decide ((s:Int)<0)=true→R (.int .i64 (2)) [])∧(decide ((s:Int)<0)=false→(((Int.tmod (s) (4):Int)==0)=true→(ckQ G ks n kp m s) [.agg ([.ptr (.rw 0) (0),.int .i64 (0),.bool (false),.int .i64 (0),.slice true (.ro (ks)) (0) (n),.int .i64 (((n:Nat):Int)),.int .i64 (0)]:List AV),.agg ([.tup [.int .i64 (1),.agg ([.int .i64 (s),.slice true (.ro (ks)) (0) (n),.slice true (.ro (kp)) (0) (m)]:List AV)]]:List AV)]=true∧(Az [.agg (G (ks)),.int .i64 (((n:Nat):Int))]=true→(cdQ G ks n kp m s) [.agg ([.ptr (.rw 0) (0),.int .i64 (0),.bool (By [.agg (G (ks)),.int .i64 (((n:Nat):Int)),.int .i64 (s)]),.int .i64 (0),.slice true (.ro (kp)) (0) (m),.int .i64 (((m:Nat):Int)),.int .i64 (0)]:List AV),.agg ([.tup [.int .i64 (1),.agg ([.int .i64 (s),.slice true (.ro (ks)) (0) (n),.slice true (.ro (kp)) (0) (m)]:List AV)]]:List AV)]=true∧(Gs [.agg (G (ks)),.int .i64 (((n:Nat):Int)),.agg (G (kp)),.int .i64 (((m:Nat):Int))]=true→(By [.agg (G (ks)),.int .i64 (((n:Nat):Int)),.int .i64 (s)]=true→R (.int .i64 (0)) [])∧(By [.agg (G (ks)),.int .i64 (((n:Nat):Int)),.int .i64 (s)]=false→R (.int .i64 (2)) []))∧(Gs [.agg (G (ks)),.int .i64 (((n:Nat):Int)),.agg (G (kp)),.int .i64 (((m:Nat):Int))]=false→R (.int .i64 (2)) []))∧(Az [.agg (G (ks)),.int .i64 (((n:Nat):Int))]=false→R (.int .i64 (2)) []))∧(((Int.tmod (s) (4):Int)==0)=false→R (.int .i64 (2)) []))))):=by kernel_rfl
def maQ (G:Nat→List AV) (ks n kp m:Nat) (s:Int):List AV→Bool:=Ky (wE (G ks) n) [.ptr (.rw 0) 0,.bool false,.bool false,.int .i64 0] [some ⟨1,[.int .i64 s,.slice true (.ro ks) 0 n,.slice true (.ro kp) 0 m]⟩]
def maO (ks n kp m:Nat) (s:Int):LOut:=.tst (.uf 1711 Az [.agg (.ro (.var 2 ks)),.int .i64 (.ofN (.var 3 n))]) (.one (.exit 0) [.ptr (.rw 0) (.lit 0),.bool (.lit false),.bool (.uf 1712 By [.agg (.ro (.var 2 ks)),.int .i64 (.ofN (.var 3 n)),.int .i64 (.var 1 s)]),.undef] [some ⟨1,.of [.int .i64 (.var 1 s),.slice true (.ro (.var 2 ks)) (.lit 0) (.var 3 n),.slice true (.ro (.var 4 kp)) (.lit 0) (.var 5 m)]⟩]) (.one .ret [.undef,.bool (.lit false),.undef,.undef] [some ⟨1,.of [.int .i64 (.var 1 s),.slice true (.ro (.var 2 ks)) (.lit 0) (.var 3 n),.slice true (.ro (.var 4 kp)) (.lit 0) (.var 5 m)]⟩])
def mdQ (G:Nat→List AV) (ks n kp m:Nat) (s:Int):List AV→Bool:=Ky (bQ (G ks) n (G kp) m) [.ptr (.rw 0) 0,.bool false,.bool (By [.agg (G ks),.int .i64 (n:Int),.int .i64 s]),.int .i64 0] [some ⟨1,[.int .i64 s,.slice true (.ro ks) 0 n,.slice true (.ro kp) 0 m]⟩]
def mdO (ks n kp m:Nat) (s:Int):LOut:=.tst (.uf 1713 Gs [.agg (.ro (.var 2 ks)),.int .i64 (.ofN (.var 3 n)),.agg (.ro (.var 4 kp)),.int .i64 (.ofN (.var 5 m))]) (.one (.exit 2) [.ptr (.rw 0) (.lit 0),.bool (.lit false),.bool (.uf 1712 By [.agg (.ro (.var 2 ks)),.int .i64 (.ofN (.var 3 n)),.int .i64 (.var 1 s)]),.undef] [some ⟨1,.of [.int .i64 (.var 1 s),.slice true (.ro (.var 2 ks)) (.lit 0) (.var 3 n),.slice true (.ro (.var 4 kp)) (.lit 0) (.var 5 m)]⟩]) (.one .ret [.undef,.bool (.lit false),.undef,.undef] [some ⟨1,.of [.int .i64 (.var 1 s),.slice true (.ro (.var 2 ks)) (.lit 0) (.var 3 n),.slice true (.ro (.var 4 kp)) (.lit 0) (.var 5 m)]⟩])
theorem t21 (G:Nat→List AV) (ks n kp m:Nat) (s:Int) (Q:Ex→List AV→Hp→Prop) (R:AV→Hp→Prop):vT G Q R (G6 (Dc Try.prog [] progIc [(F9 1716 (maQ G ks n kp m s) 0 130 [1,2,3,4] (maO ks n kp m s)),(F9 1717 (mdQ G ks n kp m s) 2 130 [1,2,3,6] (mdO ks n kp m s))] 1) 300 20 Try.f21 [.agg (.of [.int .i64 (.var 1 s),.slice true (.ro (.var 2 ks)) (.lit 0) (.var 3 n),.slice true (.ro (.var 4 kp)) (.lit 0) (.var 5 m)])] [] 0)=(
  (decide ((((n:Nat):Int):Int)>8)=true→R (.bool (false)) [])∧(decide ((((n:Nat):Int):Int)>8)=false→(decide ((((m:Nat):Int):Int)>512)=true→R (.bool (false)) [])∧(decide ((((m:Nat):Int):Int)>512)=false→(decide ((s:Int)<0)=true→R (.bool (false)) [])∧(decide ((s:Int)<0)=false→(((Int.tmod (s) (4):Int)==0)=true→(maQ G ks n kp m s) [.agg ([.ptr (.rw 0) (0),.bool (false),.bool (false),.int .i64 (0)]:List AV),.agg ([.tup [.int .i64 (1),.agg ([.int .i64 (s),.slice true (.ro (ks)) (0) (n),.slice true (.ro (kp)) (0) (m)]:List AV)]]:List AV)]=true∧(Az [.agg (G (ks)),.int .i64 (((n:Nat):Int))]=true→(mdQ G ks n kp m s) [.agg ([.ptr (.rw 0) (0),.bool (false),.bool (By [.agg (G (ks)),.int .i64 (((n:Nat):Int)),.int .i64 (s)]),.int .i64 (0)]:List AV),.agg ([.tup [.int .i64 (1),.agg ([.int .i64 (s),.slice true (.ro (ks)) (0) (n),.slice true (.ro (kp)) (0) (m)]:List AV)]]:List AV)]=true∧(Gs [.agg (G (ks)),.int .i64 (((n:Nat):Int)),.agg (G (kp)),.int .i64 (((m:Nat):Int))]=true→R (.bool (By [.agg (G (ks)),.int .i64 (((n:Nat):Int)),.int .i64 (s)])) [])∧(Gs [.agg (G (ks)),.int .i64 (((n:Nat):Int)),.agg (G (kp)),.int .i64 (((m:Nat):Int))]=false→R (.bool (false)) []))∧(Az [.agg (G (ks)),.int .i64 (((n:Nat):Int))]=false→R (.bool (false)) []))∧(((Int.tmod (s) (4):Int)==0)=false→R (.bool (false)) []))))):=by kernel_rfl
end Go.Am
namespace Go.Am
open Go.Proofs
set_option maxRecDepth 100000
theorem hit_eq {cs:List AV} {x:Int} {h:Bool} {k:Nat} (hs:Mk cs k=true) (hx:0≤x∧x≤9223372036854775807):Pq cs x h k=Il cs x h k:=by
 have hs:=N7.1 hs;have hw:2≤W9 h∧W9 h≤4:=by unfold W9;split<;>omega
 unfold Pq Il;by_cases h1:sA cs k≤x
 ·rw [decide_eq_true h1,Bool.true_and,Bool.true_and,C4 (n:=x - sA cs k) (by omega),C4 (n:=(sN cs k:Int) - W9 h) (by omega),C4 (n:=sA cs k+(sN cs k:Int)) (by omega)];by_cases h2:x≤8192
  ·rw [decide_eq_true h2,Bool.true_and,C4 (n:=x+W9 h) (by omega),Bool.eq_iff_iff,decide_eq_true_iff,decide_eq_true_iff];omega
  ·rw [decide_eq_false h2,Bool.false_and];exact decide_eq_false (by omega)
 ·rw [decide_eq_false h1,Bool.false_and,Bool.false_and]
theorem lK {p q:Nat→Bool} {n:Nat} (h:∀ j,j<n→p j=q j):K5 p n=K5 q n:=by
 obtain ⟨a1,a2,a3⟩:=L1 (p:=p) (k:=n);obtain ⟨b1,b2,b3⟩:=L1 (p:=q) (k:=n);rcases Nat.lt_trichotomy (K5 p n) (K5 q n) with h1 | h1 | h1
 ·have:=a2 (by omega);rw [h _ (by omega),b3 _ h1] at this;simp at this
 ·exact h1
 ·have:=b2 (by omega);rw [←h _ (by omega),a3 _ h1] at this;simp at this
theorem fL {cs:List AV} {n:Nat} {x:Int} {h:Bool} (hs:G9 (V4 cs) n=true) (hx:0≤x∧x≤9223372036854775807):U5 cs n x h=inN cs n x h:=lK fun j hj=>hit_eq (by have:=K7.1 hs j hj;unfold V4 at this;rw [Bool.and_eq_true] at this;exact this.1) hx
theorem fK {cs:List AV} {n:Nat} {x:Int} {h:Bool} (hs:G9 (V4 cs) n=true) (hx:0≤x∧x≤9223372036854775807) (hd:U5 cs n x h<n):x≤8192:=by
 rw [fL hs hx] at hd
 have:=(L1 (p:=Il cs x h) (k:=n)).2.1 hd
 unfold Il at this;simp only [Bool.and_eq_true,decide_eq_true_eq] at this;exact this.2.1
theorem kQ {cs ps:List AV} {n m i:Nat} (hs:G9 (V4 cs) n=true) (hp:V6 ps m=true):i≤m→(∀ j,j<i→Aq cs n ps j=true)→0≤Nx ps i∧Nx ps i≤8200:=by
 induction i with
 | zero=>intro _ _;exact ⟨Int.le_refl _,by show (0:Int)≤8200;omega⟩
 | succ i ih=>
  intro hi h;have ih:=ih (by omega) fun j hj=>h j (by omega)
  have:=h i (by omega)
  unfold Aq at this;simp only [Bool.and_eq_true,decide_eq_true_eq] at this;have hx:=(N9 hp (j:=i) (by omega)).2.2
  have:=fK hs (by omega) this.2
  have hw:2≤W9 (hP ps i)∧W9 (hP ps i)≤4:=by unfold W9;split<;>omega
  show 0≤xP ps i+W9 (hP ps i)∧xP ps i+W9 (hP ps i)≤8200;omega
theorem szE {cs:List AV} {i:Nat} (h:Mk cs i=true):IntKind.wrap .i64 (sA cs i+cH (sN cs i) (sZ cs i))=sE cs i:=by
 have:=N7.1 h
 have e:cH (sN cs i) (sZ cs i)=(sN cs i:Int)+sZ cs i:=C4 (by omega);rw [e,C4 (by omega)];unfold sE;omega
theorem rszE {cs:List AV} {i:Nat} (h:Mk cs i=true):IntKind.wrap .i64 (sA cs i+Kh (sN cs i) (sZ cs i))=sE cs i:=by
 have:=N7.1 h
 have e:Kh (sN cs i) (sZ cs i)=(sN cs i:Int)+sZ cs i:=if_pos ⟨by omega,by omega,by omega⟩;rw [e,C4 (by omega)];unfold sE;omega
theorem ckL_ok (G:Nat→List AV) (B:Nat) (ks n kp m:Nat) (s:Int):H5 (⟨Try.prog,G,B⟩:A2) 1 (A5 Try.f20 0) (F9 1714 (ckQ G ks n kp m s) 0 98 [1,2,3,4,31,32,33] (ckO ks n kp m s)):=by
 refine Bj rfl fun hc=>?_;obtain ⟨hk,hn⟩:=M6.1 hc;refine Bl (K5 (fun j=>!V4 (G ks) j) n) (fun i=>[.ptr (.rw 0) 0,.int .i64 0,.bool (Y6 (G ks) s i),.int .i64 (Uy (G ks) i),.slice true (.ro ks) 0 n,.int .i64 (n:Int),.int .i64 (i:Int)]) (fun _=>[some ⟨1,[.int .i64 s,.slice true (.ro ks) 0 n,.slice true (.ro kp) 0 m]⟩]) fun i hi=>?_;have hle:K5 (fun j=>!V4 (G ks) j) n≤n:=L1.1
 refine D4 (C:=(⟨Try.prog,G,B⟩:A2)) (by rw [show loopsOf (A5 Try.f20 0)=[] by kernel_rfl];exact D3 (inl:=[]) (ls:=[]) (M:=1) (O1 G B) (by kernel_rfl) (Ga G B) .nil) (fuel:=300) (n0:=20) (m:=1) (c:=A5 Try.f20 0) (vs:=[.ptr (.rw 0) (.lit 0),.int .i64 (.lit 0),.bool (.var 9 (Y6 (G ks) s i)),.int .i64 (.var 10 (Uy (G ks) i)),.slice true (.ro (.var 2 ks)) (.lit 0) (.var 3 n),.int .i64 (.ofN (.var 3 n)),.int .i64 (.ofN (.var 8 i))]) (H:=[some ⟨1,.of [.int .i64 (.var 1 s),.slice true (.ro (.var 2 ks)) (.lit 0) (.var 3 n),.slice true (.ro (.var 4 kp)) (.lit 0) (.var 5 m)]⟩]) (by simp) ?_
 rw [ck_b];have fb:J5 1 [some ⟨1,[.int .i64 s,.slice true (.ro ks) 0 n,.slice true (.ro kp) 0 m]⟩]=true:=by simp [J5,A4,A8]
 refine ⟨fun h1=>?_,fun h1=>?_⟩
 ·have h1':=of_decide_eq_true h1;have hin:i<n:=by omega
  rw [C4 (n:=(i:Int)+1) (by omega),iF,mZ]
  have no:V4 (G ks) i=false→¬Az [.agg (G ks),.int .i64 (n:Int)]=true:=fun h=>by
   rw [Cg,U9 hin h];simp
  have nof:V4 (G ks) i=false→Az [.agg (G ks),.int .i64 (n:Int)]=false:=fun h=>by
   rw [Cg,U9 hin h]
  refine ⟨decide_eq_true (by omega),h1,M7 hk hin,fun h2=>?_,fun h2=>?_⟩
  ·have h2':Mk (G ks) i=true:=h2;have e:=szE h2';unfold sA sN sZ at e;rw [e];refine ⟨fun h3=>?_,fun h3=>?_⟩
   ·refine .inr ⟨nof ?_,rfl,.inr (C2.same (H:=[some ⟨1,[.int .i64 s,.slice true (.ro ks) 0 n,.slice true (.ro kp) 0 m]⟩]) (by simp) fb (by simp [fv,A8,vVs,vV,vI]))⟩;have h3:A0 (G ks) (i*4)<Uy (G ks) i:=of_decide_eq_true h3;unfold V4;rw [h2',decide_eq_false (by unfold sA;omega)];rfl
   ·have h3:¬A0 (G ks) (i*4)<Uy (G ks) i:=of_decide_eq_false h3;have lt:=Ge hi hin (by unfold V4;rw [h2',decide_eq_true (by unfold sA;omega)];rfl);refine ⟨fun w1=>?_,fun w1=>⟨fun g1=>?_,fun g1=>⟨fun g2=>?_,fun g2=>?_⟩⟩⟩
    ·exact ⟨lt,.inr (C2.same (H:=[some ⟨1,[.int .i64 s,.slice true (.ro ks) 0 n,.slice true (.ro kp) 0 m]⟩]) (by simp) fb (by simp [fv,A8,A4,lR w1,Uy]))⟩
    ·exact ⟨lt,.inr (C2.same (H:=[some ⟨1,[.int .i64 s,.slice true (.ro ks) 0 n,.slice true (.ro kp) 0 m]⟩]) (by simp) fb (by simp [fv,A8,A4,lQ w1 g1,Uy]))⟩
    ·exact ⟨lt,.inr (C2.same (H:=[some ⟨1,[.int .i64 s,.slice true (.ro ks) 0 n,.slice true (.ro kp) 0 m]⟩]) (by simp) fb (by simp [fv,A8,A4,lP w1 g1 g2,Uy]))⟩
    ·exact ⟨lt,.inr (C2.same (H:=[some ⟨1,[.int .i64 s,.slice true (.ro ks) 0 n,.slice true (.ro kp) 0 m]⟩]) (by simp) fb (by simp [fv,A8,A4,lO w1 g1 g2,Uy]))⟩
  ·refine .inr ⟨nof ?_,rfl,.inr (C2.same (H:=[some ⟨1,[.int .i64 s,.slice true (.ro ks) 0 n,.slice true (.ro kp) 0 m]⟩]) (by simp) fb (by simp [fv,A8,vVs,vV,vI]))⟩;have h2':Mk (G ks) i=false:=h2;unfold V4;rw [h2'];rfl
 ·have h1':=of_decide_eq_false h1;have e:i=n:=by omega
  refine .inl ⟨?_,rfl,.inl ⟨?_,rfl⟩⟩
  ·show Az [.agg (G ks),.int .i64 (n:Int)]=true;rw [Cg];exact Hr hi (by omega)
  ·show wk [.ptr (.rw 0) 0,.int .i64 0,.bool (By [.agg (G ks),.int .i64 (n:Int),.int .i64 s]),.undef,.undef,.undef,.undef] _;rw [Wf,←e];simp [wk]
end Go.Am
