/-
  Images: the section in which a place lies. Images: which may be: the trees.
-/
import Derived.Test.YthejjolnlngahaaPart7
namespace Go.Am
open Go.Proofs
set_option maxRecDepth 100000
def sA (cs:List AV) (k:Nat):Int:=A0 cs (k*4)
def sR (cs:List AV) (k:Nat):Int:=A0 cs (k*4+1)
def sN (cs:List AV) (k:Nat):Nat:=B7 cs (k*4+2)
def sZ (cs:List AV) (k:Nat):Int:=A0 cs (k*4+3)
def K1 (cs:List AV) (n:Nat):Bool:=E7 (fun k=>E2 cs (k*4) [.int .i64,.int .i64,.sl,.int .i64]) n
theorem M5 {cs:List AV} {n k:Nat} (h:K1 cs n=true) (hk:k<n):E2 cs (k*4) [.int .i64,.int .i64,.sl,.int .i64]=true:=I5.1 h k hk
theorem Tq {cs:List AV} {n k:Nat} (h:K1 cs n=true) (hk:k<n):isI .i64 cs (k*4)=true∧Dz cs (k*4+2)=true:=by
 have:=M5 h hk
 simp only [E2,Z9,Bool.and_eq_true] at this;exact ⟨this.1,this.2.2.1⟩
def Lm (cs:List AV) (x:Int) (h:Bool) (k:Nat):Bool:=decide (sA cs k≤x)&&decide (IntKind.wrap .i64 (x - sA cs k)≤IntKind.wrap .i64 ((sN cs k:Int) - T2 h))
def Fo (cs:List AV) (x:Int) (h:Bool) (k:Nat):Bool:=decide (sA cs k≤x)&&(decide (x≤8192)&&decide (IntKind.wrap .i64 (x+T2 h)≤IntKind.wrap .i64 (sA cs k+(sN cs k:Int))))
def R6 (cs:List AV) (n:Nat) (x:Int) (h:Bool):Nat:=J4 (Lm cs x h) n
def inN (cs:List AV) (n:Nat) (x:Int) (h:Bool):Nat:=J4 (Fo cs x h) n
def Li (cs:List AV) (n:Nat) (x:Int) (h:Bool):Int:=if inN cs n x h<n then (inN cs n x h:Int) else -1
def Z5:List AV→Nat:=fun xs=>match xs with
 | [.agg cs,.int _ n,.int _ x,.bool h]=>R6 cs n.toNat x h
 | _=>0
def If:List AV→Int:=fun xs=>match xs with
 | [.agg cs,.int _ n,.int _ x,.bool h]=>Li cs n.toNat x h
 | _=>0
def N8:List AV→Bool:=fun xs=>match xs with
 | [.agg cs,.int _ n]=>K1 cs n.toNat&&Nat.ble n.toNat 1000000
 | _=>false
theorem J5 {cs:List AV} {n:Nat}:N8 [.agg cs,.int .i64 (n:Int)]=true↔K1 cs n=true∧n≤1000000:=by
 simp only [N8,D4,Bool.and_eq_true];exact ⟨fun ⟨h1,h2⟩=>⟨h1,Nat.le_of_ble_eq_true h2⟩,fun ⟨h1,h2⟩=>⟨h1,Nat.ble_eq_true_of_le h2⟩⟩
def dtQ (G:Nat→List AV) (ks n:Nat) (x:Int) (h:Bool):List AV→Bool:=Ko (N8 [.agg (G ks),.int .i64 (n:Int)]) [.slice true (.ro ks) 0 n,.ptr (.rw 0) 0,.nilp,.int .i64 (n:Int),.int .i64 0] [some ⟨1,[.int .i64 x,.bool h]⟩]
def dtO (ks n:Nat) (x:Int) (h:Bool):LOut:=.tst (.cmp .lss (.ofN (.uf 1707 Z5 [.agg (.ro (.var 2 ks)),.int .i64 (.ofN (.var 3 n)),.int .i64 (.var 6 x),.bool (.var 7 h)])) (.ofN (.var 3 n))) (.one .ret [.undef,.undef,.ptr (.ro (.var 2 ks)) (.mul (.uf 1707 Z5 [.agg (.ro (.var 2 ks)),.int .i64 (.ofN (.var 3 n)),.int .i64 (.var 6 x),.bool (.var 7 h)]) 4),.undef,.undef] [some ⟨1,.of [.int .i64 (.var 6 x),.bool (.var 7 h)]⟩]) (.one (.exit 0) [.undef,.undef,.nilp,.undef,.undef] [some ⟨1,.of [.int .i64 (.var 6 x),.bool (.var 7 h)]⟩])
theorem t34 (G:Nat→List AV) (ks n:Nat) (x:Int) (h:Bool) (Q:Ex→List AV→Hp→Prop) (R:AV→Hp→Prop):vT G Q R (H5 (Dc Try.prog [] [] [(B5 1706 (dtQ G ks n x h) 0 42 [0,3,4,8,9] (dtO ks n x h))] 1) 300 20 Try.f34 [.slice true (.ro (.var 2 ks)) (.lit 0) (.var 3 n),.agg (.of [.int .i64 (.var 6 x),.bool (.var 7 h)])] [] 0)=(
  (dtQ G ks n x h) [.agg ([.slice true (.ro (ks)) (0) (n),.ptr (.rw 0) (0),.nilp,.int .i64 (((n:Nat):Int)),.int .i64 (0)]:List AV),.agg ([.tup [.int .i64 (1),.agg ([.int .i64 (x),.bool (h)]:List AV)]]:List AV)]=true∧(decide ((((Z5 [.agg (G (ks)),.int .i64 (((n:Nat):Int)),.int .i64 (x),.bool (h)]:Nat):Int):Int)<((n:Nat):Int))=true→R (.ptr (.ro (ks)) ((Z5 [.agg (G (ks)),.int .i64 (((n:Nat):Int)),.int .i64 (x),.bool (h)])*4)) [])∧(decide ((((Z5 [.agg (G (ks)),.int .i64 (((n:Nat):Int)),.int .i64 (x),.bool (h)]:Nat):Int):Int)<((n:Nat):Int))=false→R (.nilp) [])):=by kernel_rfl
def inQ (G:Nat→List AV) (ks n kp m:Nat) (s x:Int) (h:Bool):List AV→Bool:=Ko (N8 [.agg (G ks),.int .i64 (n:Int)]) [.ptr (.rw 0) 0,.ptr (.rw 1) 0,.int .i64 0,.int .i64 0] [some ⟨1,[.int .i64 s,.slice true (.ro ks) 0 n,.slice true (.ro kp) 0 m]⟩,some ⟨1,[.int .i64 x,.bool h]⟩]
def inO (ks n kp m:Nat) (s x:Int) (h:Bool):LOut:=.tst (.cmp .eql (.uf 1709 If [.agg (.ro (.var 2 ks)),.int .i64 (.ofN (.var 3 n)),.int .i64 (.var 6 x),.bool (.var 7 h)]) (.lit (-1))) (.one (.exit 0) [.undef,.undef,.undef,.undef] [some ⟨1,.of [.int .i64 (.var 1 s),.slice true (.ro (.var 2 ks)) (.lit 0) (.var 3 n),.slice true (.ro (.var 4 kp)) (.lit 0) (.var 5 m)]⟩,some ⟨1,.of [.int .i64 (.var 6 x),.bool (.var 7 h)]⟩]) (.one .ret [.undef,.undef,.int .i64 (.uf 1709 If [.agg (.ro (.var 2 ks)),.int .i64 (.ofN (.var 3 n)),.int .i64 (.var 6 x),.bool (.var 7 h)]),.undef] [some ⟨1,.of [.int .i64 (.var 1 s),.slice true (.ro (.var 2 ks)) (.lit 0) (.var 3 n),.slice true (.ro (.var 4 kp)) (.lit 0) (.var 5 m)]⟩,some ⟨1,.of [.int .i64 (.var 6 x),.bool (.var 7 h)]⟩])
theorem t37 (G:Nat→List AV) (ks n kp m:Nat) (s x:Int) (h:Bool) (Q:Ex→List AV→Hp→Prop) (R:AV→Hp→Prop):vT G Q R (H5 (Dc Try.prog [] [] [(B5 1708 (inQ G ks n kp m s x h) 0 44 [2,3,4,5] (inO ks n kp m s x h))] 2) 300 20 Try.f37 [.agg (.of [.int .i64 (.var 1 s),.slice true (.ro (.var 2 ks)) (.lit 0) (.var 3 n),.slice true (.ro (.var 4 kp)) (.lit 0) (.var 5 m)]),.agg (.of [.int .i64 (.var 6 x),.bool (.var 7 h)])] [] 0)=(
  (inQ G ks n kp m s x h) [.agg ([.ptr (.rw 0) (0),.ptr (.rw 1) (0),.int .i64 (0),.int .i64 (0)]:List AV),.agg ([.tup [.int .i64 (1),.agg ([.int .i64 (s),.slice true (.ro (ks)) (0) (n),.slice true (.ro (kp)) (0) (m)]:List AV)],.tup [.int .i64 (1),.agg ([.int .i64 (x),.bool (h)]:List AV)]]:List AV)]=true∧(((If [.agg (G (ks)),.int .i64 (((n:Nat):Int)),.int .i64 (x),.bool (h)]:Int)==(-1))=true→R (.int .i64 ((-1))) [])∧(((If [.agg (G (ks)),.int .i64 (((n:Nat):Int)),.int .i64 (x),.bool (h)]:Int)==(-1))=false→R (.int .i64 (If [.agg (G (ks)),.int .i64 (((n:Nat):Int)),.int .i64 (x),.bool (h)])) [])):=by kernel_rfl
theorem Aa {p:Nat→Bool} {n i:Nat} (h1:i≤J4 p n) (h2:i<n):p i=decide (i=J4 p n):=by
 obtain ⟨g1,g2,g3⟩:=F5 (p:=p) (k:=n);by_cases e:i=J4 p n
 ·rw [decide_eq_true e,e];exact g2 (by omega)
 ·rw [decide_eq_false e];exact g3 i (by omega)
theorem Cq {cs:List AV} {n:Nat} {x:Int} {h:Bool}:Z5 [.agg cs,.int .i64 (n:Int),.int .i64 x,.bool h]=R6 cs n x h:=by simp only [Z5,D4]
theorem Ie {cs:List AV} {n:Nat} {x:Int} {h:Bool}:If [.agg cs,.int .i64 (n:Int),.int .i64 x,.bool h]=Li cs n x h:=by simp only [If,D4]
theorem qR (G:Nat→List AV) (B:Nat) (ks n:Nat) (x:Int) (h:Bool):G4 (⟨Try.prog,G,B⟩:A1) 1 (loopN Try.f34 0) (B5 1706 (dtQ G ks n x h) 0 42 [0,3,4,8,9] (dtO ks n x h)):=by
 refine Cv rfl fun hc=>?_;obtain ⟨hk,hn⟩:=J5.1 hc;have hle:R6 (G ks) n x h≤n:=F5.1;refine R3 (R6 (G ks) n x h) (fun i=>[.slice true (.ro ks) 0 n,.ptr (.rw 0) 0,.nilp,.int .i64 (n:Int),.int .i64 (i:Int)]) (fun _=>[some ⟨1,[.int .i64 x,.bool h]⟩]) fun i hi=>?_
 refine C4 (C:=(⟨Try.prog,G,B⟩:A1)) (by rw [show A3 (loopN Try.f34 0)=[] by kernel_rfl];exact C8 (inl:=[]) (ls:=[]) (M:=1) (D0 G B) (by kernel_rfl) (I1 G B) .nil) (fuel:=300) (n0:=20) (m:=1) (c:=loopN Try.f34 0) (vs:=[.slice true (.ro (.var 2 ks)) (.lit 0) (.var 3 n),.ptr (.rw 0) (.lit 0),.nilp,.int .i64 (.ofN (.var 3 n)),.int .i64 (.ofN (.var 8 i))]) (H:=[some ⟨1,.of [.int .i64 (.var 6 x),.bool (.var 7 h)]⟩]) (by simp) ?_;rw [dt_b];have fb:I7 1 [some ⟨1,[.int .i64 x,.bool h]⟩]=true:=by simp [I7,A6,B1]
 have key:i<n→Lm (G ks) x h i=decide (i=R6 (G ks) n x h):=fun h2=>Aa hi h2;simp only [Lm,sA,sN] at key
 have nx:Lm (G ks) x h i=false→i<n→i<R6 (G ks) n x h:=fun h1 h2=>by
  have:=Aa hi h2
  rw [h1] at this
  have:=of_decide_eq_false this.symm
  unfold R6 at *;omega
 refine ⟨fun h1=>?_,fun h1=>?_⟩
 ·have h1':=of_decide_eq_true h1;have hin:i<n:=by omega
  obtain ⟨t1,t2⟩:=Tq hk hin;rw [B3 (n:=(i:Int)+1) (by omega)];refine ⟨decide_eq_true (by omega),h1,t1,fun h2=>⟨t1,t2,fun h3=>?_,fun h3=>?_⟩,fun h2=>?_⟩
  ·have e:i=R6 (G ks) n x h:=of_decide_eq_true (by rw [←key hin,Bool.and_eq_true];exact ⟨h2,h3⟩);refine .inl ⟨?_,rfl,.inr ?_⟩
   ·show decide (((Z5 [.agg (G ks),.int .i64 (n:Int),.int .i64 x,.bool h]:Nat):Int)<(n:Int))=true;rw [Cq,←e];exact h1
   ·refine B4.same (H:=[some ⟨1,[.int .i64 x,.bool h]⟩]) (by simp) fb ?_;show fv 1 [.undef,.undef,.ptr (.ro ks) (Z5 [.agg (G ks),.int .i64 (n:Int),.int .i64 x,.bool h]*4),.undef,.undef] _;rw [Cq,←e];simp [fv,B1]
  ·exact ⟨nx (by unfold Lm sA sN;rw [Bool.and_eq_false_iff];exact .inr h3) hin,.inr (B4.same (H:=[some ⟨1,[.int .i64 x,.bool h]⟩]) (by simp) fb (by simp [fv,B1,A6]))⟩
  ·exact ⟨nx (by unfold Lm sA sN;rw [Bool.and_eq_false_iff];exact .inl h2) hin,.inr (B4.same (H:=[some ⟨1,[.int .i64 x,.bool h]⟩]) (by simp) fb (by simp [fv,B1,A6]))⟩
 ·have h1':=of_decide_eq_false h1;refine .inr ⟨?_,rfl,.inl ⟨by simp [vVs,vV,wk],rfl⟩⟩;show decide (((Z5 [.agg (G ks),.int .i64 (n:Int),.int .i64 x,.bool h]:Nat):Int)<(n:Int))=false;rw [Cq];exact decide_eq_false (by omega)
theorem ACalls.drop0 {C:A1} {f:FuncId} {args:List AV} {v0:AV} (h:ACalls C f args [] fun v _=>v=v0) (hb:B1 0 v0=true) (hu:v0≠.undef):ACalls C f args [] fun v H=>v=v0∧H=[]:=by
 refine h.view fun v H' hj=>⟨v0,[],⟨rfl,rfl⟩,?_⟩;subst hj;exact B4.same (H:=[]) (G:=H') (by simp) rfl (by simp [fv,hb])
theorem nK (G:Nat→List AV) (B:Nat) (ks n:Nat) (x:Int) (h:Bool) (hk:N8 [.agg (G ks),.int .i64 (n:Int)]=true):ACalls (⟨Try.prog,G,B⟩:A1) 34 [.slice true (.ro ks) 0 n,.agg [.int .i64 x,.bool h]] [] fun v H=>v=(if R6 (G ks) n x h<n then .ptr (.ro ks) (R6 (G ks) n x h*4) else .nilp)∧H=[]:=by
 have:=B8 (C:=(⟨Try.prog,G,B⟩:A1)) (fuel:=300) (n0:=20) (f:=34) (fn:=Try.f34) (args:=[.slice true (.ro (.var 2 ks)) (.lit 0) (.var 3 n),.agg (.of [.int .i64 (.var 6 x),.bool (.var 7 h)])]) (H:=[]) (keep:=0)
  (R:=fun v _=>v=(if R6 (G ks) n x h<n then .ptr (.ro ks) (R6 (G ks) n x h*4) else .nilp)) (C8 (inl:=[]) (ls:=[(B5 1706 (dtQ G ks n x h) 0 42 [0,3,4,8,9] (dtO ks n x h))]) (M:=1) (D0 G B) (by kernel_rfl) .nil (.cast (.cons (i:=0) (by kernel_rfl) rfl (qR G B ks n x h) .nil) (by kernel_rfl))) (by kernel_rfl) (by kernel_rfl) (by kernel_rfl) (by
  rw [t34];refine ⟨Ak hk rfl rfl,fun e=>?_,fun e=>?_⟩
  ·rw [Cq] at *;have:((R6 (G ks) n x h:Nat):Int)<(n:Int):=of_decide_eq_true e;exact (if_pos (by omega)).symm
  ·rw [Cq] at *;have:¬((R6 (G ks) n x h:Nat):Int)<(n:Int):=of_decide_eq_false e;exact (if_neg (by omega)).symm)
 refine ACalls.drop0 this ?_ ?_<;>split<;>simp [B1]
theorem qA (G:Nat→List AV) (B:Nat) (ks n kp m:Nat) (s x:Int) (h:Bool):G4 (⟨Try.prog,G,B⟩:A1) 2 (loopN Try.f37 0) (B5 1708 (inQ G ks n kp m s x h) 0 44 [2,3,4,5] (inO ks n kp m s x h)):=by
 refine Cv rfl fun hc=>?_;obtain ⟨hk,hn⟩:=J5.1 hc;have hle:inN (G ks) n x h≤n:=F5.1;refine R3 (inN (G ks) n x h) (fun i=>[.ptr (.rw 0) 0,.ptr (.rw 1) 0,.int .i64 0,.int .i64 (i:Int)]) (fun _=>[some ⟨1,[.int .i64 s,.slice true (.ro ks) 0 n,.slice true (.ro kp) 0 m]⟩,some ⟨1,[.int .i64 x,.bool h]⟩]) fun i hi=>?_
 refine C4 (C:=(⟨Try.prog,G,B⟩:A1)) (by rw [show A3 (loopN Try.f37 0)=[] by kernel_rfl];exact C8 (inl:=[]) (ls:=[]) (M:=2) (D0 G B) (by kernel_rfl) (I1 G B) .nil) (fuel:=300) (n0:=20) (m:=2) (c:=loopN Try.f37 0) (vs:=[.ptr (.rw 0) (.lit 0),.ptr (.rw 1) (.lit 0),.int .i64 (.lit 0),.int .i64 (.ofN (.var 8 i))]) (H:=[some ⟨1,.of [.int .i64 (.var 1 s),.slice true (.ro (.var 2 ks)) (.lit 0) (.var 3 n),.slice true (.ro (.var 4 kp)) (.lit 0) (.var 5 m)]⟩,some ⟨1,.of [.int .i64 (.var 6 x),.bool (.var 7 h)]⟩]) (by simp) ?_;rw [in_b]
 have fb:I7 2 [some ⟨1,[.int .i64 s,.slice true (.ro ks) 0 n,.slice true (.ro kp) 0 m]⟩,some ⟨1,[.int .i64 x,.bool h]⟩]=true:=by simp [I7,A6,B1]
 have key:i<n→Fo (G ks) x h i=decide (i=inN (G ks) n x h):=fun h2=>Aa hi h2;simp only [Fo,sA,sN] at key
 have nx:Fo (G ks) x h i=false→i<n→i<inN (G ks) n x h:=fun h1 h2=>by
  have:=Aa hi h2
  rw [h1] at this
  have:=of_decide_eq_false this.symm
  unfold inN at *;omega
 refine ⟨fun h1=>?_,fun h1=>?_⟩
 ·have h1':=of_decide_eq_true h1;have hin:i<n:=by omega
  rw [B3 (n:=(i:Int)+1) (by omega)];refine ⟨decide_eq_true (by omega),h1,M5 hk hin,fun h2=>⟨fun h3=>⟨fun h4=>?_,fun h4=>?_⟩,fun h3=>?_⟩,fun h2=>?_⟩
  ·have e:i=inN (G ks) n x h:=of_decide_eq_true (by rw [←key hin,Bool.and_eq_true,Bool.and_eq_true];exact ⟨h2,h3,h4⟩);have e2:Li (G ks) n x h=(i:Int):=by unfold Li;rw [←e,if_pos hin]
   refine .inr ⟨?_,rfl,.inr ?_⟩
   ·show (If [.agg (G ks),.int .i64 (n:Int),.int .i64 x,.bool h]==(-1:Int))=false;rw [Ie,e2];exact beq_eq_false_iff_ne.2 (by omega)
   ·refine B4.same (H:=[some ⟨1,[.int .i64 s,.slice true (.ro ks) 0 n,.slice true (.ro kp) 0 m]⟩,some ⟨1,[.int .i64 x,.bool h]⟩]) (by simp) fb ?_;show fv 2 [.undef,.undef,.int .i64 (If [.agg (G ks),.int .i64 (n:Int),.int .i64 x,.bool h]),.undef] _;rw [Ie,e2];simp [fv,B1]
  ·exact ⟨nx (by unfold Fo sA sN;rw [Bool.and_eq_false_iff,Bool.and_eq_false_iff];exact .inr (.inr h4)) hin,.inr (B4.same (H:=[some ⟨1,[.int .i64 s,.slice true (.ro ks) 0 n,.slice true (.ro kp) 0 m]⟩,some ⟨1,[.int .i64 x,.bool h]⟩]) (by simp) fb (by simp [fv,B1,A6]))⟩
  ·exact ⟨nx (by unfold Fo sA sN;rw [Bool.and_eq_false_iff,Bool.and_eq_false_iff];exact .inr (.inl h3)) hin,.inr (B4.same (H:=[some ⟨1,[.int .i64 s,.slice true (.ro ks) 0 n,.slice true (.ro kp) 0 m]⟩,some ⟨1,[.int .i64 x,.bool h]⟩]) (by simp) fb (by simp [fv,B1,A6]))⟩
  ·exact ⟨nx (by unfold Fo sA sN;rw [Bool.and_eq_false_iff];exact .inl h2) hin,.inr (B4.same (H:=[some ⟨1,[.int .i64 s,.slice true (.ro ks) 0 n,.slice true (.ro kp) 0 m]⟩,some ⟨1,[.int .i64 x,.bool h]⟩]) (by simp) fb (by simp [fv,B1,A6]))⟩
 ·have h1':=of_decide_eq_false h1;refine .inl ⟨?_,rfl,.inl ⟨by simp [vVs,vV,wk],rfl⟩⟩;show (If [.agg (G ks),.int .i64 (n:Int),.int .i64 x,.bool h]==(-1:Int))=true;rw [Ie];unfold Li;rw [if_neg (by omega)];rfl
theorem mZ (G:Nat→List AV) (B:Nat) (ks n kp m:Nat) (s x:Int) (h:Bool) (hk:N8 [.agg (G ks),.int .i64 (n:Int)]=true):ACalls (⟨Try.prog,G,B⟩:A1) 37 [.agg [.int .i64 s,.slice true (.ro ks) 0 n,.slice true (.ro kp) 0 m],.agg [.int .i64 x,.bool h]] [] fun v H=>v=.int .i64 (Li (G ks) n x h)∧H=[]:=by
 have:=B8 (C:=(⟨Try.prog,G,B⟩:A1)) (fuel:=300) (n0:=20) (f:=37) (fn:=Try.f37) (args:=[.agg (.of [.int .i64 (.var 1 s),.slice true (.ro (.var 2 ks)) (.lit 0) (.var 3 n),.slice true (.ro (.var 4 kp)) (.lit 0) (.var 5 m)]),.agg (.of [.int .i64 (.var 6 x),.bool (.var 7 h)])]) (H:=[]) (keep:=0)
  (R:=fun v _=>v=.int .i64 (Li (G ks) n x h)) (C8 (inl:=[]) (ls:=[(B5 1708 (inQ G ks n kp m s x h) 0 44 [2,3,4,5] (inO ks n kp m s x h))]) (M:=2) (D0 G B) (by kernel_rfl) .nil (.cast (.cons (i:=0) (by kernel_rfl) rfl (qA G B ks n kp m s x h) .nil) (by kernel_rfl))) (by kernel_rfl) (by kernel_rfl) (by kernel_rfl) (by
  rw [t37,Ie];refine ⟨Ak hk rfl rfl,fun e=>?_,fun e=>rfl⟩
  rw [eq_of_beq e])
 exact ACalls.drop0 this rfl (by simp)
end Go.Am
namespace Go.Am
open Go.Proofs
set_option maxRecDepth 100000
theorem G9.ro0 {C:A1} {f:FuncId} {args:List EV} {H:DHp} {v:EV} (h:ACalls C f (vVs C.G args) [] fun v' H'=>v'=vV C.G v∧H'=[]) (ha:A6 0 (vVs C.G args)=true) (hv:B1 0 (vV C.G v)=true):G9 C f args H v []:=by
 refine G9.fr (C:=C) (θ:=[]) (H0:=[]) (H1:=[]) (v0:=vV C.G v) (by simp) rfl (fun i b hi=>by simp at hi) ha (by rw [M7 _ _ ha]) h (Nat.le_refl _) hv rfl (by rw [Jb _ _ hv]) ?_;simp [acts,Bl,lay]
def dtS:DSum:=fun args _=>match args with
 | [.slice _ (.ro k) (.lit 0) n,.agg (.of [.int .i64 x,.bool b])]=>some (.chk (.uf 1710 N8 [.agg (.ro k),.int .i64 (.ofN n)]) (.tst (.cmp .lss (.ofN (.uf 1707 Z5 [.agg (.ro k),.int .i64 (.ofN n),.int .i64 x,.bool b])) (.ofN n)) (.one (.ptr (.ro k) (.mul (.uf 1707 Z5 [.agg (.ro k),.int .i64 (.ofN n),.int .i64 x,.bool b]) 4)) []) (.one .nilp [])))
 | _=>none
def inS:DSum:=fun args _=>match args with
 | [.agg (.of [.int .i64 _,.slice _ (.ro k) (.lit 0) n,.slice _ (.ro _) (.lit 0) _]),.agg (.of [.int .i64 x,.bool b])]=>some (.chk (.uf 1710 N8 [.agg (.ro k),.int .i64 (.ofN n)]) (.one (.int .i64 (.uf 1709 If [.agg (.ro k),.int .i64 (.ofN n),.int .i64 x,.bool b])) []))
 | _=>none
theorem qP (G:Nat→List AV) (B:Nat):C9 (⟨Try.prog,G,B⟩:A1) 34 dtS:=by
 intro args H o ho;unfold dtS at ho;split at ho
 ·rename_i mb k n x b;simp only [Option.some.injEq] at ho;subst ho;intro hk;have key:=nK G B (vN G k) (vN G n) (vI G x) (vB G b) hk;rw [←Cq] at key
  have wk:∀ {K},ACalls (⟨Try.prog,G,B⟩:A1) 34 [.slice true (.ro (vN G k)) 0 (vN G n),.agg [.int .i64 (vI G x),.bool (vB G b)]] [] K→ACalls (⟨Try.prog,G,B⟩:A1) 34 (vVs G [.slice mb (.ro k) (.lit 0) n,.agg (.of [.int .i64 x,.bool b])]) [] K:=fun h=>h.weaken fun ρ vs hv=>by
   simp only [vVs,vV,vL,vR,vN,VRs] at hv ⊢;obtain ⟨v,vs',e,q1,q2⟩:=hv;exact ⟨v,vs',e,Af q1,q2⟩
  refine ⟨fun hl=>?_,fun hl=>?_⟩
  ·have hl':((Z5 [.agg (G (vN G k)),.int .i64 (vN G n:Int),.int .i64 (vI G x),.bool (vB G b)]:Nat):Int)<(vN G n:Int):=of_decide_eq_true hl;rw [if_pos (by omega)] at key;exact G9.ro0 (C:=(⟨Try.prog,G,B⟩:A1)) (wk key) (by simp [vVs,vV,vL,vR,A6,B1]) (by simp [vV,vR,B1])
  ·have hl':¬((Z5 [.agg (G (vN G k)),.int .i64 (vN G n:Int),.int .i64 (vI G x),.bool (vB G b)]:Nat):Int)<(vN G n:Int):=of_decide_eq_false hl;rw [if_neg (by omega)] at key;exact G9.ro0 (C:=(⟨Try.prog,G,B⟩:A1)) (wk key) (by simp [vVs,vV,vL,vR,A6,B1]) (by simp [vV,B1])
 ·simp at ho
theorem pY (G:Nat→List AV) (B:Nat):C9 (⟨Try.prog,G,B⟩:A1) 37 inS:=by
 intro args H o ho;unfold inS at ho;split at ho
 ·rename_i s mb k n mb' k' n' x b;simp only [Option.some.injEq] at ho;subst ho;intro hk;have key:=mZ G B (vN G k) (vN G n) (vN G k') (vN G n') (vI G s) (vI G x) (vB G b) hk;rw [←Ie] at key;refine G9.ro0 (C:=(⟨Try.prog,G,B⟩:A1)) (key.weaken fun ρ vs hv=>?_) (by simp [vVs,vV,vL,vR,A6,B1]) (by simp [vV,B1]);simp only [vVs,vV,vL,vR,vN,VRs,VR] at hv ⊢;obtain ⟨v,vs',e,⟨ws,e2,w1,t1,e3,q1,w2,t2,e4,q2,w3,t3,e5,q3,q4⟩,q6⟩:=hv
  exact ⟨v,vs',e,⟨ws,e2,w1,t1,e3,q1,w2,t2,e4,(by have:=Af (show VR ρ (.slice mb (.ro (vN G k)) 0 (vN G n)) w2 by simpa only [VR] using q2);simpa only [VR] using this),w3,t3,e5,(by have:=Af (show VR ρ (.slice mb' (.ro (vN G k')) 0 (vN G n')) w3 by simpa only [VR] using q3);simpa only [VR] using this),q4⟩,q6⟩
 ·simp at ho
def progIc:List (Nat×DSum):=(34,dtS)::(37,inS)::progIb
theorem Gg (G:Nat→List AV) (B:Nat):Q3 (⟨Try.prog,G,B⟩:A1) progIc:=.cons (qP G B) (.cons (pY G B) (I1 G B))
theorem ck_d (G:Nat→List AV) (ks n kp m:Nat) (s y:Int) (w:Bool) (i:Nat) (Q:Ex→List AV→Hp→Prop) (R:AV→Hp→Prop):vT G Q R (I0 (Dc Try.prog [] progIc [] 1) 300 20 1 (loopN Try.f20 1) 98 [1,2,3,4,73,74,75] [.ptr (.rw 0) (.lit 0),.int .i64 (.lit 0),.bool (.var 9 w),.int .i64 (.var 10 y),.slice true (.ro (.var 4 kp)) (.lit 0) (.var 5 m),.int .i64 (.ofN (.var 5 m)),.int .i64 (.ofN (.var 8 i))] [some ⟨1,.of [.int .i64 (.var 1 s),.slice true (.ro (.var 2 ks)) (.lit 0) (.var 3 n),.slice true (.ro (.var 4 kp)) (.lit 0) (.var 5 m)]⟩])=(
  (decide ((((i:Nat):Int):Int)<((m:Nat):Int))=true→decide ((0:Int)≤((i:Nat):Int))=true∧decide ((((i:Nat):Int):Int)<((m:Nat):Int))=true∧E2 (G (kp)) ((i)*2) [.int .i64,.bool]=true∧(decide ((A0 (G (kp)) ((i)*2):Int)<y)=true→Q .ret [.ptr (.rw 0) (0),.int .i64 (2),.bool (w),.int .i64 (y),.slice true (.ro (kp)) (0) (m),.int .i64 (((m:Nat):Int)),.int .i64 (((i:Nat):Int))] [some ⟨1,([.int .i64 (s),.slice true (.ro (ks)) (0) (n),.slice true (.ro (kp)) (0) (m)]:List AV)⟩,some ⟨1,([.int .i64 (A0 (G (kp)) ((i)*2)),.bool (K5 (G (kp)) ((i)*2+1))]:List AV)⟩])∧(decide ((A0 (G (kp)) ((i)*2):Int)<y)=false→N8 [.agg (G (ks)),.int .i64 (((n:Nat):Int))]=true∧(decide ((((Z5 [.agg (G (ks)),.int .i64 (((n:Nat):Int)),.int .i64 (A0 (G (kp)) ((i)*2)),.bool (K5 (G (kp)) ((i)*2+1))]:Nat):Int):Int)<((n:Nat):Int))=true→Q .normal [.ptr (.rw 0) (0),.int .i64 (0),.bool (w),.int .i64 (IntKind.wrap .i64 (A0 (G (kp)) ((i)*2)+Kk [.bool (K5 (G (kp)) ((i)*2+1))])),.slice true (.ro (kp)) (0) (m),.int .i64 (((m:Nat):Int)),.int .i64 (IntKind.wrap .i64 (((i:Nat):Int)+1))] [some ⟨1,([.int .i64 (s),.slice true (.ro (ks)) (0) (n),.slice true (.ro (kp)) (0) (m)]:List AV)⟩,some ⟨1,([.int .i64 (A0 (G (kp)) ((i)*2)),.bool (K5 (G (kp)) ((i)*2+1))]:List AV)⟩])∧(decide ((((Z5 [.agg (G (ks)),.int .i64 (((n:Nat):Int)),.int .i64 (A0 (G (kp)) ((i)*2)),.bool (K5 (G (kp)) ((i)*2+1))]:Nat):Int):Int)<((n:Nat):Int))=false→Q .ret [.ptr (.rw 0) (0),.int .i64 (2),.bool (w),.int .i64 (y),.slice true (.ro (kp)) (0) (m),.int .i64 (((m:Nat):Int)),.int .i64 (((i:Nat):Int))] [some ⟨1,([.int .i64 (s),.slice true (.ro (ks)) (0) (n),.slice true (.ro (kp)) (0) (m)]:List AV)⟩,some ⟨1,([.int .i64 (A0 (G (kp)) ((i)*2)),.bool (K5 (G (kp)) ((i)*2+1))]:List AV)⟩])))∧
 (decide ((((i:Nat):Int):Int)<((m:Nat):Int))=false→Q (.exit 2) [.ptr (.rw 0) (0),.int .i64 (0),.bool (w),.int .i64 (y),.slice true (.ro (kp)) (0) (m),.int .i64 (((m:Nat):Int)),.int .i64 (((i:Nat):Int))] [some ⟨1,([.int .i64 (s),.slice true (.ro (ks)) (0) (n),.slice true (.ro (kp)) (0) (m)]:List AV)⟩])):=by kernel_rfl
theorem ma_d (G:Nat→List AV) (ks n kp m:Nat) (s:Int) (w:Bool) (i:Nat) (Q:Ex→List AV→Hp→Prop) (R:AV→Hp→Prop):vT G Q R (I0 (Dc Try.prog [] progIc [] 1) 300 20 1 (loopN Try.f21 1) 130 [1,2,3,6] [.ptr (.rw 0) (.lit 0),.bool (.lit false),.bool (.var 9 w),.int .i64 (.ofN (.var 8 i))] [some ⟨1,.of [.int .i64 (.var 1 s),.slice true (.ro (.var 2 ks)) (.lit 0) (.var 3 n),.slice true (.ro (.var 4 kp)) (.lit 0) (.var 5 m)]⟩])=(
  (decide ((((i:Nat):Int):Int)<((m:Nat):Int))=true→decide ((0:Int)≤((i:Nat):Int))=true∧decide ((((i:Nat):Int):Int)<((m:Nat):Int))=true∧E2 (G (kp)) ((i)*2) [.int .i64,.bool]=true∧(decide ((A0 (G (kp)) ((i)*2):Int)<0)=true→Q .ret [.ptr (.rw 0) (0),.bool (false),.bool (w),.int .i64 (((i:Nat):Int))] [some ⟨1,([.int .i64 (s),.slice true (.ro (ks)) (0) (n),.slice true (.ro (kp)) (0) (m)]:List AV)⟩,some ⟨1,([.int .i64 (A0 (G (kp)) ((i)*2)),.bool (K5 (G (kp)) ((i)*2+1))]:List AV)⟩])∧(decide ((A0 (G (kp)) ((i)*2):Int)<0)=false→N8 [.agg (G (ks)),.int .i64 (((n:Nat):Int))]=true∧(decide ((If [.agg (G (ks)),.int .i64 (((n:Nat):Int)),.int .i64 (A0 (G (kp)) ((i)*2)),.bool (K5 (G (kp)) ((i)*2+1))]:Int)<0)=true→Q .ret [.ptr (.rw 0) (0),.bool (false),.bool (w),.int .i64 (((i:Nat):Int))] [some ⟨1,([.int .i64 (s),.slice true (.ro (ks)) (0) (n),.slice true (.ro (kp)) (0) (m)]:List AV)⟩,some ⟨1,([.int .i64 (A0 (G (kp)) ((i)*2)),.bool (K5 (G (kp)) ((i)*2+1))]:List AV)⟩])∧(decide ((If [.agg (G (ks)),.int .i64 (((n:Nat):Int)),.int .i64 (A0 (G (kp)) ((i)*2)),.bool (K5 (G (kp)) ((i)*2+1))]:Int)<0)=false→(decide ((((i:Nat):Int):Int)>0)=true→decide ((0:Int)≤IntKind.wrap .i64 (((i:Nat):Int) - 1))=true∧decide ((IntKind.wrap .i64 (((i:Nat):Int) - 1):Int)<((m:Nat):Int))=true∧isI .i64 (G (kp)) ((Int.toNat (IntKind.wrap .i64 (((i:Nat):Int) - 1)))*2)=true∧decide ((0:Int)≤IntKind.wrap .i64 (((i:Nat):Int) - 1))=true∧decide ((IntKind.wrap .i64 (((i:Nat):Int) - 1):Int)<((m:Nat):Int))=true∧E2 (G (kp)) ((Int.toNat (IntKind.wrap .i64 (((i:Nat):Int) - 1)))*2) [.int .i64,.bool]=true∧
 (decide ((IntKind.wrap .i64 (A0 (G (kp)) ((Int.toNat (IntKind.wrap .i64 (((i:Nat):Int) - 1)))*2)+Kk [.bool (K5 (G (kp)) ((Int.toNat (IntKind.wrap .i64 (((i:Nat):Int) - 1)))*2+1))]):Int)>A0 (G (kp)) ((i)*2))=true→Q .ret [.ptr (.rw 0) (0),.bool (false),.bool (w),.int .i64 (((i:Nat):Int))] [some ⟨1,([.int .i64 (s),.slice true (.ro (ks)) (0) (n),.slice true (.ro (kp)) (0) (m)]:List AV)⟩,some ⟨1,([.int .i64 (A0 (G (kp)) ((i)*2)),.bool (K5 (G (kp)) ((i)*2+1))]:List AV)⟩])∧(decide ((IntKind.wrap .i64 (A0 (G (kp)) ((Int.toNat (IntKind.wrap .i64 (((i:Nat):Int) - 1)))*2)+Kk [.bool (K5 (G (kp)) ((Int.toNat (IntKind.wrap .i64 (((i:Nat):Int) - 1)))*2+1))]):Int)>A0 (G (kp)) ((i)*2))=false→Q .normal [.ptr (.rw 0) (0),.bool (false),.bool (w),.int .i64 (IntKind.wrap .i64 (((i:Nat):Int)+1))] [some ⟨1,([.int .i64 (s),.slice true (.ro (ks)) (0) (n),.slice true (.ro (kp)) (0) (m)]:List AV)⟩,some ⟨1,([.int .i64 (A0 (G (kp)) ((i)*2)),.bool (K5 (G (kp)) ((i)*2+1))]:List AV)⟩]))∧(decide ((((i:Nat):Int):Int)>0)=false→Q .normal [.ptr (.rw 0) (0),.bool (false),.bool (w),.int .i64 (IntKind.wrap .i64 (((i:Nat):Int)+1))] [some ⟨1,([.int .i64 (s),.slice true (.ro (ks)) (0) (n),.slice true (.ro (kp)) (0) (m)]:List AV)⟩,some ⟨1,([.int .i64 (A0 (G (kp)) ((i)*2)),.bool (K5 (G (kp)) ((i)*2+1))]:List AV)⟩]))))∧(decide ((((i:Nat):Int):Int)<((m:Nat):Int))=false→Q (.exit 2) [.ptr (.rw 0) (0),.bool (false),.bool (w),.int .i64 (((i:Nat):Int))] [some ⟨1,([.int .i64 (s),.slice true (.ro (ks)) (0) (n),.slice true (.ro (kp)) (0) (m)]:List AV)⟩])):=by kernel_rfl
end Go.Am
namespace Go.Am
open Go.Proofs
set_option maxRecDepth 100000
def xP (ps:List AV) (j:Nat):Int:=A0 ps (j*2)
def hP (ps:List AV) (j:Nat):Bool:=K5 ps (j*2+1)
def iU (ps:List AV) (j:Nat):Bool:=E2 ps (j*2) [.int .i64,.bool]&&(decide (-9223372036854775808≤xP ps j)&&decide (xP ps j≤9223372036854775807))
def Ef (ps:List AV) (m:Nat):Bool:=E7 (iU ps) m
def Hg:List AV→Bool:=fun xs=>match xs with
 | [.agg ps,.int _ m]=>Ef ps m.toNat&&Nat.ble m.toNat 1000000
 | _=>false
theorem W9 {ps:List AV} {m:Nat}:Hg [.agg ps,.int .i64 (m:Int)]=true↔Ef ps m=true∧m≤1000000:=by
 simp only [Hg,D4,Bool.and_eq_true];exact ⟨fun ⟨h1,h2⟩=>⟨h1,Nat.le_of_ble_eq_true h2⟩,fun ⟨h1,h2⟩=>⟨h1,Nat.ble_eq_true_of_le h2⟩⟩
theorem X0 {ps:List AV} {m j:Nat} (h:Ef ps m=true) (hj:j<m):E2 ps (j*2) [.int .i64,.bool]=true∧isI .i64 ps (j*2)=true∧-9223372036854775808≤xP ps j∧xP ps j≤9223372036854775807:=by
 have:=I5.1 h j hj
 simp only [iU,Bool.and_eq_true,decide_eq_true_eq] at this;refine ⟨this.1,?_,this.2⟩
 have:=this.1
 simp only [E2,Z9,Bool.and_eq_true] at this;exact this.1
def sE (cs:List AV) (k:Nat):Int:=sA cs k+(sN cs k:Int)+sZ cs k
def Ny (cs:List AV):Nat→Int
 | 0=>0
 | i+1=>sE cs i
def I8 (cs:List AV) (k:Nat):Bool:=Ce (sA cs k) (sR cs k) (sN cs k) (sZ cs k)
def J6 (cs:List AV) (k:Nat):Bool:=I8 cs k&&decide (Ny cs k≤sA cs k)
def eS (cs:List AV) (s:Int) (k:Nat):Bool:=!((Cj .i64 (sR cs k) 4:Int)==0)&&(decide (s≥sA cs k)&&decide (s<sE cs k))
def Z1 (cs:List AV) (s:Int):Nat→Bool
 | 0=>false
 | i+1=>Z1 cs s i||eS cs s i
def Kf (ps:List AV):Nat→Int
 | 0=>0
 | j+1=>xP ps j+T2 (hP ps j)
def Y9 (cs:List AV) (n:Nat) (ps:List AV) (j:Nat):Bool:=decide (Kf ps j≤xP ps j)&&decide (R6 cs n (xP ps j) (hP ps j)<n)
theorem dF {cs:List AV} {s:Int} {i:Nat} (h:Z1 cs s i=true):Z1 cs s (i+1)=true:=by simp [Z1,h]
theorem dE {cs:List AV} {s:Int} {i:Nat} (h:Z1 cs s i=false) (h1:((Cj .i64 (sR cs i) 4:Int)==0)=true):Z1 cs s (i+1)=false:=by simp only [Z1,eS,h,h1];rfl
theorem dD {cs:List AV} {s:Int} {i:Nat} (h:Z1 cs s i=false) (h1:((Cj .i64 (sR cs i) 4:Int)==0)=false) (h2:decide (s≥sA cs i)=true):Z1 cs s (i+1)=decide (s<sE cs i):=by simp only [Z1,eS,h,h1,h2];simp
theorem dC {cs:List AV} {s:Int} {i:Nat} (h:Z1 cs s i=false) (h1:((Cj .i64 (sR cs i) 4:Int)==0)=false) (h2:decide (s≥sA cs i)=false):Z1 cs s (i+1)=false:=by simp only [Z1,eS,h,h1,h2];rfl
def X8:List AV→Bool:=fun xs=>match xs with
 | [.agg cs,.int _ n]=>E7 (J6 cs) n.toNat
 | _=>false
def Ac:List AV→Bool:=fun xs=>match xs with
 | [.agg cs,.int _ n,.int _ s]=>Z1 cs s n.toNat
 | _=>false
def Dy:List AV→Bool:=fun xs=>match xs with
 | [.agg cs,.int _ n,.agg ps,.int _ m]=>E7 (Y9 cs n.toNat ps) m.toNat
 | _=>false
theorem Al {cs:List AV} {n:Nat}:X8 [.agg cs,.int .i64 (n:Int)]=E7 (J6 cs) n:=by simp only [X8,D4]
theorem Qv {cs:List AV} {n:Nat} {s:Int}:Ac [.agg cs,.int .i64 (n:Int),.int .i64 s]=Z1 cs s n:=by simp only [Ac,D4]
theorem Ep {cs ps:List AV} {n m:Nat}:Dy [.agg cs,.int .i64 (n:Int),.agg ps,.int .i64 (m:Int)]=E7 (Y9 cs n ps) m:=by simp only [Dy,D4]
theorem Zx {a r z:Int} {n:Nat}:Kq [.int .i64 a,.int .i64 r,.int .i64 (n:Int),.int .i64 z]=Ce a r n z:=by simp only [Kq,D4]
theorem oD {a z:Int} {n:Nat}:upU [.int .i64 a,.int .i64 (n:Int),.int .i64 z]=upF a n z:=by simp only [upU,D4]
theorem Qo {p:Nat→Bool} {n i:Nat} (h:i≤J4 (fun j=>!p j) n):∀ j,j<i→p j=true:=fun j hj=>by
 have:=(F5 (p:=fun j=>!p j) (k:=n)).2.2 j (by omega)
 simpa using this
theorem Ij {p:Nat→Bool} {n i:Nat} (h:i≤J4 (fun j=>!p j) n) (hi:i<n) (hp:p i=true):i<J4 (fun j=>!p j) n:=by
 have:=Aa h hi
 simp only [hp,Bool.not_true] at this
 have:=of_decide_eq_false this.symm
 omega
theorem Ne {p:Nat→Bool} {n i:Nat} (h:i≤J4 (fun j=>!p j) n) (hi:¬i<n):E7 p n=true:=I5.2 fun j hj=>Qo h j (by omega)
def lL (cs:List AV) (n:Nat):Bool:=N8 [.agg cs,.int .i64 (n:Int)]
def Vm (cs:List AV) (n:Nat) (ps:List AV) (m:Nat):Bool:=N8 [.agg cs,.int .i64 (n:Int)]&&(Hg [.agg ps,.int .i64 (m:Int)]&&E7 (J6 cs) n)
def ckQ (G:Nat→List AV) (ks n kp m:Nat) (s:Int):List AV→Bool:=Ko (lL (G ks) n) [.ptr (.rw 0) 0,.int .i64 0,.bool false,.int .i64 0,.slice true (.ro ks) 0 n,.int .i64 (n:Int),.int .i64 0] [some ⟨1,[.int .i64 s,.slice true (.ro ks) 0 n,.slice true (.ro kp) 0 m]⟩]
def ckO (ks n kp m:Nat) (s:Int):LOut:=.tst (.uf 1711 X8 [.agg (.ro (.var 2 ks)),.int .i64 (.ofN (.var 3 n))]) (.one (.exit 0) [.ptr (.rw 0) (.lit 0),.int .i64 (.lit 0),.bool (.uf 1712 Ac [.agg (.ro (.var 2 ks)),.int .i64 (.ofN (.var 3 n)),.int .i64 (.var 1 s)]),.undef,.undef,.undef,.undef] [some ⟨1,.of [.int .i64 (.var 1 s),.slice true (.ro (.var 2 ks)) (.lit 0) (.var 3 n),.slice true (.ro (.var 4 kp)) (.lit 0) (.var 5 m)]⟩]) (.one .ret [.undef,.int .i64 (.lit 2),.undef,.undef,.undef,.undef,.undef] [some ⟨1,.of [.int .i64 (.var 1 s),.slice true (.ro (.var 2 ks)) (.lit 0) (.var 3 n),.slice true (.ro (.var 4 kp)) (.lit 0) (.var 5 m)]⟩])
def cdQ (G:Nat→List AV) (ks n kp m:Nat) (s:Int):List AV→Bool:=Ko (Vm (G ks) n (G kp) m) [.ptr (.rw 0) 0,.int .i64 0,.bool (Ac [.agg (G ks),.int .i64 (n:Int),.int .i64 s]),.int .i64 0,.slice true (.ro kp) 0 m,.int .i64 (m:Int),.int .i64 0] [some ⟨1,[.int .i64 s,.slice true (.ro ks) 0 n,.slice true (.ro kp) 0 m]⟩]
def cdO (ks n kp m:Nat) (s:Int):LOut:=.tst (.uf 1713 Dy [.agg (.ro (.var 2 ks)),.int .i64 (.ofN (.var 3 n)),.agg (.ro (.var 4 kp)),.int .i64 (.ofN (.var 5 m))]) (.one (.exit 2) [.ptr (.rw 0) (.lit 0),.int .i64 (.lit 0),.bool (.uf 1712 Ac [.agg (.ro (.var 2 ks)),.int .i64 (.ofN (.var 3 n)),.int .i64 (.var 1 s)]),.undef,.undef,.undef,.undef] [some ⟨1,.of [.int .i64 (.var 1 s),.slice true (.ro (.var 2 ks)) (.lit 0) (.var 3 n),.slice true (.ro (.var 4 kp)) (.lit 0) (.var 5 m)]⟩]) (.one .ret [.undef,.int .i64 (.lit 2),.undef,.undef,.undef,.undef,.undef] [some ⟨1,.of [.int .i64 (.var 1 s),.slice true (.ro (.var 2 ks)) (.lit 0) (.var 3 n),.slice true (.ro (.var 4 kp)) (.lit 0) (.var 5 m)]⟩])
theorem t20 (G:Nat→List AV) (ks n kp m:Nat) (s:Int) (Q:Ex→List AV→Hp→Prop) (R:AV→Hp→Prop):vT G Q R (H5 (Dc Try.prog [] progIc [(B5 1714 (ckQ G ks n kp m s) 0 98 [1,2,3,4,31,32,33] (ckO ks n kp m s)),(B5 1715 (cdQ G ks n kp m s) 2 98 [1,2,3,4,73,74,75] (cdO ks n kp m s))] 1) 300 20 Try.f20 [.agg (.of [.int .i64 (.var 1 s),.slice true (.ro (.var 2 ks)) (.lit 0) (.var 3 n),.slice true (.ro (.var 4 kp)) (.lit 0) (.var 5 m)])] [] 0)=(
  (decide ((((n:Nat):Int):Int)>8)=true→R (.int .i64 (2)) [])∧(decide ((((n:Nat):Int):Int)>8)=false→(decide ((((m:Nat):Int):Int)>512)=true→R (.int .i64 (2)) [])∧(decide ((((m:Nat):Int):Int)>512)=false→(decide ((s:Int)<0)=true→R (.int .i64 (2)) [])∧(decide ((s:Int)<0)=false→(((Int.tmod (s) (4):Int)==0)=true→(ckQ G ks n kp m s) [.agg ([.ptr (.rw 0) (0),.int .i64 (0),.bool (false),.int .i64 (0),.slice true (.ro (ks)) (0) (n),.int .i64 (((n:Nat):Int)),.int .i64 (0)]:List AV),.agg ([.tup [.int .i64 (1),.agg ([.int .i64 (s),.slice true (.ro (ks)) (0) (n),.slice true (.ro (kp)) (0) (m)]:List AV)]]:List AV)]=true∧(X8 [.agg (G (ks)),.int .i64 (((n:Nat):Int))]=true→(cdQ G ks n kp m s) [.agg ([.ptr (.rw 0) (0),.int .i64 (0),.bool (Ac [.agg (G (ks)),.int .i64 (((n:Nat):Int)),.int .i64 (s)]),.int .i64 (0),.slice true (.ro (kp)) (0) (m),.int .i64 (((m:Nat):Int)),.int .i64 (0)]:List AV),.agg ([.tup [.int .i64 (1),.agg ([.int .i64 (s),.slice true (.ro (ks)) (0) (n),.slice true (.ro (kp)) (0) (m)]:List AV)]]:List AV)]=true∧(Dy [.agg (G (ks)),.int .i64 (((n:Nat):Int)),.agg (G (kp)),.int .i64 (((m:Nat):Int))]=true→(Ac [.agg (G (ks)),.int .i64 (((n:Nat):Int)),.int .i64 (s)]=true→R (.int .i64 (0)) [])∧(Ac [.agg (G (ks)),.int .i64 (((n:Nat):Int)),.int .i64 (s)]=false→R (.int .i64 (2)) []))∧(Dy [.agg (G (ks)),.int .i64 (((n:Nat):Int)),.agg (G (kp)),.int .i64 (((m:Nat):Int))]=false→R (.int .i64 (2)) []))∧(X8 [.agg (G (ks)),.int .i64 (((n:Nat):Int))]=false→R (.int .i64 (2)) []))∧(((Int.tmod (s) (4):Int)==0)=false→R (.int .i64 (2)) []))))):=by kernel_rfl
def maQ (G:Nat→List AV) (ks n kp m:Nat) (s:Int):List AV→Bool:=Ko (lL (G ks) n) [.ptr (.rw 0) 0,.bool false,.bool false,.int .i64 0] [some ⟨1,[.int .i64 s,.slice true (.ro ks) 0 n,.slice true (.ro kp) 0 m]⟩]
def maO (ks n kp m:Nat) (s:Int):LOut:=.tst (.uf 1711 X8 [.agg (.ro (.var 2 ks)),.int .i64 (.ofN (.var 3 n))]) (.one (.exit 0) [.ptr (.rw 0) (.lit 0),.bool (.lit false),.bool (.uf 1712 Ac [.agg (.ro (.var 2 ks)),.int .i64 (.ofN (.var 3 n)),.int .i64 (.var 1 s)]),.undef] [some ⟨1,.of [.int .i64 (.var 1 s),.slice true (.ro (.var 2 ks)) (.lit 0) (.var 3 n),.slice true (.ro (.var 4 kp)) (.lit 0) (.var 5 m)]⟩]) (.one .ret [.undef,.bool (.lit false),.undef,.undef] [some ⟨1,.of [.int .i64 (.var 1 s),.slice true (.ro (.var 2 ks)) (.lit 0) (.var 3 n),.slice true (.ro (.var 4 kp)) (.lit 0) (.var 5 m)]⟩])
def mdQ (G:Nat→List AV) (ks n kp m:Nat) (s:Int):List AV→Bool:=Ko (Vm (G ks) n (G kp) m) [.ptr (.rw 0) 0,.bool false,.bool (Ac [.agg (G ks),.int .i64 (n:Int),.int .i64 s]),.int .i64 0] [some ⟨1,[.int .i64 s,.slice true (.ro ks) 0 n,.slice true (.ro kp) 0 m]⟩]
def mdO (ks n kp m:Nat) (s:Int):LOut:=.tst (.uf 1713 Dy [.agg (.ro (.var 2 ks)),.int .i64 (.ofN (.var 3 n)),.agg (.ro (.var 4 kp)),.int .i64 (.ofN (.var 5 m))]) (.one (.exit 2) [.ptr (.rw 0) (.lit 0),.bool (.lit false),.bool (.uf 1712 Ac [.agg (.ro (.var 2 ks)),.int .i64 (.ofN (.var 3 n)),.int .i64 (.var 1 s)]),.undef] [some ⟨1,.of [.int .i64 (.var 1 s),.slice true (.ro (.var 2 ks)) (.lit 0) (.var 3 n),.slice true (.ro (.var 4 kp)) (.lit 0) (.var 5 m)]⟩]) (.one .ret [.undef,.bool (.lit false),.undef,.undef] [some ⟨1,.of [.int .i64 (.var 1 s),.slice true (.ro (.var 2 ks)) (.lit 0) (.var 3 n),.slice true (.ro (.var 4 kp)) (.lit 0) (.var 5 m)]⟩])
theorem t21 (G:Nat→List AV) (ks n kp m:Nat) (s:Int) (Q:Ex→List AV→Hp→Prop) (R:AV→Hp→Prop):vT G Q R (H5 (Dc Try.prog [] progIc [(B5 1716 (maQ G ks n kp m s) 0 130 [1,2,3,4] (maO ks n kp m s)),(B5 1717 (mdQ G ks n kp m s) 2 130 [1,2,3,6] (mdO ks n kp m s))] 1) 300 20 Try.f21 [.agg (.of [.int .i64 (.var 1 s),.slice true (.ro (.var 2 ks)) (.lit 0) (.var 3 n),.slice true (.ro (.var 4 kp)) (.lit 0) (.var 5 m)])] [] 0)=(
  (decide ((((n:Nat):Int):Int)>8)=true→R (.bool (false)) [])∧(decide ((((n:Nat):Int):Int)>8)=false→(decide ((((m:Nat):Int):Int)>512)=true→R (.bool (false)) [])∧(decide ((((m:Nat):Int):Int)>512)=false→(decide ((s:Int)<0)=true→R (.bool (false)) [])∧(decide ((s:Int)<0)=false→(((Int.tmod (s) (4):Int)==0)=true→(maQ G ks n kp m s) [.agg ([.ptr (.rw 0) (0),.bool (false),.bool (false),.int .i64 (0)]:List AV),.agg ([.tup [.int .i64 (1),.agg ([.int .i64 (s),.slice true (.ro (ks)) (0) (n),.slice true (.ro (kp)) (0) (m)]:List AV)]]:List AV)]=true∧(X8 [.agg (G (ks)),.int .i64 (((n:Nat):Int))]=true→(mdQ G ks n kp m s) [.agg ([.ptr (.rw 0) (0),.bool (false),.bool (Ac [.agg (G (ks)),.int .i64 (((n:Nat):Int)),.int .i64 (s)]),.int .i64 (0)]:List AV),.agg ([.tup [.int .i64 (1),.agg ([.int .i64 (s),.slice true (.ro (ks)) (0) (n),.slice true (.ro (kp)) (0) (m)]:List AV)]]:List AV)]=true∧(Dy [.agg (G (ks)),.int .i64 (((n:Nat):Int)),.agg (G (kp)),.int .i64 (((m:Nat):Int))]=true→R (.bool (Ac [.agg (G (ks)),.int .i64 (((n:Nat):Int)),.int .i64 (s)])) [])∧(Dy [.agg (G (ks)),.int .i64 (((n:Nat):Int)),.agg (G (kp)),.int .i64 (((m:Nat):Int))]=false→R (.bool (false)) []))∧(X8 [.agg (G (ks)),.int .i64 (((n:Nat):Int))]=false→R (.bool (false)) []))∧(((Int.tmod (s) (4):Int)==0)=false→R (.bool (false)) []))))):=by kernel_rfl
end Go.Am
namespace Go.Am
open Go.Proofs
set_option maxRecDepth 100000
theorem qE {cs:List AV} {x:Int} {h:Bool} {k:Nat} (hs:I8 cs k=true) (hx:0≤x∧x≤9223372036854775807):Lm cs x h k=Fo cs x h k:=by
 have hs:=E5.1 hs;have hw:2≤T2 h∧T2 h≤4:=by unfold T2;split<;>omega
 unfold Lm Fo;by_cases h1:sA cs k≤x
 ·rw [decide_eq_true h1,Bool.true_and,Bool.true_and,B3 (n:=x - sA cs k) (by omega),B3 (n:=(sN cs k:Int) - T2 h) (by omega),B3 (n:=sA cs k+(sN cs k:Int)) (by omega)];by_cases h2:x≤8192
  ·rw [decide_eq_true h2,Bool.true_and,B3 (n:=x+T2 h) (by omega),Bool.eq_iff_iff,decide_eq_true_iff,decide_eq_true_iff];omega
  ·rw [decide_eq_false h2,Bool.false_and];exact decide_eq_false (by omega)
 ·rw [decide_eq_false h1,Bool.false_and,Bool.false_and]
theorem cW {p q:Nat→Bool} {n:Nat} (h:∀ j,j<n→p j=q j):J4 p n=J4 q n:=by
 obtain ⟨a1,a2,a3⟩:=F5 (p:=p) (k:=n);obtain ⟨b1,b2,b3⟩:=F5 (p:=q) (k:=n);rcases Nat.lt_trichotomy (J4 p n) (J4 q n) with h1 | h1 | h1
 ·have:=a2 (by omega);rw [h _ (by omega),b3 _ h1] at this;simp at this
 ·exact h1
 ·have:=b2 (by omega);rw [←h _ (by omega),a3 _ h1] at this;simp at this
theorem Yi {cs:List AV} {n:Nat} {x:Int} {h:Bool} (hs:E7 (J6 cs) n=true) (hx:0≤x∧x≤9223372036854775807):R6 cs n x h=inN cs n x h:=cW fun j hj=>qE (by have:=I5.1 hs j hj;unfold J6 at this;rw [Bool.and_eq_true] at this;exact this.1) hx
theorem gL {cs:List AV} {n:Nat} {x:Int} {h:Bool} (hs:E7 (J6 cs) n=true) (hx:0≤x∧x≤9223372036854775807) (hd:R6 cs n x h<n):x≤8192:=by
 rw [Yi hs hx] at hd
 have:=(F5 (p:=Fo cs x h) (k:=n)).2.1 hd
 unfold Fo at this;simp only [Bool.and_eq_true,decide_eq_true_eq] at this;exact this.2.1
theorem kV {cs ps:List AV} {n m i:Nat} (hs:E7 (J6 cs) n=true) (hp:Ef ps m=true):i≤m→(∀ j,j<i→Y9 cs n ps j=true)→0≤Kf ps i∧Kf ps i≤8200:=by
 induction i with
 | zero=>intro _ _;exact ⟨Int.le_refl _,by show (0:Int)≤8200;omega⟩
 | succ i ih=>
  intro hi h;have ih:=ih (by omega) fun j hj=>h j (by omega)
  have:=h i (by omega)
  unfold Y9 at this;simp only [Bool.and_eq_true,decide_eq_true_eq] at this;have hx:=(X0 hp (j:=i) (by omega)).2.2
  have:=gL hs (by omega) this.2
  have hw:2≤T2 (hP ps i)∧T2 (hP ps i)≤4:=by unfold T2;split<;>omega
  show 0≤xP ps i+T2 (hP ps i)∧xP ps i+T2 (hP ps i)≤8200;omega
theorem szE {cs:List AV} {i:Nat} (h:I8 cs i=true):IntKind.wrap .i64 (sA cs i+Tn (sN cs i) (sZ cs i))=sE cs i:=by
 have:=E5.1 h
 have e:Tn (sN cs i) (sZ cs i)=(sN cs i:Int)+sZ cs i:=B3 (by omega);rw [e,B3 (by omega)];unfold sE;omega
theorem rszE {cs:List AV} {i:Nat} (h:I8 cs i=true):IntKind.wrap .i64 (sA cs i+Cf (sN cs i) (sZ cs i))=sE cs i:=by
 have:=E5.1 h
 have e:Cf (sN cs i) (sZ cs i)=(sN cs i:Int)+sZ cs i:=if_pos ⟨by omega,by omega,by omega⟩;rw [e,B3 (by omega)];unfold sE;omega
theorem rA (G:Nat→List AV) (B:Nat) (ks n kp m:Nat) (s:Int):G4 (⟨Try.prog,G,B⟩:A1) 1 (loopN Try.f20 0) (B5 1714 (ckQ G ks n kp m s) 0 98 [1,2,3,4,31,32,33] (ckO ks n kp m s)):=by
 refine Cv rfl fun hc=>?_;obtain ⟨hk,hn⟩:=J5.1 hc;refine R3 (J4 (fun j=>!J6 (G ks) j) n) (fun i=>[.ptr (.rw 0) 0,.int .i64 0,.bool (Z1 (G ks) s i),.int .i64 (Ny (G ks) i),.slice true (.ro ks) 0 n,.int .i64 (n:Int),.int .i64 (i:Int)]) (fun _=>[some ⟨1,[.int .i64 s,.slice true (.ro ks) 0 n,.slice true (.ro kp) 0 m]⟩]) fun i hi=>?_;have hle:J4 (fun j=>!J6 (G ks) j) n≤n:=F5.1
 refine C4 (C:=(⟨Try.prog,G,B⟩:A1)) (by rw [show A3 (loopN Try.f20 0)=[] by kernel_rfl];exact C8 (inl:=[]) (ls:=[]) (M:=1) (D0 G B) (by kernel_rfl) (I1 G B) .nil) (fuel:=300) (n0:=20) (m:=1) (c:=loopN Try.f20 0) (vs:=[.ptr (.rw 0) (.lit 0),.int .i64 (.lit 0),.bool (.var 9 (Z1 (G ks) s i)),.int .i64 (.var 10 (Ny (G ks) i)),.slice true (.ro (.var 2 ks)) (.lit 0) (.var 3 n),.int .i64 (.ofN (.var 3 n)),.int .i64 (.ofN (.var 8 i))]) (H:=[some ⟨1,.of [.int .i64 (.var 1 s),.slice true (.ro (.var 2 ks)) (.lit 0) (.var 3 n),.slice true (.ro (.var 4 kp)) (.lit 0) (.var 5 m)]⟩]) (by simp) ?_
 rw [ck_b];have fb:I7 1 [some ⟨1,[.int .i64 s,.slice true (.ro ks) 0 n,.slice true (.ro kp) 0 m]⟩]=true:=by simp [I7,A6,B1]
 refine ⟨fun h1=>?_,fun h1=>?_⟩
 ·have h1':=of_decide_eq_true h1;have hin:i<n:=by omega
  rw [B3 (n:=(i:Int)+1) (by omega),Zx,eO]
  have no:J6 (G ks) i=false→¬X8 [.agg (G ks),.int .i64 (n:Int)]=true:=fun h=>by
   rw [Al,Ae hin h];simp
  have nof:J6 (G ks) i=false→X8 [.agg (G ks),.int .i64 (n:Int)]=false:=fun h=>by
   rw [Al,Ae hin h]
  refine ⟨decide_eq_true (by omega),h1,M5 hk hin,fun h2=>?_,fun h2=>?_⟩
  ·have h2':I8 (G ks) i=true:=h2;have e:=szE h2';unfold sA sN sZ at e;rw [e];refine ⟨fun h3=>?_,fun h3=>?_⟩
   ·refine .inr ⟨nof ?_,rfl,.inr (B4.same (H:=[some ⟨1,[.int .i64 s,.slice true (.ro ks) 0 n,.slice true (.ro kp) 0 m]⟩]) (by simp) fb (by simp [fv,B1,vVs,vV,vI]))⟩;have h3:A0 (G ks) (i*4)<Ny (G ks) i:=of_decide_eq_true h3;unfold J6;rw [h2',decide_eq_false (by unfold sA;omega)];rfl
   ·have h3:¬A0 (G ks) (i*4)<Ny (G ks) i:=of_decide_eq_false h3;have lt:=Ij hi hin (by unfold J6;rw [h2',decide_eq_true (by unfold sA;omega)];rfl);refine ⟨fun w1=>?_,fun w1=>⟨fun g1=>?_,fun g1=>⟨fun g2=>?_,fun g2=>?_⟩⟩⟩
    ·exact ⟨lt,.inr (B4.same (H:=[some ⟨1,[.int .i64 s,.slice true (.ro ks) 0 n,.slice true (.ro kp) 0 m]⟩]) (by simp) fb (by simp [fv,B1,A6,dF w1,Ny]))⟩
    ·exact ⟨lt,.inr (B4.same (H:=[some ⟨1,[.int .i64 s,.slice true (.ro ks) 0 n,.slice true (.ro kp) 0 m]⟩]) (by simp) fb (by simp [fv,B1,A6,dE w1 g1,Ny]))⟩
    ·exact ⟨lt,.inr (B4.same (H:=[some ⟨1,[.int .i64 s,.slice true (.ro ks) 0 n,.slice true (.ro kp) 0 m]⟩]) (by simp) fb (by simp [fv,B1,A6,dD w1 g1 g2,Ny]))⟩
    ·exact ⟨lt,.inr (B4.same (H:=[some ⟨1,[.int .i64 s,.slice true (.ro ks) 0 n,.slice true (.ro kp) 0 m]⟩]) (by simp) fb (by simp [fv,B1,A6,dC w1 g1 g2,Ny]))⟩
  ·refine .inr ⟨nof ?_,rfl,.inr (B4.same (H:=[some ⟨1,[.int .i64 s,.slice true (.ro ks) 0 n,.slice true (.ro kp) 0 m]⟩]) (by simp) fb (by simp [fv,B1,vVs,vV,vI]))⟩;have h2':I8 (G ks) i=false:=h2;unfold J6;rw [h2'];rfl
 ·have h1':=of_decide_eq_false h1;have e:i=n:=by omega
  refine .inl ⟨?_,rfl,.inl ⟨?_,rfl⟩⟩
  ·show X8 [.agg (G ks),.int .i64 (n:Int)]=true;rw [Al];exact Ne hi (by omega)
  ·show wk [.ptr (.rw 0) 0,.int .i64 0,.bool (Ac [.agg (G ks),.int .i64 (n:Int),.int .i64 s]),.undef,.undef,.undef,.undef] _;rw [Qv,←e];simp [wk]
end Go.Am
