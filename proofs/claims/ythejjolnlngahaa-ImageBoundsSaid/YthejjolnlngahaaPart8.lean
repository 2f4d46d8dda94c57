/-
  Images: the section in which a place lies. Images: which may be: the trees.
-/
import Derived.Test.YthejjolnlngahaaPart7
namespace Go.Am
open Go.Proofs
set_option maxRecDepth 100000
def sA (cs:List AV) (k:Nat):Int:=A8 cs (k*4)
def sR (cs:List AV) (k:Nat):Int:=A8 cs (k*4+1)
def sN (cs:List AV) (k:Nat):Nat:=N2 cs (k*4+2)
def sZ (cs:List AV) (k:Nat):Int:=A8 cs (k*4+3)
def Hn (cs:List AV) (n:Nat):Bool:=I5 (fun k=>H8 cs (k*4) [.int .i64,.int .i64,.sl,.int .i64]) n
theorem Hm {cs:List AV} {n k:Nat} (h:Hn cs n=true) (hk:k<n):H8 cs (k*4) [.int .i64,.int .i64,.sl,.int .i64]=true:=T6.1 h k hk
theorem aI {cs:List AV} {n k:Nat} (h:Hn cs n=true) (hk:k<n):isI .i64 cs (k*4)=true∧Ph cs (k*4+2)=true:=by
 have:=Hm h hk
 simp only [H8,Bj,Bool.and_eq_true] at this;exact ⟨this.1,this.2.2.1⟩
def Df (cs:List AV) (x:Int) (h:Bool) (k:Nat):Bool:=decide (sA cs k≤x)&&decide (IntKind.wrap .i64 (x - sA cs k)≤IntKind.wrap .i64 ((sN cs k:Int) - O4 h))
def De (cs:List AV) (x:Int) (h:Bool) (k:Nat):Bool:=decide (sA cs k≤x)&&(decide (x≤8192)&&decide (IntKind.wrap .i64 (x+O4 h)≤IntKind.wrap .i64 (sA cs k+(sN cs k:Int))))
def O1 (cs:List AV) (n:Nat) (x:Int) (h:Bool):Nat:=K1 (Df cs x h) n
def inN (cs:List AV) (n:Nat) (x:Int) (h:Bool):Nat:=K1 (De cs x h) n
def Ui (cs:List AV) (n:Nat) (x:Int) (h:Bool):Int:=if inN cs n x h<n then (inN cs n x h:Int) else -1
def U8:List AV→Nat:=fun xs=>match xs with
 | [.agg cs,.int _ n,.int _ x,.bool h]=>O1 cs n.toNat x h
 | _=>0
def Ii:List AV→Int:=fun xs=>match xs with
 | [.agg cs,.int _ n,.int _ x,.bool h]=>Ui cs n.toNat x h
 | _=>0
def T9:List AV→Bool:=fun xs=>match xs with
 | [.agg cs,.int _ n]=>Hn cs n.toNat&&Nat.ble n.toNat 1000000
 | _=>false
theorem W6 {cs:List AV} {n:Nat}:T9 [.agg cs,.int .i64 (n:Int)]=true↔Hn cs n=true∧n≤1000000:=by
 simp only [T9,K3,Bool.and_eq_true];exact ⟨fun ⟨h1,h2⟩=>⟨h1,Nat.le_of_ble_eq_true h2⟩,fun ⟨h1,h2⟩=>⟨h1,Nat.ble_eq_true_of_le h2⟩⟩
def dtQ (G:Nat→List AV) (ks n:Nat) (x:Int) (h:Bool):List AV→Bool:=Qj (T9 [.agg (G ks),.int .i64 (n:Int)]) [.slice true (.ro ks) 0 n,.ptr (.rw 0) 0,.nilp,.int .i64 (n:Int),.int .i64 0] [some ⟨1,[.int .i64 x,.bool h]⟩]
def dtO (ks n:Nat) (x:Int) (h:Bool):LOut:=.tst (.cmp .lss (.ofN (.uf 1707 U8 [.agg (.ro (.var 2 ks)),.int .i64 (.ofN (.var 3 n)),.int .i64 (.var 6 x),.bool (.var 7 h)])) (.ofN (.var 3 n))) (.one .ret [.undef,.undef,.ptr (.ro (.var 2 ks)) (.mul (.uf 1707 U8 [.agg (.ro (.var 2 ks)),.int .i64 (.ofN (.var 3 n)),.int .i64 (.var 6 x),.bool (.var 7 h)]) 4),.undef,.undef] [some ⟨1,.of [.int .i64 (.var 6 x),.bool (.var 7 h)]⟩]) (.one (.exit 0) [.undef,.undef,.nilp,.undef,.undef] [some ⟨1,.of [.int .i64 (.var 6 x),.bool (.var 7 h)]⟩])
theorem t34 (G:Nat→List AV) (ks n:Nat) (x:Int) (h:Bool) (Q:Ex→List AV→Hp→Prop) (R:AV→Hp→Prop):vT G Q R (Z0 (Dc Try.prog [] [] [(Z7 1706 (dtQ G ks n x h) 0 42 [0,3,4,8,9] (dtO ks n x h))] 1) 300 20 Try.f34 [.slice true (.ro (.var 2 ks)) (.lit 0) (.var 3 n),.agg (.of [.int .i64 (.var 6 x),.bool (.var 7 h)])] [] 0)=(
  (dtQ G ks n x h) [.agg ([.slice true (.ro (ks)) (0) (n),.ptr (.rw 0) (0),.nilp,.int .i64 (((n:Nat):Int)),.int .i64 (0)]:List AV),.agg ([.tup [.int .i64 (1),.agg ([.int .i64 (x),.bool (h)]:List AV)]]:List AV)]=true∧(decide ((((U8 [.agg (G (ks)),.int .i64 (((n:Nat):Int)),.int .i64 (x),.bool (h)]:Nat):Int):Int)<((n:Nat):Int))=true→R (.ptr (.ro (ks)) ((U8 [.agg (G (ks)),.int .i64 (((n:Nat):Int)),.int .i64 (x),.bool (h)])*4)) [])∧(decide ((((U8 [.agg (G (ks)),.int .i64 (((n:Nat):Int)),.int .i64 (x),.bool (h)]:Nat):Int):Int)<((n:Nat):Int))=false→R (.nilp) [])):=by kernel_rfl
def inQ (G:Nat→List AV) (ks n kp m:Nat) (s x:Int) (h:Bool):List AV→Bool:=Qj (T9 [.agg (G ks),.int .i64 (n:Int)]) [.ptr (.rw 0) 0,.ptr (.rw 1) 0,.int .i64 0,.int .i64 0] [some ⟨1,[.int .i64 s,.slice true (.ro ks) 0 n,.slice true (.ro kp) 0 m]⟩,some ⟨1,[.int .i64 x,.bool h]⟩]
def inO (ks n kp m:Nat) (s x:Int) (h:Bool):LOut:=.tst (.cmp .eql (.uf 1709 Ii [.agg (.ro (.var 2 ks)),.int .i64 (.ofN (.var 3 n)),.int .i64 (.var 6 x),.bool (.var 7 h)]) (.lit (-1))) (.one (.exit 0) [.undef,.undef,.undef,.undef] [some ⟨1,.of [.int .i64 (.var 1 s),.slice true (.ro (.var 2 ks)) (.lit 0) (.var 3 n),.slice true (.ro (.var 4 kp)) (.lit 0) (.var 5 m)]⟩,some ⟨1,.of [.int .i64 (.var 6 x),.bool (.var 7 h)]⟩]) (.one .ret [.undef,.undef,.int .i64 (.uf 1709 Ii [.agg (.ro (.var 2 ks)),.int .i64 (.ofN (.var 3 n)),.int .i64 (.var 6 x),.bool (.var 7 h)]),.undef] [some ⟨1,.of [.int .i64 (.var 1 s),.slice true (.ro (.var 2 ks)) (.lit 0) (.var 3 n),.slice true (.ro (.var 4 kp)) (.lit 0) (.var 5 m)]⟩,some ⟨1,.of [.int .i64 (.var 6 x),.bool (.var 7 h)]⟩])
theorem t37 (G:Nat→List AV) (ks n kp m:Nat) (s x:Int) (h:Bool) (Q:Ex→List AV→Hp→Prop) (R:AV→Hp→Prop):vT G Q R (Z0 (Dc Try.prog [] [] [(Z7 1708 (inQ G ks n kp m s x h) 0 44 [2,3,4,5] (inO ks n kp m s x h))] 2) 300 20 Try.f37 [.agg (.of [.int .i64 (.var 1 s),.slice true (.ro (.var 2 ks)) (.lit 0) (.var 3 n),.slice true (.ro (.var 4 kp)) (.lit 0) (.var 5 m)]),.agg (.of [.int .i64 (.var 6 x),.bool (.var 7 h)])] [] 0)=(
  (inQ G ks n kp m s x h) [.agg ([.ptr (.rw 0) (0),.ptr (.rw 1) (0),.int .i64 (0),.int .i64 (0)]:List AV),.agg ([.tup [.int .i64 (1),.agg ([.int .i64 (s),.slice true (.ro (ks)) (0) (n),.slice true (.ro (kp)) (0) (m)]:List AV)],.tup [.int .i64 (1),.agg ([.int .i64 (x),.bool (h)]:List AV)]]:List AV)]=true∧(((Ii [.agg (G (ks)),.int .i64 (((n:Nat):Int)),.int .i64 (x),.bool (h)]:Int)==(-1))=true→R (.int .i64 ((-1))) [])∧(((Ii [.agg (G (ks)),.int .i64 (((n:Nat):Int)),.int .i64 (x),.bool (h)]:Int)==(-1))=false→R (.int .i64 (Ii [.agg (G (ks)),.int .i64 (((n:Nat):Int)),.int .i64 (x),.bool (h)])) [])):=by kernel_rfl
theorem Ip {p:Nat→Bool} {n i:Nat} (h1:i≤K1 p n) (h2:i<n):p i=decide (i=K1 p n):=by
 obtain ⟨g1,g2,g3⟩:=L6 (p:=p) (k:=n);by_cases e:i=K1 p n
 ·rw [decide_eq_true e,e];exact g2 (by omega)
 ·rw [decide_eq_false e];exact g3 i (by omega)
theorem Al {cs:List AV} {n:Nat} {x:Int} {h:Bool}:U8 [.agg cs,.int .i64 (n:Int),.int .i64 x,.bool h]=O1 cs n x h:=by simp only [U8,K3]
theorem Ih {cs:List AV} {n:Nat} {x:Int} {h:Bool}:Ii [.agg cs,.int .i64 (n:Int),.int .i64 x,.bool h]=Ui cs n x h:=by simp only [Ii,K3]
theorem lN (G:Nat→List AV) (B:Nat) (ks n:Nat) (x:Int) (h:Bool):X5 (⟨Try.prog,G,B⟩:Ctx) 1 (G2 Try.f34 0) (Z7 1706 (dtQ G ks n x h) 0 42 [0,3,4,8,9] (dtO ks n x h)):=by
 refine Kn rfl fun hc=>?_;obtain ⟨hk,hn⟩:=W6.1 hc;have hle:O1 (G ks) n x h≤n:=L6.1;refine Ov (O1 (G ks) n x h) (fun i=>[.slice true (.ro ks) 0 n,.ptr (.rw 0) 0,.nilp,.int .i64 (n:Int),.int .i64 (i:Int)]) (fun _=>[some ⟨1,[.int .i64 x,.bool h]⟩]) fun i hi=>?_
 refine Ak (C:=(⟨Try.prog,G,B⟩:Ctx)) (by rw [show C3 (G2 Try.f34 0)=[] by kernel_rfl];exact U3 (inl:=[]) (ls:=[]) (M:=1) (Af G B) (by kernel_rfl) (Dv G B) .nil) (fuel:=300) (n0:=20) (m:=1) (c:=G2 Try.f34 0) (vs:=[.slice true (.ro (.var 2 ks)) (.lit 0) (.var 3 n),.ptr (.rw 0) (.lit 0),.nilp,.int .i64 (.ofN (.var 3 n)),.int .i64 (.ofN (.var 8 i))]) (H:=[some ⟨1,.of [.int .i64 (.var 6 x),.bool (.var 7 h)]⟩]) (by simp) ?_;rw [dt_b];have fb:Z9 1 [some ⟨1,[.int .i64 x,.bool h]⟩]=true:=by simp [Z9,D1,B4]
 have key:i<n→Df (G ks) x h i=decide (i=O1 (G ks) n x h):=fun h2=>Ip hi h2;simp only [Df,sA,sN] at key
 have nx:Df (G ks) x h i=false→i<n→i<O1 (G ks) n x h:=fun h1 h2=>by
  have:=Ip hi h2
  rw [h1] at this
  have:=of_decide_eq_false this.symm
  unfold O1 at *;omega
 refine ⟨fun h1=>?_,fun h1=>?_⟩
 ·have h1':=of_decide_eq_true h1;have hin:i<n:=by omega
  obtain ⟨t1,t2⟩:=aI hk hin;rw [G8 (n:=(i:Int)+1) (by omega)];refine ⟨decide_eq_true (by omega),h1,t1,fun h2=>⟨t1,t2,fun h3=>?_,fun h3=>?_⟩,fun h2=>?_⟩
  ·have e:i=O1 (G ks) n x h:=of_decide_eq_true (by rw [←key hin,Bool.and_eq_true];exact ⟨h2,h3⟩);refine .inl ⟨?_,rfl,.inr ?_⟩
   ·show decide (((U8 [.agg (G ks),.int .i64 (n:Int),.int .i64 x,.bool h]:Nat):Int)<(n:Int))=true;rw [Al,←e];exact h1
   ·refine E1.same (H:=[some ⟨1,[.int .i64 x,.bool h]⟩]) (by simp) fb ?_;show fv 1 [.undef,.undef,.ptr (.ro ks) (U8 [.agg (G ks),.int .i64 (n:Int),.int .i64 x,.bool h]*4),.undef,.undef] _;rw [Al,←e];simp [fv,B4]
  ·exact ⟨nx (by unfold Df sA sN;rw [Bool.and_eq_false_iff];exact .inr h3) hin,.inr (E1.same (H:=[some ⟨1,[.int .i64 x,.bool h]⟩]) (by simp) fb (by simp [fv,B4,D1]))⟩
  ·exact ⟨nx (by unfold Df sA sN;rw [Bool.and_eq_false_iff];exact .inl h2) hin,.inr (E1.same (H:=[some ⟨1,[.int .i64 x,.bool h]⟩]) (by simp) fb (by simp [fv,B4,D1]))⟩
 ·have h1':=of_decide_eq_false h1;refine .inr ⟨?_,rfl,.inl ⟨by simp [vVs,vV,wk],rfl⟩⟩;show decide (((U8 [.agg (G ks),.int .i64 (n:Int),.int .i64 x,.bool h]:Nat):Int)<(n:Int))=false;rw [Al];exact decide_eq_false (by omega)
theorem ACalls.drop0 {C:Ctx} {f:FuncId} {args:List AV} {v0:AV} (h:ACalls C f args [] fun v _=>v=v0) (hb:B4 0 v0=true) (hu:v0≠.undef):ACalls C f args [] fun v H=>v=v0∧H=[]:=by
 refine h.view fun v H' hj=>⟨v0,[],⟨rfl,rfl⟩,?_⟩;subst hj;exact E1.same (H:=[]) (G:=H') (by simp) rfl (by simp [fv,hb])
theorem gL (G:Nat→List AV) (B:Nat) (ks n:Nat) (x:Int) (h:Bool) (hk:T9 [.agg (G ks),.int .i64 (n:Int)]=true):ACalls (⟨Try.prog,G,B⟩:Ctx) 34 [.slice true (.ro ks) 0 n,.agg [.int .i64 x,.bool h]] [] fun v H=>v=(if O1 (G ks) n x h<n then .ptr (.ro ks) (O1 (G ks) n x h*4) else .nilp)∧H=[]:=by
 have:=O0 (C:=(⟨Try.prog,G,B⟩:Ctx)) (fuel:=300) (n0:=20) (f:=34) (fn:=Try.f34) (args:=[.slice true (.ro (.var 2 ks)) (.lit 0) (.var 3 n),.agg (.of [.int .i64 (.var 6 x),.bool (.var 7 h)])]) (H:=[]) (keep:=0)
  (R:=fun v _=>v=(if O1 (G ks) n x h<n then .ptr (.ro ks) (O1 (G ks) n x h*4) else .nilp)) (U3 (inl:=[]) (ls:=[(Z7 1706 (dtQ G ks n x h) 0 42 [0,3,4,8,9] (dtO ks n x h))]) (M:=1) (Af G B) (by kernel_rfl) .nil (.cast (.cons (i:=0) (by kernel_rfl) rfl (lN G B ks n x h) .nil) (by kernel_rfl))) (by kernel_rfl) (by kernel_rfl) (by kernel_rfl) (by
  rw [t34];refine ⟨Fu hk rfl rfl,fun e=>?_,fun e=>?_⟩
  ·rw [Al] at *;have:((O1 (G ks) n x h:Nat):Int)<(n:Int):=of_decide_eq_true e;exact (if_pos (by omega)).symm
  ·rw [Al] at *;have:¬((O1 (G ks) n x h:Nat):Int)<(n:Int):=of_decide_eq_false e;exact (if_neg (by omega)).symm)
 refine ACalls.drop0 this ?_ ?_<;>split<;>simp [B4]
theorem lB (G:Nat→List AV) (B:Nat) (ks n kp m:Nat) (s x:Int) (h:Bool):X5 (⟨Try.prog,G,B⟩:Ctx) 2 (G2 Try.f37 0) (Z7 1708 (inQ G ks n kp m s x h) 0 44 [2,3,4,5] (inO ks n kp m s x h)):=by
 refine Kn rfl fun hc=>?_;obtain ⟨hk,hn⟩:=W6.1 hc;have hle:inN (G ks) n x h≤n:=L6.1;refine Ov (inN (G ks) n x h) (fun i=>[.ptr (.rw 0) 0,.ptr (.rw 1) 0,.int .i64 0,.int .i64 (i:Int)]) (fun _=>[some ⟨1,[.int .i64 s,.slice true (.ro ks) 0 n,.slice true (.ro kp) 0 m]⟩,some ⟨1,[.int .i64 x,.bool h]⟩]) fun i hi=>?_
 refine Ak (C:=(⟨Try.prog,G,B⟩:Ctx)) (by rw [show C3 (G2 Try.f37 0)=[] by kernel_rfl];exact U3 (inl:=[]) (ls:=[]) (M:=2) (Af G B) (by kernel_rfl) (Dv G B) .nil) (fuel:=300) (n0:=20) (m:=2) (c:=G2 Try.f37 0) (vs:=[.ptr (.rw 0) (.lit 0),.ptr (.rw 1) (.lit 0),.int .i64 (.lit 0),.int .i64 (.ofN (.var 8 i))]) (H:=[some ⟨1,.of [.int .i64 (.var 1 s),.slice true (.ro (.var 2 ks)) (.lit 0) (.var 3 n),.slice true (.ro (.var 4 kp)) (.lit 0) (.var 5 m)]⟩,some ⟨1,.of [.int .i64 (.var 6 x),.bool (.var 7 h)]⟩]) (by simp) ?_;rw [in_b]
 have fb:Z9 2 [some ⟨1,[.int .i64 s,.slice true (.ro ks) 0 n,.slice true (.ro kp) 0 m]⟩,some ⟨1,[.int .i64 x,.bool h]⟩]=true:=by simp [Z9,D1,B4]
 have key:i<n→De (G ks) x h i=decide (i=inN (G ks) n x h):=fun h2=>Ip hi h2;simp only [De,sA,sN] at key
 have nx:De (G ks) x h i=false→i<n→i<inN (G ks) n x h:=fun h1 h2=>by
  have:=Ip hi h2
  rw [h1] at this
  have:=of_decide_eq_false this.symm
  unfold inN at *;omega
 refine ⟨fun h1=>?_,fun h1=>?_⟩
 ·have h1':=of_decide_eq_true h1;have hin:i<n:=by omega
  rw [G8 (n:=(i:Int)+1) (by omega)];refine ⟨decide_eq_true (by omega),h1,Hm hk hin,fun h2=>⟨fun h3=>⟨fun h4=>?_,fun h4=>?_⟩,fun h3=>?_⟩,fun h2=>?_⟩
  ·have e:i=inN (G ks) n x h:=of_decide_eq_true (by rw [←key hin,Bool.and_eq_true,Bool.and_eq_true];exact ⟨h2,h3,h4⟩);have e2:Ui (G ks) n x h=(i:Int):=by unfold Ui;rw [←e,if_pos hin]
   refine .inr ⟨?_,rfl,.inr ?_⟩
   ·show (Ii [.agg (G ks),.int .i64 (n:Int),.int .i64 x,.bool h]==(-1:Int))=false;rw [Ih,e2];exact beq_eq_false_iff_ne.2 (by omega)
   ·refine E1.same (H:=[some ⟨1,[.int .i64 s,.slice true (.ro ks) 0 n,.slice true (.ro kp) 0 m]⟩,some ⟨1,[.int .i64 x,.bool h]⟩]) (by simp) fb ?_;show fv 2 [.undef,.undef,.int .i64 (Ii [.agg (G ks),.int .i64 (n:Int),.int .i64 x,.bool h]),.undef] _;rw [Ih,e2];simp [fv,B4]
  ·exact ⟨nx (by unfold De sA sN;rw [Bool.and_eq_false_iff,Bool.and_eq_false_iff];exact .inr (.inr h4)) hin,.inr (E1.same (H:=[some ⟨1,[.int .i64 s,.slice true (.ro ks) 0 n,.slice true (.ro kp) 0 m]⟩,some ⟨1,[.int .i64 x,.bool h]⟩]) (by simp) fb (by simp [fv,B4,D1]))⟩
  ·exact ⟨nx (by unfold De sA sN;rw [Bool.and_eq_false_iff,Bool.and_eq_false_iff];exact .inr (.inl h3)) hin,.inr (E1.same (H:=[some ⟨1,[.int .i64 s,.slice true (.ro ks) 0 n,.slice true (.ro kp) 0 m]⟩,some ⟨1,[.int .i64 x,.bool h]⟩]) (by simp) fb (by simp [fv,B4,D1]))⟩
  ·exact ⟨nx (by unfold De sA sN;rw [Bool.and_eq_false_iff];exact .inl h2) hin,.inr (E1.same (H:=[some ⟨1,[.int .i64 s,.slice true (.ro ks) 0 n,.slice true (.ro kp) 0 m]⟩,some ⟨1,[.int .i64 x,.bool h]⟩]) (by simp) fb (by simp [fv,B4,D1]))⟩
 ·have h1':=of_decide_eq_false h1;refine .inl ⟨?_,rfl,.inl ⟨by simp [vVs,vV,wk],rfl⟩⟩;show (Ii [.agg (G ks),.int .i64 (n:Int),.int .i64 x,.bool h]==(-1:Int))=true;rw [Ih];unfold Ui;rw [if_neg (by omega)];rfl
theorem gD (G:Nat→List AV) (B:Nat) (ks n kp m:Nat) (s x:Int) (h:Bool) (hk:T9 [.agg (G ks),.int .i64 (n:Int)]=true):ACalls (⟨Try.prog,G,B⟩:Ctx) 37 [.agg [.int .i64 s,.slice true (.ro ks) 0 n,.slice true (.ro kp) 0 m],.agg [.int .i64 x,.bool h]] [] fun v H=>v=.int .i64 (Ui (G ks) n x h)∧H=[]:=by
 have:=O0 (C:=(⟨Try.prog,G,B⟩:Ctx)) (fuel:=300) (n0:=20) (f:=37) (fn:=Try.f37) (args:=[.agg (.of [.int .i64 (.var 1 s),.slice true (.ro (.var 2 ks)) (.lit 0) (.var 3 n),.slice true (.ro (.var 4 kp)) (.lit 0) (.var 5 m)]),.agg (.of [.int .i64 (.var 6 x),.bool (.var 7 h)])]) (H:=[]) (keep:=0)
  (R:=fun v _=>v=.int .i64 (Ui (G ks) n x h)) (U3 (inl:=[]) (ls:=[(Z7 1708 (inQ G ks n kp m s x h) 0 44 [2,3,4,5] (inO ks n kp m s x h))]) (M:=2) (Af G B) (by kernel_rfl) .nil (.cast (.cons (i:=0) (by kernel_rfl) rfl (lB G B ks n kp m s x h) .nil) (by kernel_rfl))) (by kernel_rfl) (by kernel_rfl) (by kernel_rfl) (by
  rw [t37,Ih];refine ⟨Fu hk rfl rfl,fun e=>?_,fun e=>rfl⟩
  rw [eq_of_beq e])
 exact ACalls.drop0 this rfl (by simp)
end Go.Am
namespace Go.Am
open Go.Proofs
set_option maxRecDepth 100000
theorem J1.ro0 {C:Ctx} {f:FuncId} {args:List EV} {H:DHp} {v:EV} (h:ACalls C f (vVs C.G args) [] fun v' H'=>v'=vV C.G v∧H'=[]) (ha:D1 0 (vVs C.G args)=true) (hv:B4 0 (vV C.G v)=true):J1 C f args H v []:=by
 refine J1.fr (C:=C) (θ:=[]) (H0:=[]) (H1:=[]) (v0:=vV C.G v) (by simp) rfl (fun i b hi=>by simp at hi) ha (by rw [P1 _ _ ha]) h (Nat.le_refl _) hv rfl (by rw [Fz _ _ hv]) ?_;simp [acts,Aw,lay]
def dtS:DSum:=fun args _=>match args with
 | [.slice _ (.ro k) (.lit 0) n,.agg (.of [.int .i64 x,.bool b])]=>some (.chk (.uf 1710 T9 [.agg (.ro k),.int .i64 (.ofN n)]) (.tst (.cmp .lss (.ofN (.uf 1707 U8 [.agg (.ro k),.int .i64 (.ofN n),.int .i64 x,.bool b])) (.ofN n)) (.one (.ptr (.ro k) (.mul (.uf 1707 U8 [.agg (.ro k),.int .i64 (.ofN n),.int .i64 x,.bool b]) 4)) []) (.one .nilp [])))
 | _=>none
def inS:DSum:=fun args _=>match args with
 | [.agg (.of [.int .i64 _,.slice _ (.ro k) (.lit 0) n,.slice _ (.ro _) (.lit 0) _]),.agg (.of [.int .i64 x,.bool b])]=>some (.chk (.uf 1710 T9 [.agg (.ro k),.int .i64 (.ofN n)]) (.one (.int .i64 (.uf 1709 Ii [.agg (.ro k),.int .i64 (.ofN n),.int .i64 x,.bool b])) []))
 | _=>none
theorem lL (G:Nat→List AV) (B:Nat):Br (⟨Try.prog,G,B⟩:Ctx) 34 dtS:=by
 intro args H o ho;unfold dtS at ho;split at ho
 ·rename_i mb k n x b;simp only [Option.some.injEq] at ho;subst ho;intro hk;have key:=gL G B (vN G k) (vN G n) (vI G x) (vB G b) hk;rw [←Al] at key
  have wk:∀ {K},ACalls (⟨Try.prog,G,B⟩:Ctx) 34 [.slice true (.ro (vN G k)) 0 (vN G n),.agg [.int .i64 (vI G x),.bool (vB G b)]] [] K→ACalls (⟨Try.prog,G,B⟩:Ctx) 34 (vVs G [.slice mb (.ro k) (.lit 0) n,.agg (.of [.int .i64 x,.bool b])]) [] K:=fun h=>h.weaken fun ρ vs hv=>by
   simp only [vVs,vV,vL,vR,vN,VRs] at hv ⊢;obtain ⟨v,vs',e,q1,q2⟩:=hv;exact ⟨v,vs',e,Of q1,q2⟩
  refine ⟨fun hl=>?_,fun hl=>?_⟩
  ·have hl':((U8 [.agg (G (vN G k)),.int .i64 (vN G n:Int),.int .i64 (vI G x),.bool (vB G b)]:Nat):Int)<(vN G n:Int):=of_decide_eq_true hl;rw [if_pos (by omega)] at key;exact J1.ro0 (C:=(⟨Try.prog,G,B⟩:Ctx)) (wk key) (by simp [vVs,vV,vL,vR,D1,B4]) (by simp [vV,vR,B4])
  ·have hl':¬((U8 [.agg (G (vN G k)),.int .i64 (vN G n:Int),.int .i64 (vI G x),.bool (vB G b)]:Nat):Int)<(vN G n:Int):=of_decide_eq_false hl;rw [if_neg (by omega)] at key;exact J1.ro0 (C:=(⟨Try.prog,G,B⟩:Ctx)) (wk key) (by simp [vVs,vV,vL,vR,D1,B4]) (by simp [vV,B4])
 ·simp at ho
theorem kZ (G:Nat→List AV) (B:Nat):Br (⟨Try.prog,G,B⟩:Ctx) 37 inS:=by
 intro args H o ho;unfold inS at ho;split at ho
 ·rename_i s mb k n mb' k' n' x b;simp only [Option.some.injEq] at ho;subst ho;intro hk;have key:=gD G B (vN G k) (vN G n) (vN G k') (vN G n') (vI G s) (vI G x) (vB G b) hk;rw [←Ih] at key;refine J1.ro0 (C:=(⟨Try.prog,G,B⟩:Ctx)) (key.weaken fun ρ vs hv=>?_) (by simp [vVs,vV,vL,vR,D1,B4]) (by simp [vV,B4]);simp only [vVs,vV,vL,vR,vN,VRs,VR] at hv ⊢;obtain ⟨v,vs',e,⟨ws,e2,w1,t1,e3,q1,w2,t2,e4,q2,w3,t3,e5,q3,q4⟩,q6⟩:=hv
  exact ⟨v,vs',e,⟨ws,e2,w1,t1,e3,q1,w2,t2,e4,(by have:=Of (show VR ρ (.slice mb (.ro (vN G k)) 0 (vN G n)) w2 by simpa only [VR] using q2);simpa only [VR] using this),w3,t3,e5,(by have:=Of (show VR ρ (.slice mb' (.ro (vN G k')) 0 (vN G n')) w3 by simpa only [VR] using q3);simpa only [VR] using this),q4⟩,q6⟩
 ·simp at ho
def progIc:List (Nat×DSum):=(34,dtS)::(37,inS)::progIb
theorem Qr (G:Nat→List AV) (B:Nat):U5 (⟨Try.prog,G,B⟩:Ctx) progIc:=.cons (lL G B) (.cons (kZ G B) (Dv G B))
theorem ck_d (G:Nat→List AV) (ks n kp m:Nat) (s y:Int) (w:Bool) (i:Nat) (Q:Ex→List AV→Hp→Prop) (R:AV→Hp→Prop):vT G Q R (Gs (Dc Try.prog [] progIc [] 1) 300 20 1 (G2 Try.f20 1) 98 [1,2,3,4,73,74,75] [.ptr (.rw 0) (.lit 0),.int .i64 (.lit 0),.bool (.var 9 w),.int .i64 (.var 10 y),.slice true (.ro (.var 4 kp)) (.lit 0) (.var 5 m),.int .i64 (.ofN (.var 5 m)),.int .i64 (.ofN (.var 8 i))] [some ⟨1,.of [.int .i64 (.var 1 s),.slice true (.ro (.var 2 ks)) (.lit 0) (.var 3 n),.slice true (.ro (.var 4 kp)) (.lit 0) (.var 5 m)]⟩])=(
  (decide ((((i:Nat):Int):Int)<((m:Nat):Int))=true→decide ((0:Int)≤((i:Nat):Int))=true∧decide ((((i:Nat):Int):Int)<((m:Nat):Int))=true∧H8 (G (kp)) ((i)*2) [.int .i64,.bool]=true∧(decide ((A8 (G (kp)) ((i)*2):Int)<y)=true→Q .ret [.ptr (.rw 0) (0),.int .i64 (2),.bool (w),.int .i64 (y),.slice true (.ro (kp)) (0) (m),.int .i64 (((m:Nat):Int)),.int .i64 (((i:Nat):Int))] [some ⟨1,([.int .i64 (s),.slice true (.ro (ks)) (0) (n),.slice true (.ro (kp)) (0) (m)]:List AV)⟩,some ⟨1,([.int .i64 (A8 (G (kp)) ((i)*2)),.bool (Q3 (G (kp)) ((i)*2+1))]:List AV)⟩])∧(decide ((A8 (G (kp)) ((i)*2):Int)<y)=false→T9 [.agg (G (ks)),.int .i64 (((n:Nat):Int))]=true∧(decide ((((U8 [.agg (G (ks)),.int .i64 (((n:Nat):Int)),.int .i64 (A8 (G (kp)) ((i)*2)),.bool (Q3 (G (kp)) ((i)*2+1))]:Nat):Int):Int)<((n:Nat):Int))=true→Q .normal [.ptr (.rw 0) (0),.int .i64 (0),.bool (w),.int .i64 (IntKind.wrap .i64 (A8 (G (kp)) ((i)*2)+Sk [.bool (Q3 (G (kp)) ((i)*2+1))])),.slice true (.ro (kp)) (0) (m),.int .i64 (((m:Nat):Int)),.int .i64 (IntKind.wrap .i64 (((i:Nat):Int)+1))] [some ⟨1,([.int .i64 (s),.slice true (.ro (ks)) (0) (n),.slice true (.ro (kp)) (0) (m)]:List AV)⟩,some ⟨1,([.int .i64 (A8 (G (kp)) ((i)*2)),.bool (Q3 (G (kp)) ((i)*2+1))]:List AV)⟩])∧(decide ((((U8 [.agg (G (ks)),.int .i64 (((n:Nat):Int)),.int .i64 (A8 (G (kp)) ((i)*2)),.bool (Q3 (G (kp)) ((i)*2+1))]:Nat):Int):Int)<((n:Nat):Int))=false→Q .ret [.ptr (.rw 0) (0),.int .i64 (2),.bool (w),.int .i64 (y),.slice true (.ro (kp)) (0) (m),.int .i64 (((m:Nat):Int)),.int .i64 (((i:Nat):Int))] [some ⟨1,([.int .i64 (s),.slice true (.ro (ks)) (0) (n),.slice true (.ro (kp)) (0) (m)]:List AV)⟩,some ⟨1,([.int .i64 (A8 (G (kp)) ((i)*2)),.bool (Q3 (G (kp)) ((i)*2+1))]:List AV)⟩])))∧
 (decide ((((i:Nat):Int):Int)<((m:Nat):Int))=false→Q (.exit 2) [.ptr (.rw 0) (0),.int .i64 (0),.bool (w),.int .i64 (y),.slice true (.ro (kp)) (0) (m),.int .i64 (((m:Nat):Int)),.int .i64 (((i:Nat):Int))] [some ⟨1,([.int .i64 (s),.slice true (.ro (ks)) (0) (n),.slice true (.ro (kp)) (0) (m)]:List AV)⟩])):=by kernel_rfl
end Go.Am
namespace Go.Am
open Go.Proofs
set_option maxRecDepth 100000
def xP (ps:List AV) (j:Nat):Int:=A8 ps (j*2)
def hP (ps:List AV) (j:Nat):Bool:=Q3 ps (j*2+1)
def dH (ps:List AV) (j:Nat):Bool:=H8 ps (j*2) [.int .i64,.bool]&&(decide (-9223372036854775808≤xP ps j)&&decide (xP ps j≤9223372036854775807))
def My (ps:List AV) (m:Nat):Bool:=I5 (dH ps) m
def Lg:List AV→Bool:=fun xs=>match xs with
 | [.agg ps,.int _ m]=>My ps m.toNat&&Nat.ble m.toNat 1000000
 | _=>false
theorem Le {ps:List AV} {m:Nat}:Lg [.agg ps,.int .i64 (m:Int)]=true↔My ps m=true∧m≤1000000:=by
 simp only [Lg,K3,Bool.and_eq_true];exact ⟨fun ⟨h1,h2⟩=>⟨h1,Nat.le_of_ble_eq_true h2⟩,fun ⟨h1,h2⟩=>⟨h1,Nat.ble_eq_true_of_le h2⟩⟩
theorem Lh {ps:List AV} {m j:Nat} (h:My ps m=true) (hj:j<m):H8 ps (j*2) [.int .i64,.bool]=true∧isI .i64 ps (j*2)=true∧-9223372036854775808≤xP ps j∧xP ps j≤9223372036854775807:=by
 have:=T6.1 h j hj
 simp only [dH,Bool.and_eq_true,decide_eq_true_eq] at this;refine ⟨this.1,?_,this.2⟩
 have:=this.1
 simp only [H8,Bj,Bool.and_eq_true] at this;exact this.1
def sE (cs:List AV) (k:Nat):Int:=sA cs k+(sN cs k:Int)+sZ cs k
def Mv (cs:List AV):Nat→Int
 | 0=>0
 | i+1=>sE cs i
def Ta (cs:List AV) (k:Nat):Bool:=Bs (sA cs k) (sR cs k) (sN cs k) (sZ cs k)
def Bi (cs:List AV) (k:Nat):Bool:=Ta cs k&&decide (Mv cs k≤sA cs k)
def eS (cs:List AV) (s:Int) (k:Nat):Bool:=!((Gg .i64 (sR cs k) 4:Int)==0)&&(decide (s≥sA cs k)&&decide (s<sE cs k))
def Y9 (cs:List AV) (s:Int):Nat→Bool
 | 0=>false
 | i+1=>Y9 cs s i||eS cs s i
def Mu (ps:List AV):Nat→Int
 | 0=>0
 | j+1=>xP ps j+O4 (hP ps j)
def Dy (cs:List AV) (n:Nat) (ps:List AV) (j:Nat):Bool:=decide (Mu ps j≤xP ps j)&&decide (O1 cs n (xP ps j) (hP ps j)<n)
theorem exS_1 {cs:List AV} {s:Int} {i:Nat} (h:Y9 cs s i=true):Y9 cs s (i+1)=true:=by simp [Y9,h]
theorem exS_2 {cs:List AV} {s:Int} {i:Nat} (h:Y9 cs s i=false) (h1:((Gg .i64 (sR cs i) 4:Int)==0)=true):Y9 cs s (i+1)=false:=by simp only [Y9,eS,h,h1];rfl
theorem exS_3 {cs:List AV} {s:Int} {i:Nat} (h:Y9 cs s i=false) (h1:((Gg .i64 (sR cs i) 4:Int)==0)=false) (h2:decide (s≥sA cs i)=true):Y9 cs s (i+1)=decide (s<sE cs i):=by simp only [Y9,eS,h,h1,h2];simp
theorem exS_4 {cs:List AV} {s:Int} {i:Nat} (h:Y9 cs s i=false) (h1:((Gg .i64 (sR cs i) 4:Int)==0)=false) (h2:decide (s≥sA cs i)=false):Y9 cs s (i+1)=false:=by simp only [Y9,eS,h,h1,h2];rfl
def Dq:List AV→Bool:=fun xs=>match xs with
 | [.agg cs,.int _ n]=>I5 (Bi cs) n.toNat
 | _=>false
def He:List AV→Bool:=fun xs=>match xs with
 | [.agg cs,.int _ n,.int _ s]=>Y9 cs s n.toNat
 | _=>false
def Li:List AV→Bool:=fun xs=>match xs with
 | [.agg cs,.int _ n,.agg ps,.int _ m]=>I5 (Dy cs n.toNat ps) m.toNat
 | _=>false
theorem Fy {cs:List AV} {n:Nat}:Dq [.agg cs,.int .i64 (n:Int)]=I5 (Bi cs) n:=by simp only [Dq,K3]
theorem bQ {cs:List AV} {n:Nat} {s:Int}:He [.agg cs,.int .i64 (n:Int),.int .i64 s]=Y9 cs s n:=by simp only [He,K3]
theorem Pc {cs ps:List AV} {n m:Nat}:Li [.agg cs,.int .i64 (n:Int),.agg ps,.int .i64 (m:Int)]=I5 (Dy cs n ps) m:=by simp only [Li,K3]
theorem fU {a r z:Int} {n:Nat}:Ou [.int .i64 a,.int .i64 r,.int .i64 (n:Int),.int .i64 z]=Bs a r n z:=by simp only [Ou,K3]
theorem bK {p:Nat→Bool} {n i:Nat} (h:i≤K1 (fun j=>!p j) n):∀ j,j<i→p j=true:=fun j hj=>by
 have:=(L6 (p:=fun j=>!p j) (k:=n)).2.2 j (by omega)
 simpa using this
theorem bJ {p:Nat→Bool} {n i:Nat} (h:i≤K1 (fun j=>!p j) n) (hi:i<n) (hp:p i=true):i<K1 (fun j=>!p j) n:=by
 have:=Ip h hi
 simp only [hp,Bool.not_true] at this
 have:=of_decide_eq_false this.symm
 omega
theorem Xl {p:Nat→Bool} {n i:Nat} (h:i≤K1 (fun j=>!p j) n) (hi:¬i<n):I5 p n=true:=T6.2 fun j hj=>bK h j (by omega)
def cond1 (cs:List AV) (n:Nat):Bool:=T9 [.agg cs,.int .i64 (n:Int)]
def Zf (cs:List AV) (n:Nat) (ps:List AV) (m:Nat):Bool:=T9 [.agg cs,.int .i64 (n:Int)]&&(Lg [.agg ps,.int .i64 (m:Int)]&&I5 (Bi cs) n)
def ckQ (G:Nat→List AV) (ks n kp m:Nat) (s:Int):List AV→Bool:=Qj (cond1 (G ks) n) [.ptr (.rw 0) 0,.int .i64 0,.bool false,.int .i64 0,.slice true (.ro ks) 0 n,.int .i64 (n:Int),.int .i64 0] [some ⟨1,[.int .i64 s,.slice true (.ro ks) 0 n,.slice true (.ro kp) 0 m]⟩]
def ckO (ks n kp m:Nat) (s:Int):LOut:=.tst (.uf 1711 Dq [.agg (.ro (.var 2 ks)),.int .i64 (.ofN (.var 3 n))]) (.one (.exit 0) [.ptr (.rw 0) (.lit 0),.int .i64 (.lit 0),.bool (.uf 1712 He [.agg (.ro (.var 2 ks)),.int .i64 (.ofN (.var 3 n)),.int .i64 (.var 1 s)]),.undef,.undef,.undef,.undef] [some ⟨1,.of [.int .i64 (.var 1 s),.slice true (.ro (.var 2 ks)) (.lit 0) (.var 3 n),.slice true (.ro (.var 4 kp)) (.lit 0) (.var 5 m)]⟩]) (.one .ret [.undef,.int .i64 (.lit 2),.undef,.undef,.undef,.undef,.undef] [some ⟨1,.of [.int .i64 (.var 1 s),.slice true (.ro (.var 2 ks)) (.lit 0) (.var 3 n),.slice true (.ro (.var 4 kp)) (.lit 0) (.var 5 m)]⟩])
def cdQ (G:Nat→List AV) (ks n kp m:Nat) (s:Int):List AV→Bool:=Qj (Zf (G ks) n (G kp) m) [.ptr (.rw 0) 0,.int .i64 0,.bool (He [.agg (G ks),.int .i64 (n:Int),.int .i64 s]),.int .i64 0,.slice true (.ro kp) 0 m,.int .i64 (m:Int),.int .i64 0] [some ⟨1,[.int .i64 s,.slice true (.ro ks) 0 n,.slice true (.ro kp) 0 m]⟩]
def cdO (ks n kp m:Nat) (s:Int):LOut:=.tst (.uf 1713 Li [.agg (.ro (.var 2 ks)),.int .i64 (.ofN (.var 3 n)),.agg (.ro (.var 4 kp)),.int .i64 (.ofN (.var 5 m))]) (.one (.exit 2) [.ptr (.rw 0) (.lit 0),.int .i64 (.lit 0),.bool (.uf 1712 He [.agg (.ro (.var 2 ks)),.int .i64 (.ofN (.var 3 n)),.int .i64 (.var 1 s)]),.undef,.undef,.undef,.undef] [some ⟨1,.of [.int .i64 (.var 1 s),.slice true (.ro (.var 2 ks)) (.lit 0) (.var 3 n),.slice true (.ro (.var 4 kp)) (.lit 0) (.var 5 m)]⟩]) (.one .ret [.undef,.int .i64 (.lit 2),.undef,.undef,.undef,.undef,.undef] [some ⟨1,.of [.int .i64 (.var 1 s),.slice true (.ro (.var 2 ks)) (.lit 0) (.var 3 n),.slice true (.ro (.var 4 kp)) (.lit 0) (.var 5 m)]⟩])
theorem t20 (G:Nat→List AV) (ks n kp m:Nat) (s:Int) (Q:Ex→List AV→Hp→Prop) (R:AV→Hp→Prop):vT G Q R (Z0 (Dc Try.prog [] progIc [(Z7 1714 (ckQ G ks n kp m s) 0 98 [1,2,3,4,31,32,33] (ckO ks n kp m s)),(Z7 1715 (cdQ G ks n kp m s) 2 98 [1,2,3,4,73,74,75] (cdO ks n kp m s))] 1) 300 20 Try.f20 [.agg (.of [.int .i64 (.var 1 s),.slice true (.ro (.var 2 ks)) (.lit 0) (.var 3 n),.slice true (.ro (.var 4 kp)) (.lit 0) (.var 5 m)])] [] 0)=(
  (decide ((((n:Nat):Int):Int)>8)=true→R (.int .i64 (2)) [])∧(decide ((((n:Nat):Int):Int)>8)=false→(decide ((((m:Nat):Int):Int)>512)=true→R (.int .i64 (2)) [])∧(decide ((((m:Nat):Int):Int)>512)=false→(decide ((s:Int)<0)=true→R (.int .i64 (2)) [])∧(decide ((s:Int)<0)=false→(((Int.tmod (s) (4):Int)==0)=true→(ckQ G ks n kp m s) [.agg ([.ptr (.rw 0) (0),.int .i64 (0),.bool (false),.int .i64 (0),.slice true (.ro (ks)) (0) (n),.int .i64 (((n:Nat):Int)),.int .i64 (0)]:List AV),.agg ([.tup [.int .i64 (1),.agg ([.int .i64 (s),.slice true (.ro (ks)) (0) (n),.slice true (.ro (kp)) (0) (m)]:List AV)]]:List AV)]=true∧(Dq [.agg (G (ks)),.int .i64 (((n:Nat):Int))]=true→(cdQ G ks n kp m s) [.agg ([.ptr (.rw 0) (0),.int .i64 (0),.bool (He [.agg (G (ks)),.int .i64 (((n:Nat):Int)),.int .i64 (s)]),.int .i64 (0),.slice true (.ro (kp)) (0) (m),.int .i64 (((m:Nat):Int)),.int .i64 (0)]:List AV),.agg ([.tup [.int .i64 (1),.agg ([.int .i64 (s),.slice true (.ro (ks)) (0) (n),.slice true (.ro (kp)) (0) (m)]:List AV)]]:List AV)]=true∧(Li [.agg (G (ks)),.int .i64 (((n:Nat):Int)),.agg (G (kp)),.int .i64 (((m:Nat):Int))]=true→(He [.agg (G (ks)),.int .i64 (((n:Nat):Int)),.int .i64 (s)]=true→R (.int .i64 (0)) [])∧(He [.agg (G (ks)),.int .i64 (((n:Nat):Int)),.int .i64 (s)]=false→R (.int .i64 (2)) []))∧(Li [.agg (G (ks)),.int .i64 (((n:Nat):Int)),.agg (G (kp)),.int .i64 (((m:Nat):Int))]=false→R (.int .i64 (2)) []))∧(Dq [.agg (G (ks)),.int .i64 (((n:Nat):Int))]=false→R (.int .i64 (2)) []))∧(((Int.tmod (s) (4):Int)==0)=false→R (.int .i64 (2)) []))))):=by kernel_rfl
end Go.Am
namespace Go.Am
open Go.Proofs
set_option maxRecDepth 100000
theorem lC {cs:List AV} {x:Int} {h:Bool} {k:Nat} (hs:Ta cs k=true) (hx:0≤x∧x≤9223372036854775807):Df cs x h k=De cs x h k:=by
 have hs:=Cz.1 hs;have hw:2≤O4 h∧O4 h≤4:=by unfold O4;split<;>omega
 unfold Df De;by_cases h1:sA cs k≤x
 ·rw [decide_eq_true h1,Bool.true_and,Bool.true_and,G8 (n:=x - sA cs k) (by omega),G8 (n:=(sN cs k:Int) - O4 h) (by omega),G8 (n:=sA cs k+(sN cs k:Int)) (by omega)];by_cases h2:x≤8192
  ·rw [decide_eq_true h2,Bool.true_and,G8 (n:=x+O4 h) (by omega),Bool.eq_iff_iff,decide_eq_true_iff,decide_eq_true_iff];omega
  ·rw [decide_eq_false h2,Bool.false_and];exact decide_eq_false (by omega)
 ·rw [decide_eq_false h1,Bool.false_and,Bool.false_and]
theorem Yw {p q:Nat→Bool} {n:Nat} (h:∀ j,j<n→p j=q j):K1 p n=K1 q n:=by
 obtain ⟨a1,a2,a3⟩:=L6 (p:=p) (k:=n);obtain ⟨b1,b2,b3⟩:=L6 (p:=q) (k:=n);rcases Nat.lt_trichotomy (K1 p n) (K1 q n) with h1 | h1 | h1
 ·have:=a2 (by omega);rw [h _ (by omega),b3 _ h1] at this;simp at this
 ·exact h1
 ·have:=b2 (by omega);rw [←h _ (by omega),a3 _ h1] at this;simp at this
theorem lQ {cs:List AV} {n:Nat} {x:Int} {h:Bool} (hs:I5 (Bi cs) n=true) (hx:0≤x∧x≤9223372036854775807):O1 cs n x h=inN cs n x h:=Yw fun j hj=>lC (by have:=T6.1 hs j hj;unfold Bi at this;rw [Bool.and_eq_true] at this;exact this.1) hx
theorem bT {cs:List AV} {n:Nat} {x:Int} {h:Bool} (hs:I5 (Bi cs) n=true) (hx:0≤x∧x≤9223372036854775807) (hd:O1 cs n x h<n):x≤8192:=by
 rw [lQ hs hx] at hd
 have:=(L6 (p:=De cs x h) (k:=n)).2.1 hd
 unfold De at this;simp only [Bool.and_eq_true,decide_eq_true_eq] at this;exact this.2.1
theorem pv_in {cs ps:List AV} {n m i:Nat} (hs:I5 (Bi cs) n=true) (hp:My ps m=true):i≤m→(∀ j,j<i→Dy cs n ps j=true)→0≤Mu ps i∧Mu ps i≤8200:=by
 induction i with
 | zero=>intro _ _;exact ⟨Int.le_refl _,by show (0:Int)≤8200;omega⟩
 | succ i ih=>
  intro hi h;have ih:=ih (by omega) fun j hj=>h j (by omega)
  have:=h i (by omega)
  unfold Dy at this;simp only [Bool.and_eq_true,decide_eq_true_eq] at this;have hx:=(Lh hp (j:=i) (by omega)).2.2
  have:=bT hs (by omega) this.2
  have hw:2≤O4 (hP ps i)∧O4 (hP ps i)≤4:=by unfold O4;split<;>omega
  show 0≤xP ps i+O4 (hP ps i)∧xP ps i+O4 (hP ps i)≤8200;omega
theorem szE {cs:List AV} {i:Nat} (h:Ta cs i=true):IntKind.wrap .i64 (sA cs i+Sv (sN cs i) (sZ cs i))=sE cs i:=by
 have:=Cz.1 h
 have e:Sv (sN cs i) (sZ cs i)=(sN cs i:Int)+sZ cs i:=G8 (by omega);rw [e,G8 (by omega)];unfold sE;omega
theorem lS (G:Nat→List AV) (B:Nat) (ks n kp m:Nat) (s:Int):X5 (⟨Try.prog,G,B⟩:Ctx) 1 (G2 Try.f20 0) (Z7 1714 (ckQ G ks n kp m s) 0 98 [1,2,3,4,31,32,33] (ckO ks n kp m s)):=by
 refine Kn rfl fun hc=>?_;obtain ⟨hk,hn⟩:=W6.1 hc;refine Ov (K1 (fun j=>!Bi (G ks) j) n) (fun i=>[.ptr (.rw 0) 0,.int .i64 0,.bool (Y9 (G ks) s i),.int .i64 (Mv (G ks) i),.slice true (.ro ks) 0 n,.int .i64 (n:Int),.int .i64 (i:Int)]) (fun _=>[some ⟨1,[.int .i64 s,.slice true (.ro ks) 0 n,.slice true (.ro kp) 0 m]⟩]) fun i hi=>?_;have hle:K1 (fun j=>!Bi (G ks) j) n≤n:=L6.1
 refine Ak (C:=(⟨Try.prog,G,B⟩:Ctx)) (by rw [show C3 (G2 Try.f20 0)=[] by kernel_rfl];exact U3 (inl:=[]) (ls:=[]) (M:=1) (Af G B) (by kernel_rfl) (Dv G B) .nil) (fuel:=300) (n0:=20) (m:=1) (c:=G2 Try.f20 0) (vs:=[.ptr (.rw 0) (.lit 0),.int .i64 (.lit 0),.bool (.var 9 (Y9 (G ks) s i)),.int .i64 (.var 10 (Mv (G ks) i)),.slice true (.ro (.var 2 ks)) (.lit 0) (.var 3 n),.int .i64 (.ofN (.var 3 n)),.int .i64 (.ofN (.var 8 i))]) (H:=[some ⟨1,.of [.int .i64 (.var 1 s),.slice true (.ro (.var 2 ks)) (.lit 0) (.var 3 n),.slice true (.ro (.var 4 kp)) (.lit 0) (.var 5 m)]⟩]) (by simp) ?_
 rw [ck_b];have fb:Z9 1 [some ⟨1,[.int .i64 s,.slice true (.ro ks) 0 n,.slice true (.ro kp) 0 m]⟩]=true:=by simp [Z9,D1,B4]
 refine ⟨fun h1=>?_,fun h1=>?_⟩
 ·have h1':=of_decide_eq_true h1;have hin:i<n:=by omega
  rw [G8 (n:=(i:Int)+1) (by omega),fU,aD]
  have no:Bi (G ks) i=false→¬Dq [.agg (G ks),.int .i64 (n:Int)]=true:=fun h=>by
   rw [Fy,Ep hin h];simp
  have nof:Bi (G ks) i=false→Dq [.agg (G ks),.int .i64 (n:Int)]=false:=fun h=>by
   rw [Fy,Ep hin h]
  refine ⟨decide_eq_true (by omega),h1,Hm hk hin,fun h2=>?_,fun h2=>?_⟩
  ·have h2':Ta (G ks) i=true:=h2;have e:=szE h2';unfold sA sN sZ at e;rw [e];refine ⟨fun h3=>?_,fun h3=>?_⟩
   ·refine .inr ⟨nof ?_,rfl,.inr (E1.same (H:=[some ⟨1,[.int .i64 s,.slice true (.ro ks) 0 n,.slice true (.ro kp) 0 m]⟩]) (by simp) fb (by simp [fv,B4,vVs,vV,vI]))⟩;have h3:A8 (G ks) (i*4)<Mv (G ks) i:=of_decide_eq_true h3;unfold Bi;rw [h2',decide_eq_false (by unfold sA;omega)];rfl
   ·have h3:¬A8 (G ks) (i*4)<Mv (G ks) i:=of_decide_eq_false h3;have lt:=bJ hi hin (by unfold Bi;rw [h2',decide_eq_true (by unfold sA;omega)];rfl);refine ⟨fun w1=>?_,fun w1=>⟨fun g1=>?_,fun g1=>⟨fun g2=>?_,fun g2=>?_⟩⟩⟩
    ·exact ⟨lt,.inr (E1.same (H:=[some ⟨1,[.int .i64 s,.slice true (.ro ks) 0 n,.slice true (.ro kp) 0 m]⟩]) (by simp) fb (by simp [fv,B4,D1,exS_1 w1,Mv]))⟩
    ·exact ⟨lt,.inr (E1.same (H:=[some ⟨1,[.int .i64 s,.slice true (.ro ks) 0 n,.slice true (.ro kp) 0 m]⟩]) (by simp) fb (by simp [fv,B4,D1,exS_2 w1 g1,Mv]))⟩
    ·exact ⟨lt,.inr (E1.same (H:=[some ⟨1,[.int .i64 s,.slice true (.ro ks) 0 n,.slice true (.ro kp) 0 m]⟩]) (by simp) fb (by simp [fv,B4,D1,exS_3 w1 g1 g2,Mv]))⟩
    ·exact ⟨lt,.inr (E1.same (H:=[some ⟨1,[.int .i64 s,.slice true (.ro ks) 0 n,.slice true (.ro kp) 0 m]⟩]) (by simp) fb (by simp [fv,B4,D1,exS_4 w1 g1 g2,Mv]))⟩
  ·refine .inr ⟨nof ?_,rfl,.inr (E1.same (H:=[some ⟨1,[.int .i64 s,.slice true (.ro ks) 0 n,.slice true (.ro kp) 0 m]⟩]) (by simp) fb (by simp [fv,B4,vVs,vV,vI]))⟩;have h2':Ta (G ks) i=false:=h2;unfold Bi;rw [h2'];rfl
 ·have h1':=of_decide_eq_false h1;have e:i=n:=by omega
  refine .inl ⟨?_,rfl,.inl ⟨?_,rfl⟩⟩
  ·show Dq [.agg (G ks),.int .i64 (n:Int)]=true;rw [Fy];exact Xl hi (by omega)
  ·show wk [.ptr (.rw 0) 0,.int .i64 0,.bool (He [.agg (G ks),.int .i64 (n:Int),.int .i64 s]),.undef,.undef,.undef,.undef] _;rw [bQ,←e];simp [wk]
end Go.Am
namespace Go.Am
open Go.Proofs
set_option maxRecDepth 100000
theorem Rb {cs ps:List AV} {n m:Nat}:Zf cs n ps m=true↔(Hn cs n=true∧n≤1000000)∧(My ps m=true∧m≤1000000)∧I5 (Bi cs) n=true:=by
 unfold Zf;rw [Bool.and_eq_true,Bool.and_eq_true,W6,Le]
theorem lU (G:Nat→List AV) (B:Nat) (ks n kp m:Nat) (s:Int):X5 (⟨Try.prog,G,B⟩:Ctx) 1 (G2 Try.f20 1) (Z7 1715 (cdQ G ks n kp m s) 2 98 [1,2,3,4,73,74,75] (cdO ks n kp m s)):=by
 refine Kn rfl fun hc=>?_;obtain ⟨hk,⟨hp,hm⟩,hs⟩:=Rb.1 hc;have hk':=W6.2 hk;refine Ov (K1 (fun j=>!Dy (G ks) n (G kp) j) m) (fun i=>[.ptr (.rw 0) 0,.int .i64 0,.bool (He [.agg (G ks),.int .i64 (n:Int),.int .i64 s]),.int .i64 (Mu (G kp) i),.slice true (.ro kp) 0 m,.int .i64 (m:Int),.int .i64 (i:Int)]) (fun _=>[some ⟨1,[.int .i64 s,.slice true (.ro ks) 0 n,.slice true (.ro kp) 0 m]⟩]) fun i hi=>?_;have hle:K1 (fun j=>!Dy (G ks) n (G kp) j) m≤m:=L6.1
 refine Ak (C:=(⟨Try.prog,G,B⟩:Ctx)) (by rw [show C3 (G2 Try.f20 1)=[] by kernel_rfl];exact U3 (inl:=[]) (ls:=[]) (M:=1) (Af G B) (by kernel_rfl) (Qr G B) .nil) (fuel:=300) (n0:=20) (m:=1) (c:=G2 Try.f20 1) (vs:=[.ptr (.rw 0) (.lit 0),.int .i64 (.lit 0),.bool (.var 9 (He [.agg (G ks),.int .i64 (n:Int),.int .i64 s])),.int .i64 (.var 10 (Mu (G kp) i)),.slice true (.ro (.var 4 kp)) (.lit 0) (.var 5 m),.int .i64 (.ofN (.var 5 m)),.int .i64 (.ofN (.var 8 i))]) (H:=[some ⟨1,.of [.int .i64 (.var 1 s),.slice true (.ro (.var 2 ks)) (.lit 0) (.var 3 n),.slice true (.ro (.var 4 kp)) (.lit 0) (.var 5 m)]⟩]) (by simp) ?_
 rw [ck_d];have fb:Z9 1 [some ⟨1,[.int .i64 s,.slice true (.ro ks) 0 n,.slice true (.ro kp) 0 m]⟩]=true:=by simp [Z9,D1,B4]
 have pv:=pv_in hs hp (by omega) (bK hi);refine ⟨fun h1=>?_,fun h1=>?_⟩
 ·have h1':=of_decide_eq_true h1;have hin:i<m:=by omega
  have hx:=(Lh hp hin).2.2;rw [G8 (n:=(i:Int)+1) (by omega),Al]
  have nof:Dy (G ks) n (G kp) i=false→Li [.agg (G ks),.int .i64 (n:Int),.agg (G kp),.int .i64 (m:Int)]=false:=fun h=>by
   rw [Pc,Ep hin h]
  refine ⟨decide_eq_true (by omega),h1,(Lh hp hin).1,fun h2=>?_,fun h2=>⟨hk',fun h3=>?_,fun h3=>?_⟩⟩
  ·refine .inr ⟨nof ?_,rfl,.inr (E1.same (H:=[some ⟨1,[.int .i64 s,.slice true (.ro ks) 0 n,.slice true (.ro kp) 0 m]⟩]) (by simp) fb (by simp [fv,B4,vVs,vV,vI]))⟩;have h2:A8 (G kp) (i*2)<Mu (G kp) i:=of_decide_eq_true h2;unfold Dy;rw [decide_eq_false (by unfold xP;omega)];rfl
  ·have h2:¬A8 (G kp) (i*2)<Mu (G kp) i:=of_decide_eq_false h2;have h3:((O1 (G ks) n (xP (G kp) i) (hP (G kp) i):Nat):Int)<(n:Int):=of_decide_eq_true h3;have lt:=bJ hi hin (by unfold Dy;rw [decide_eq_true (by unfold xP;omega),decide_eq_true (by omega)];rfl);have hx2:=bT (h:=hP (G kp) i) hs (x:=xP (G kp) i) (by unfold xP at hx ⊢;omega) (by omega);have hw:2≤O4 (hP (G kp) i)∧O4 (hP (G kp) i)≤4:=by unfold O4;split<;>omega
   have e:IntKind.wrap .i64 (A8 (G kp) (i*2)+Sk [.bool (Q3 (G kp) (i*2+1))])=Mu (G kp) (i+1):=by
    show IntKind.wrap .i64 (xP (G kp) i+O4 (hP (G kp) i))=xP (G kp) i+O4 (hP (G kp) i);exact G8 (by unfold xP at *;omega)
   rw [e];exact ⟨lt,.inr (E1.same (H:=[some ⟨1,[.int .i64 s,.slice true (.ro ks) 0 n,.slice true (.ro kp) 0 m]⟩]) (by simp) fb (by simp [fv,B4,D1]))⟩
  ·refine .inr ⟨nof ?_,rfl,.inr (E1.same (H:=[some ⟨1,[.int .i64 s,.slice true (.ro ks) 0 n,.slice true (.ro kp) 0 m]⟩]) (by simp) fb (by simp [fv,B4,vVs,vV,vI]))⟩;have h3:¬((O1 (G ks) n (xP (G kp) i) (hP (G kp) i):Nat):Int)<(n:Int):=of_decide_eq_false h3;unfold Dy;rw [decide_eq_false (p:=O1 (G ks) n (xP (G kp) i) (hP (G kp) i)<n) (by omega),Bool.and_false]
 ·have h1':=of_decide_eq_false h1;refine .inl ⟨?_,rfl,.inl ⟨?_,rfl⟩⟩
  ·show Li [.agg (G ks),.int .i64 (n:Int),.agg (G kp),.int .i64 (m:Int)]=true;rw [Pc];exact Xl hi (by omega)
  ·show wk [.ptr (.rw 0) 0,.int .i64 0,.bool (He [.agg (G ks),.int .i64 (n:Int),.int .i64 s]),.undef,.undef,.undef,.undef] _;simp [wk]
def Bv (s:Int) (cs:List AV) (n:Nat) (ps:List AV) (m:Nat):Bool:=(decide (n≤8)&&decide (m≤512))&&((decide (0≤s)&&decide (s % 4=0))&&(I5 (Bi cs) n&&(I5 (Dy cs n ps) m&&Y9 cs s n)))
def Py (s:Int) (cs:List AV) (n:Nat) (ps:List AV) (m:Nat):Int:=if Bv s cs n ps m then 0 else 2
theorem eV {a:Int} (h:0≤a):((Int.tmod a 4:Int)==0)=decide (a % 4=0):=by
 rw [Int.tmod_eq_emod_of_nonneg h,Bool.eq_iff_iff,beq_iff_eq,decide_eq_true_iff]
theorem Zg (G:Nat→List AV) (B:Nat) (ks n kp m:Nat) (s:Int) (hk:T9 [.agg (G ks),.int .i64 (n:Int)]=true) (hp:Lg [.agg (G kp),.int .i64 (m:Int)]=true):ACalls (⟨Try.prog,G,B⟩:Ctx) 20 [.agg [.int .i64 s,.slice true (.ro ks) 0 n,.slice true (.ro kp) 0 m]] [] fun v _=>v=.int .i64 (Py s (G ks) n (G kp) m):=by
 have:=O0 (C:=(⟨Try.prog,G,B⟩:Ctx)) (fuel:=300) (n0:=20) (f:=20) (fn:=Try.f20) (args:=[.agg (.of [.int .i64 (.var 1 s),.slice true (.ro (.var 2 ks)) (.lit 0) (.var 3 n),.slice true (.ro (.var 4 kp)) (.lit 0) (.var 5 m)])]) (H:=[]) (keep:=0)
  (R:=fun v _=>v=.int .i64 (Py s (G ks) n (G kp) m)) (U3 (inl:=[]) (ls:=[(Z7 1714 (ckQ G ks n kp m s) 0 98 [1,2,3,4,31,32,33] (ckO ks n kp m s)),(Z7 1715 (cdQ G ks n kp m s) 2 98 [1,2,3,4,73,74,75] (cdO ks n kp m s))]) (M:=1) (Af G B) (by kernel_rfl) (Qr G B) (.cast (.cons (i:=0) (by kernel_rfl) rfl (lS G B ks n kp m s) (.cons (i:=2) (by kernel_rfl) rfl (lU G B ks n kp m s) .nil)) (by kernel_rfl))) (by kernel_rfl) (by kernel_rfl) (by kernel_rfl) (by
  rw [t20,Fy,Pc,bQ];have no:Bv s (G ks) n (G kp) m=false→Py s (G ks) n (G kp) m=2:=fun h=>by unfold Py;rw [h];rfl
  refine ⟨fun h1=>?_,fun h1=>⟨fun h2=>?_,fun h2=>⟨fun h3=>?_,fun h3=>⟨fun h4=>?_,fun h4=>?_⟩⟩⟩⟩
  ·have h1:(n:Int)>8:=of_decide_eq_true h1;rw [no (by unfold Bv;rw [decide_eq_false (p:=n≤8) (by omega)];rfl)]
  ·have h2:(m:Int)>512:=of_decide_eq_true h2;rw [no (by unfold Bv;rw [decide_eq_false (p:=m≤512) (by omega),Bool.and_false];rfl)]
  ·have h3:s<0:=of_decide_eq_true h3;rw [no (by unfold Bv;rw [decide_eq_false (p:=0≤s) (by omega),Bool.false_and,Bool.false_and,Bool.and_false])]
  ·have h1:¬(n:Int)>8:=of_decide_eq_false h1;have h2:¬(m:Int)>512:=of_decide_eq_false h2;have h3:¬s<0:=of_decide_eq_false h3;rw [eV (by omega)] at h4;have h4:=of_decide_eq_true h4
   have em:Bv s (G ks) n (G kp) m=(I5 (Bi (G ks)) n&&(I5 (Dy (G ks) n (G kp)) m&&Y9 (G ks) s n)):=by
    unfold Bv;rw [decide_eq_true (p:=n≤8) (by omega),decide_eq_true (p:=m≤512) (by omega),decide_eq_true (p:=0≤s) (by omega),decide_eq_true h4];rfl
   refine ⟨Fu hk rfl rfl,fun e1=>⟨Fu (by rw [Rb];exact ⟨W6.1 hk,Le.1 hp,e1⟩) rfl rfl,fun e2=>⟨fun e3=>?_,fun e3=>?_⟩,fun e2=>?_⟩,fun e1=>?_⟩
   ·unfold Py;rw [em,e1,e2,e3];rfl
   ·rw [no (by rw [em,e3,Bool.and_false,Bool.and_false])]
   ·rw [no (by rw [em,e2,Bool.false_and,Bool.and_false])]
   ·rw [no (by rw [em,e1,Bool.false_and])]
  ·have h3:¬s<0:=of_decide_eq_false h3;rw [eV (by omega)] at h4
   rw [no (by unfold Bv;rw [h4,Bool.and_false,Bool.false_and,Bool.and_false])])
 exact this.monoK fun v H h=>h
end Go.Am
