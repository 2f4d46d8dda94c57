/-
  Images: the section in which a place lies. Images: which may be: the trees.
-/
import Derived.Test.YthejjolnlngahaaPart9
namespace Go.Am
open Go.Proofs
open Try renaming prog → zM
set_option maxRecDepth 100000
section
variable (G:Nat→List AV) (B:Nat)
def sA (cs:List AV) (k:Nat):Int:=A2 cs (k*4)
def sR (cs:List AV) (k:Nat):Int:=A2 cs (k*4+1)
def sN (cs:List AV) (k:Nat):Nat:=D1 cs (k*4+2)
def sZ (cs:List AV) (k:Nat):Int:=A2 cs (k*4+3)
def P2 (cs:List AV) (n:Nat):Bool:=J7 (fun k=>G6 cs (k*4) [.int .i64,.int .i64,.sl,.int .i64]) n
theorem S9 {cs:List AV} {n k:Nat} (h:P2 cs n=true) (hk:k<n):G6 cs (k*4) [.int .i64,.int .i64,.sl,.int .i64]=true:=E7.1 h k hk
theorem xX {cs:List AV} {n k:Nat} (h:P2 cs n=true) (hk:k<n):isI .i64 cs (k*4)=true∧Ey cs (k*4+2)=true:=by
 have:=S9 h hk
 simp only [G6,Ao,zO] at this;exact ⟨this.1,this.2.2.1⟩
def Uo (cs:List AV) (x:Int) (h:Bool) (k:Nat):Bool:=decide (sA cs k≤x)&&decide (IntKind.wrap .i64 (x - sA cs k)≤IntKind.wrap .i64 ((sN cs k:Int) - Ar h))
def Mn (cs:List AV) (x:Int) (h:Bool) (k:Nat):Bool:=decide (sA cs k≤x)&&(decide (x≤8192)&&decide (IntKind.wrap .i64 (x+Ar h)≤IntKind.wrap .i64 (sA cs k+(sN cs k:Int))))
def Z6 (cs:List AV) (n:Nat) (x:Int) (h:Bool):Nat:=L9 (Uo cs x h) n
def inN (cs:List AV) (n:Nat) (x:Int) (h:Bool):Nat:=L9 (Mn cs x h) n
def Uj (cs:List AV) (n:Nat) (x:Int) (h:Bool):Int:=if inN cs n x h<n then (inN cs n x h:Int) else -1
def Ec:List AV→Nat:=fun xs=>match xs with
 | [.agg cs,.int _ n,.int _ x,.bool h]=>Z6 cs n.toNat x h
 | _=>0
def Px:List AV→Int:=fun xs=>match xs with
 | [.agg cs,.int _ n,.int _ x,.bool h]=>Uj cs n.toNat x h
 | _=>0
def U9:List AV→Bool:=fun xs=>match xs with
 | [.agg cs,.int _ n]=>P2 cs n.toNat&&Nat.ble n.toNat 1000000
 | _=>false
theorem R3 {cs:List AV} {n:Nat}:U9 [.agg cs,.int .i64 (n:Int)]=true↔P2 cs n=true∧n≤1000000:=by
 simp only [U9,M5,zO];exact ⟨fun ⟨h1,h2⟩=>⟨h1,zA2 h2⟩,fun ⟨h1,h2⟩=>⟨h1,Nat.ble_eq_true_of_le h2⟩⟩
def dtQ (G:Nat→List AV) (ks n:Nat) (x:Int) (h:Bool):List AV→Bool:=Sl (U9 [.agg (G ks),.int .i64 (n:Int)]) [.slice true (.ro ks) 0 n,.ptr (.rw 0) 0,.nilp,.int .i64 (n:Int),.int .i64 0] [some ⟨1,[.int .i64 x,.bool h]⟩]
def dtO (ks n:Nat) (x:Int) (h:Bool):LOut:=.tst (.cmp .lss (.ofN (.uf 1707 Ec [.agg (.ro (.var 2 ks)),.int .i64 (.ofN (.var 3 n)),.int .i64 (.var 6 x),.bool (.var 7 h)])) (.ofN (.var 3 n))) (.one .ret [.undef,.undef,.ptr (.ro (.var 2 ks)) (.mul (.uf 1707 Ec [.agg (.ro (.var 2 ks)),.int .i64 (.ofN (.var 3 n)),.int .i64 (.var 6 x),.bool (.var 7 h)]) 4),.undef,.undef] [some ⟨1,.of [.int .i64 (.var 6 x),.bool (.var 7 h)]⟩]) (.one (.exit 0) [.undef,.undef,.nilp,.undef,.undef] [some ⟨1,.of [.int .i64 (.var 6 x),.bool (.var 7 h)]⟩])
theorem t34 (ks n:Nat) (x:Int) (h:Bool) (Q:Ex→List AV→Hp→Prop) (R:AV→Hp→Prop):vT G Q R (H5 (Dc zM [] [] [(D4 1706 (dtQ G ks n x h) 0 42 [0,3,4,8,9] (dtO ks n x h))] 1) 300 20 Try.f34 [.slice true (.ro (.var 2 ks)) (.lit 0) (.var 3 n),.agg (.of [.int .i64 (.var 6 x),.bool (.var 7 h)])] [] 0)=(
  (dtQ G ks n x h) [.agg ([.slice true (.ro ks) 0 n,.ptr (.rw 0) 0,.nilp,.int .i64 ((n:Int)),.int .i64 0]:List AV),.agg ([.tup [.int .i64 1,.agg ([.int .i64 x,.bool h]:List AV)]]:List AV)]=true∧(decide ((((Ec [.agg (G ks),.int .i64 ((n:Int)),.int .i64 x,.bool h]:Nat):Int):Int)<(n:Int))=true→R (.ptr (.ro ks) ((Ec [.agg (G ks),.int .i64 ((n:Int)),.int .i64 x,.bool h])*4)) [])∧(decide ((((Ec [.agg (G ks),.int .i64 ((n:Int)),.int .i64 x,.bool h]:Nat):Int):Int)<(n:Int))=false→R (.nilp) [])):=by kernel_rfl
def inQ (G:Nat→List AV) (ks n kp m:Nat) (s x:Int) (h:Bool):List AV→Bool:=Sl (U9 [.agg (G ks),.int .i64 (n:Int)]) [.ptr (.rw 0) 0,.ptr (.rw 1) 0,.int .i64 0,.int .i64 0] [some ⟨1,[.int .i64 s,.slice true (.ro ks) 0 n,.slice true (.ro kp) 0 m]⟩,some ⟨1,[.int .i64 x,.bool h]⟩]
def inO (ks n kp m:Nat) (s x:Int) (h:Bool):LOut:=.tst (.cmp .eql (.uf 1709 Px [.agg (.ro (.var 2 ks)),.int .i64 (.ofN (.var 3 n)),.int .i64 (.var 6 x),.bool (.var 7 h)]) (.lit (-1))) (.one (.exit 0) [.undef,.undef,.undef,.undef] [some ⟨1,.of [.int .i64 (.var 1 s),.slice true (.ro (.var 2 ks)) (.lit 0) (.var 3 n),.slice true (.ro (.var 4 kp)) (.lit 0) (.var 5 m)]⟩,some ⟨1,.of [.int .i64 (.var 6 x),.bool (.var 7 h)]⟩]) (.one .ret [.undef,.undef,.int .i64 (.uf 1709 Px [.agg (.ro (.var 2 ks)),.int .i64 (.ofN (.var 3 n)),.int .i64 (.var 6 x),.bool (.var 7 h)]),.undef] [some ⟨1,.of [.int .i64 (.var 1 s),.slice true (.ro (.var 2 ks)) (.lit 0) (.var 3 n),.slice true (.ro (.var 4 kp)) (.lit 0) (.var 5 m)]⟩,some ⟨1,.of [.int .i64 (.var 6 x),.bool (.var 7 h)]⟩])
theorem t37 (ks n kp m:Nat) (s x:Int) (h:Bool) (Q:Ex→List AV→Hp→Prop) (R:AV→Hp→Prop):vT G Q R (H5 (Dc zM [] [] [(D4 1708 (inQ G ks n kp m s x h) 0 44 [2,3,4,5] (inO ks n kp m s x h))] 2) 300 20 Try.f37 [.agg (.of [.int .i64 (.var 1 s),.slice true (.ro (.var 2 ks)) (.lit 0) (.var 3 n),.slice true (.ro (.var 4 kp)) (.lit 0) (.var 5 m)]),.agg (.of [.int .i64 (.var 6 x),.bool (.var 7 h)])] [] 0)=(
  (inQ G ks n kp m s x h) [.agg ([.ptr (.rw 0) 0,.ptr (.rw 1) 0,.int .i64 0,.int .i64 0]:List AV),.agg ([.tup [.int .i64 1,.agg ([.int .i64 s,.slice true (.ro ks) 0 n,.slice true (.ro kp) 0 m]:List AV)],.tup [.int .i64 1,.agg ([.int .i64 x,.bool h]:List AV)]]:List AV)]=true∧(((Px [.agg (G ks),.int .i64 ((n:Int)),.int .i64 x,.bool h]:Int)==(-1))=true→R (.int .i64 ((-1))) [])∧(((Px [.agg (G ks),.int .i64 ((n:Int)),.int .i64 x,.bool h]:Int)==(-1))=false→R (.int .i64 (Px [.agg (G ks),.int .i64 ((n:Int)),.int .i64 x,.bool h])) [])):=by kernel_rfl
theorem Uu {p:Nat→Bool} {n i:Nat} (h1:i≤L9 p n) (h2:i<n):p i=decide (i=L9 p n):=by
 obtain ⟨g1,g2,g3⟩:=K2 (p:=p) (k:=n);by_cases e:i=L9 p n
 ·rw [yI e,e];exact g2 (by omega)
 ·rw [sL e];exact g3 i (by omega)
theorem Im {cs:List AV} {n:Nat} {x:Int} {h:Bool}:Ec [.agg cs,.int .i64 (n:Int),.int .i64 x,.bool h]=Z6 cs n x h:=by simp only [Ec,M5]
theorem Pw {cs:List AV} {n:Nat} {x:Int} {h:Bool}:Px [.agg cs,.int .i64 (n:Int),.int .i64 x,.bool h]=Uj cs n x h:=by simp only [Px,M5]
theorem dtL_ok (ks n:Nat) (x:Int) (h:Bool):F5 (⟨zM,G,B⟩:A1) 1 (A5 Try.f34 0) (D4 1706 (dtQ G ks n x h) 0 42 [0,3,4,8,9] (dtO ks n x h)):=by
 refine Gf rfl fun hc=>?_;obtain ⟨hk,hn⟩:=R3.1 hc;have hle:Z6 (G ks) n x h≤n:=K2.1;refine W8 (Z6 (G ks) n x h) (fun i=>[.slice true (.ro ks) 0 n,.ptr (.rw 0) 0,.nilp,.int .i64 (n:Int),.int .i64 (i:Int)]) (fun _=>[some ⟨1,[.int .i64 x,.bool h]⟩]) fun i hi=>?_
 refine D3 (C:=(⟨zM,G,B⟩:A1)) (by rw [show loopsOf (A5 Try.f34 0)=[] by kernel_rfl];exact C7 (inl:=[]) (ls:=[]) (M:=1) (Bc G B) (by kernel_rfl) (Jl G B) .nil) (fuel:=300) (n0:=20) (m:=1) (c:=A5 Try.f34 0) (vs:=[.slice true (.ro (.var 2 ks)) (.lit 0) (.var 3 n),.ptr (.rw 0) (.lit 0),.nilp,.int .i64 (.ofN (.var 3 n)),.int .i64 (.ofN (.var 8 i))]) (H:=[some ⟨1,.of [.int .i64 (.var 6 x),.bool (.var 7 h)]⟩]) (by simp) ?_;rw [dt_b];have fb:I1 1 [some ⟨1,[.int .i64 x,.bool h]⟩]=true:=by simp [I1,A6,B0]
 have key:i<n→Uo (G ks) x h i=decide (i=Z6 (G ks) n x h):=fun h2=>Uu hi h2;simp only [Uo,sA,sN] at key
 have nx:Uo (G ks) x h i=false→i<n→i<Z6 (G ks) n x h:=fun h1 h2=>by
  have:=Uu hi h2
  rw [h1] at this
  have:=sJ this.symm
  unfold Z6 at *;omega
 refine ⟨fun h1=>?_,fun h1=>?_⟩
 ·have h1':=zR h1;have hin:i<n:=by omega
  obtain ⟨t1,t2⟩:=xX hk hin;rw [B5 (n:=(i:Int)+1) (by omega)];refine ⟨yI (by omega),h1,t1,fun h2=>⟨t1,t2,fun h3=>?_,fun h3=>?_⟩,fun h2=>?_⟩
  ·have e:i=Z6 (G ks) n x h:=zR (by rw [←key hin,zO];exact ⟨h2,h3⟩);refine .inl ⟨?_,rfl,.inr ?_⟩
   ·show decide (((Ec [.agg (G ks),.int .i64 (n:Int),.int .i64 x,.bool h]:Nat):Int)<(n:Int))=true;rw [Im,←e];exact h1
   ·refine C5.same (H:=[some ⟨1,[.int .i64 x,.bool h]⟩]) (by simp) fb ?_;show fv 1 [.undef,.undef,.ptr (.ro ks) (Ec [.agg (G ks),.int .i64 (n:Int),.int .i64 x,.bool h]*4),.undef,.undef] _;rw [Im,←e];simp [fv,B0]
  ·exact ⟨nx (by unfold Uo sA sN;rw [Bool.and_eq_false_iff];exact .inr h3) hin,.inr (C5.same (H:=[some ⟨1,[.int .i64 x,.bool h]⟩]) (by simp) fb (by simp [fv,B0,A6]))⟩
  ·exact ⟨nx (by unfold Uo sA sN;rw [Bool.and_eq_false_iff];exact .inl h2) hin,.inr (C5.same (H:=[some ⟨1,[.int .i64 x,.bool h]⟩]) (by simp) fb (by simp [fv,B0,A6]))⟩
 ·have h1':=sJ h1;refine .inr ⟨?_,rfl,.inl ⟨by simp [vVs,vV,wk],rfl⟩⟩;show decide (((Ec [.agg (G ks),.int .i64 (n:Int),.int .i64 x,.bool h]:Nat):Int)<(n:Int))=false;rw [Im];exact sL (by omega)
theorem ACalls.drop0 {C:A1} {f:FuncId} {args:List AV} {v0:AV} (h:ACalls C f args [] fun v _=>v=v0) (hb:B0 0 v0=true) (hu:v0≠.undef):ACalls C f args [] fun v H=>v=v0∧H=[]:=by
 refine h.view fun v H' hj=>⟨v0,[],⟨rfl,rfl⟩,?_⟩;subst hj;exact C5.same (H:=[]) (G:=H') (by simp) rfl (by simp [fv,hb])
theorem bC8 (ks n:Nat) (x:Int) (h:Bool) (hk:U9 [.agg (G ks),.int .i64 (n:Int)]=true):ACalls (⟨zM,G,B⟩:A1) 34 [.slice true (.ro ks) 0 n,.agg [.int .i64 x,.bool h]] [] fun v H=>v=(if Z6 (G ks) n x h<n then .ptr (.ro ks) (Z6 (G ks) n x h*4) else .nilp)∧H=[]:=by
 have:=C8 (C:=(⟨zM,G,B⟩:A1)) (fuel:=300) (n0:=20) (f:=34) (fn:=Try.f34) (args:=[.slice true (.ro (.var 2 ks)) (.lit 0) (.var 3 n),.agg (.of [.int .i64 (.var 6 x),.bool (.var 7 h)])]) (H:=[]) (keep:=0)
  (R:=fun v _=>v=(if Z6 (G ks) n x h<n then .ptr (.ro ks) (Z6 (G ks) n x h*4) else .nilp)) (C7 (inl:=[]) (ls:=[(D4 1706 (dtQ G ks n x h) 0 42 [0,3,4,8,9] (dtO ks n x h))]) (M:=1) (Bc G B) (by kernel_rfl) .nil (.cast (.cons (i:=0) (by kernel_rfl) rfl (dtL_ok G B ks n x h) .nil) (by kernel_rfl))) (by kernel_rfl) (by kernel_rfl) (by kernel_rfl) (by
  rw [t34];refine ⟨Cr hk rfl rfl,fun e=>?_,fun e=>?_⟩
  ·rw [Im] at *;have:((Z6 (G ks) n x h:Nat):Int)<(n:Int):=zR e;exact (if_pos (by omega)).symm
  ·rw [Im] at *;have:¬((Z6 (G ks) n x h:Nat):Int)<(n:Int):=sJ e;exact (if_neg (by omega)).symm)
 refine ACalls.drop0 this ?_ ?_<;>split<;>simp [B0]
theorem inL_ok (ks n kp m:Nat) (s x:Int) (h:Bool):F5 (⟨zM,G,B⟩:A1) 2 (A5 Try.f37 0) (D4 1708 (inQ G ks n kp m s x h) 0 44 [2,3,4,5] (inO ks n kp m s x h)):=by
 refine Gf rfl fun hc=>?_;obtain ⟨hk,hn⟩:=R3.1 hc;have hle:inN (G ks) n x h≤n:=K2.1;refine W8 (inN (G ks) n x h) (fun i=>[.ptr (.rw 0) 0,.ptr (.rw 1) 0,.int .i64 0,.int .i64 (i:Int)]) (fun _=>[some ⟨1,[.int .i64 s,.slice true (.ro ks) 0 n,.slice true (.ro kp) 0 m]⟩,some ⟨1,[.int .i64 x,.bool h]⟩]) fun i hi=>?_
 refine D3 (C:=(⟨zM,G,B⟩:A1)) (by rw [show loopsOf (A5 Try.f37 0)=[] by kernel_rfl];exact C7 (inl:=[]) (ls:=[]) (M:=2) (Bc G B) (by kernel_rfl) (Jl G B) .nil) (fuel:=300) (n0:=20) (m:=2) (c:=A5 Try.f37 0) (vs:=[.ptr (.rw 0) (.lit 0),.ptr (.rw 1) (.lit 0),.int .i64 (.lit 0),.int .i64 (.ofN (.var 8 i))]) (H:=[some ⟨1,.of [.int .i64 (.var 1 s),.slice true (.ro (.var 2 ks)) (.lit 0) (.var 3 n),.slice true (.ro (.var 4 kp)) (.lit 0) (.var 5 m)]⟩,some ⟨1,.of [.int .i64 (.var 6 x),.bool (.var 7 h)]⟩]) (by simp) ?_;rw [in_b]
 have fb:I1 2 [some ⟨1,[.int .i64 s,.slice true (.ro ks) 0 n,.slice true (.ro kp) 0 m]⟩,some ⟨1,[.int .i64 x,.bool h]⟩]=true:=by simp [I1,A6,B0]
 have key:i<n→Mn (G ks) x h i=decide (i=inN (G ks) n x h):=fun h2=>Uu hi h2;simp only [Mn,sA,sN] at key
 have nx:Mn (G ks) x h i=false→i<n→i<inN (G ks) n x h:=fun h1 h2=>by
  have:=Uu hi h2
  rw [h1] at this
  have:=sJ this.symm
  unfold inN at *;omega
 refine ⟨fun h1=>?_,fun h1=>?_⟩
 ·have h1':=zR h1;have hin:i<n:=by omega
  rw [B5 (n:=(i:Int)+1) (by omega)];refine ⟨yI (by omega),h1,S9 hk hin,fun h2=>⟨fun h3=>⟨fun h4=>?_,fun h4=>?_⟩,fun h3=>?_⟩,fun h2=>?_⟩
  ·have e:i=inN (G ks) n x h:=zR (by rw [←key hin,zO,zO];exact ⟨h2,h3,h4⟩);have e2:Uj (G ks) n x h=(i:Int):=by unfold Uj;rw [←e,if_pos hin]
   refine .inr ⟨?_,rfl,.inr ?_⟩
   ·show (Px [.agg (G ks),.int .i64 (n:Int),.int .i64 x,.bool h]==(-1:Int))=false;rw [Pw,e2];exact beq_eq_false_iff_ne.2 (by omega)
   ·refine C5.same (H:=[some ⟨1,[.int .i64 s,.slice true (.ro ks) 0 n,.slice true (.ro kp) 0 m]⟩,some ⟨1,[.int .i64 x,.bool h]⟩]) (by simp) fb ?_;show fv 2 [.undef,.undef,.int .i64 (Px [.agg (G ks),.int .i64 (n:Int),.int .i64 x,.bool h]),.undef] _;rw [Pw,e2];simp [fv,B0]
  ·exact ⟨nx (by unfold Mn sA sN;rw [Bool.and_eq_false_iff,Bool.and_eq_false_iff];exact .inr (.inr h4)) hin,.inr (C5.same (H:=[some ⟨1,[.int .i64 s,.slice true (.ro ks) 0 n,.slice true (.ro kp) 0 m]⟩,some ⟨1,[.int .i64 x,.bool h]⟩]) (by simp) fb (by simp [fv,B0,A6]))⟩
  ·exact ⟨nx (by unfold Mn sA sN;rw [Bool.and_eq_false_iff,Bool.and_eq_false_iff];exact .inr (.inl h3)) hin,.inr (C5.same (H:=[some ⟨1,[.int .i64 s,.slice true (.ro ks) 0 n,.slice true (.ro kp) 0 m]⟩,some ⟨1,[.int .i64 x,.bool h]⟩]) (by simp) fb (by simp [fv,B0,A6]))⟩
  ·exact ⟨nx (by unfold Mn sA sN;rw [Bool.and_eq_false_iff];exact .inl h2) hin,.inr (C5.same (H:=[some ⟨1,[.int .i64 s,.slice true (.ro ks) 0 n,.slice true (.ro kp) 0 m]⟩,some ⟨1,[.int .i64 x,.bool h]⟩]) (by simp) fb (by simp [fv,B0,A6]))⟩
 ·have h1':=sJ h1;refine .inl ⟨?_,rfl,.inl ⟨by simp [vVs,vV,wk],rfl⟩⟩;show (Px [.agg (G ks),.int .i64 (n:Int),.int .i64 x,.bool h]==(-1:Int))=true;rw [Pw];unfold Uj;rw [if_neg (by omega)];rfl
theorem bB3 (ks n kp m:Nat) (s x:Int) (h:Bool) (hk:U9 [.agg (G ks),.int .i64 (n:Int)]=true):ACalls (⟨zM,G,B⟩:A1) 37 [.agg [.int .i64 s,.slice true (.ro ks) 0 n,.slice true (.ro kp) 0 m],.agg [.int .i64 x,.bool h]] [] fun v H=>v=.int .i64 (Uj (G ks) n x h)∧H=[]:=by
 have:=C8 (C:=(⟨zM,G,B⟩:A1)) (fuel:=300) (n0:=20) (f:=37) (fn:=Try.f37) (args:=[.agg (.of [.int .i64 (.var 1 s),.slice true (.ro (.var 2 ks)) (.lit 0) (.var 3 n),.slice true (.ro (.var 4 kp)) (.lit 0) (.var 5 m)]),.agg (.of [.int .i64 (.var 6 x),.bool (.var 7 h)])]) (H:=[]) (keep:=0)
  (R:=fun v _=>v=.int .i64 (Uj (G ks) n x h)) (C7 (inl:=[]) (ls:=[(D4 1708 (inQ G ks n kp m s x h) 0 44 [2,3,4,5] (inO ks n kp m s x h))]) (M:=2) (Bc G B) (by kernel_rfl) .nil (.cast (.cons (i:=0) (by kernel_rfl) rfl (inL_ok G B ks n kp m s x h) .nil) (by kernel_rfl))) (by kernel_rfl) (by kernel_rfl) (by kernel_rfl) (by
  rw [t37,Pw];refine ⟨Cr hk rfl rfl,fun e=>?_,fun e=>rfl⟩
  rw [eq_of_beq e])
 exact ACalls.drop0 this rfl (by simp)
end
open IntKind renaming wrap → wS
section
variable (G:Nat→List AV) (B:Nat)
theorem E1.ro0 {C:A1} {f:FuncId} {args:List EV} {H:DHp} {v:EV} (h:ACalls C f (vVs C.G args) [] fun v' H'=>v'=vV C.G v∧H'=[]) (ha:A6 0 (vVs C.G args)=true) (hv:B0 0 (vV C.G v)=true):E1 C f args H v []:=by
 refine E1.fr (C:=C) (θ:=[]) (H0:=[]) (H1:=[]) (v0:=vV C.G v) (by simp) rfl (fun i b hi=>by simp at hi) ha (by rw [B4 _ _ ha]) h (zA7 _) hv rfl (by rw [Hw _ _ hv]) ?_;simp [acts,T6,lay]
def dtS:DSum:=fun args _=>match args with
 | [.slice _ (.ro k) (.lit 0) n,.agg (.of [.int .i64 x,.bool b])]=>some (.chk (.uf 1710 U9 [.agg (.ro k),.int .i64 (.ofN n)]) (.tst (.cmp .lss (.ofN (.uf 1707 Ec [.agg (.ro k),.int .i64 (.ofN n),.int .i64 x,.bool b])) (.ofN n)) (.one (.ptr (.ro k) (.mul (.uf 1707 Ec [.agg (.ro k),.int .i64 (.ofN n),.int .i64 x,.bool b]) 4)) []) (.one .nilp [])))
 | _=>none
def inS:DSum:=fun args _=>match args with
 | [.agg (.of [.int .i64 _,.slice _ (.ro k) (.lit 0) n,.slice _ (.ro _) (.lit 0) _]),.agg (.of [.int .i64 x,.bool b])]=>some (.chk (.uf 1710 U9 [.agg (.ro k),.int .i64 (.ofN n)]) (.one (.int .i64 (.uf 1709 Px [.agg (.ro k),.int .i64 (.ofN n),.int .i64 x,.bool b])) []))
 | _=>none
theorem dtS_ok :DSumOk (⟨zM,G,B⟩:A1) 34 dtS:=by
 intro args H o ho;unfold dtS at ho;split at ho
 ·rename_i mb k n x b;simp only [zN] at ho;subst ho;intro hk;have key:=bC8 G B (vN G k) (vN G n) (vI G x) (vB G b) hk;rw [←Im] at key
  have wk:∀ {K},ACalls (⟨zM,G,B⟩:A1) 34 [.slice true (.ro (vN G k)) 0 (vN G n),.agg [.int .i64 (vI G x),.bool (vB G b)]] [] K→ACalls (⟨zM,G,B⟩:A1) 34 (vVs G [.slice mb (.ro k) (.lit 0) n,.agg (.of [.int .i64 x,.bool b])]) [] K:=fun h=>h.weaken fun ρ vs hv=>by
   simp only [vVs,vV,vL,vR,vN,VRs] at hv ⊢;obtain ⟨v,vs',e,q1,q2⟩:=hv;exact ⟨v,vs',e,Dj q1,q2⟩
  refine ⟨fun hl=>?_,fun hl=>?_⟩
  ·have hl':((Ec [.agg (G (vN G k)),.int .i64 (vN G n:Int),.int .i64 (vI G x),.bool (vB G b)]:Nat):Int)<(vN G n:Int):=zR hl;rw [if_pos (by omega)] at key;exact E1.ro0 (C:=(⟨zM,G,B⟩:A1)) (wk key) (by simp [vVs,vV,vL,vR,A6,B0]) (by simp [vV,vR,B0])
  ·have hl':¬((Ec [.agg (G (vN G k)),.int .i64 (vN G n:Int),.int .i64 (vI G x),.bool (vB G b)]:Nat):Int)<(vN G n:Int):=sJ hl;rw [if_neg (by omega)] at key;exact E1.ro0 (C:=(⟨zM,G,B⟩:A1)) (wk key) (by simp [vVs,vV,vL,vR,A6,B0]) (by simp [vV,B0])
 ·simp at ho
theorem inS_ok :DSumOk (⟨zM,G,B⟩:A1) 37 inS:=by
 intro args H o ho;unfold inS at ho;split at ho
 ·rename_i s mb k n mb' k' n' x b;simp only [zN] at ho;subst ho;intro hk;have key:=bB3 G B (vN G k) (vN G n) (vN G k') (vN G n') (vI G s) (vI G x) (vB G b) hk;rw [←Pw] at key;refine E1.ro0 (C:=(⟨zM,G,B⟩:A1)) (key.weaken fun ρ vs hv=>?_) (by simp [vVs,vV,vL,vR,A6,B0]) (by simp [vV,B0]);simp only [vVs,vV,vL,vR,vN,VRs,VR] at hv ⊢;obtain ⟨v,vs',e,⟨ws,e2,w1,t1,e3,q1,w2,t2,e4,q2,w3,t3,e5,q3,q4⟩,q6⟩:=hv
  exact ⟨v,vs',e,⟨ws,e2,w1,t1,e3,q1,w2,t2,e4,(by have:=Dj (show VR ρ (.slice mb (.ro (vN G k)) 0 (vN G n)) w2 by simpa only [VR] using q2);simpa only [VR] using this),w3,t3,e5,(by have:=Dj (show VR ρ (.slice mb' (.ro (vN G k')) 0 (vN G n')) w3 by simpa only [VR] using q3);simpa only [VR] using this),q4⟩,q6⟩
 ·simp at ho
def progIc:List (Nat×DSum):=(34,dtS)::(37,inS)::progIb
theorem Nm :P8 (⟨zM,G,B⟩:A1) progIc:=.cons (dtS_ok G B) (.cons (inS_ok G B) (Jl G B))
theorem ck_d (ks n kp m:Nat) (s y:Int) (w:Bool) (i:Nat) (Q:Ex→List AV→Hp→Prop) (R:AV→Hp→Prop):vT G Q R (H4 (Dc zM [] progIc [] 1) 300 20 1 (A5 Try.f20 1) 98 [1,2,3,4,73,74,75] [.ptr (.rw 0) (.lit 0),.int .i64 (.lit 0),.bool (.var 9 w),.int .i64 (.var 10 y),.slice true (.ro (.var 4 kp)) (.lit 0) (.var 5 m),.int .i64 (.ofN (.var 5 m)),.int .i64 (.ofN (.var 8 i))] [some ⟨1,.of [.int .i64 (.var 1 s),.slice true (.ro (.var 2 ks)) (.lit 0) (.var 3 n),.slice true (.ro (.var 4 kp)) (.lit 0) (.var 5 m)]⟩])=(
  (decide (((i:Int):Int)<(m:Int))=true→decide ((0:Int)≤(i:Int))=true∧decide (((i:Int):Int)<(m:Int))=true∧G6 (G kp) (i*2) [.int .i64,.bool]=true∧(decide ((A2 (G kp) (i*2):Int)<y)=true→Q .ret [.ptr (.rw 0) 0,.int .i64 2,.bool w,.int .i64 y,.slice true (.ro kp) 0 m,.int .i64 ((m:Int)),.int .i64 ((i:Int))] [some ⟨1,([.int .i64 s,.slice true (.ro ks) 0 n,.slice true (.ro kp) 0 m]:List AV)⟩,some ⟨1,([.int .i64 (A2 (G kp) (i*2)),.bool (G8 (G kp) (i*2+1))]:List AV)⟩])∧(decide ((A2 (G kp) (i*2):Int)<y)=false→U9 [.agg (G ks),.int .i64 ((n:Int))]=true∧(decide ((((Ec [.agg (G ks),.int .i64 ((n:Int)),.int .i64 (A2 (G kp) (i*2)),.bool (G8 (G kp) (i*2+1))]:Nat):Int):Int)<(n:Int))=true→Q .normal [.ptr (.rw 0) 0,.int .i64 0,.bool w,.int .i64 (wS .i64 (A2 (G kp) (i*2)+Sz [.bool (G8 (G kp) (i*2+1))])),.slice true (.ro kp) 0 m,.int .i64 ((m:Int)),.int .i64 (wS .i64 ((i:Int)+1))] [some ⟨1,([.int .i64 s,.slice true (.ro ks) 0 n,.slice true (.ro kp) 0 m]:List AV)⟩,some ⟨1,([.int .i64 (A2 (G kp) (i*2)),.bool (G8 (G kp) (i*2+1))]:List AV)⟩])∧(decide ((((Ec [.agg (G ks),.int .i64 ((n:Int)),.int .i64 (A2 (G kp) (i*2)),.bool (G8 (G kp) (i*2+1))]:Nat):Int):Int)<(n:Int))=false→Q .ret [.ptr (.rw 0) 0,.int .i64 2,.bool w,.int .i64 y,.slice true (.ro kp) 0 m,.int .i64 ((m:Int)),.int .i64 ((i:Int))] [some ⟨1,([.int .i64 s,.slice true (.ro ks) 0 n,.slice true (.ro kp) 0 m]:List AV)⟩,some ⟨1,([.int .i64 (A2 (G kp) (i*2)),.bool (G8 (G kp) (i*2+1))]:List AV)⟩])))∧
 (decide (((i:Int):Int)<(m:Int))=false→Q (.exit 2) [.ptr (.rw 0) 0,.int .i64 0,.bool w,.int .i64 y,.slice true (.ro kp) 0 m,.int .i64 ((m:Int)),.int .i64 ((i:Int))] [some ⟨1,([.int .i64 s,.slice true (.ro ks) 0 n,.slice true (.ro kp) 0 m]:List AV)⟩])):=by kernel_rfl
def Pp (ks:Nat) (n:Nat) (kp:Nat) (m:Nat) (s:Int):List AV:=[.int .i64 s,.slice true (.ro ks) 0 n,.slice true (.ro kp) 0 m]
theorem ma_d (ks n kp m:Nat) (s:Int) (w:Bool) (i:Nat) (Q:Ex→List AV→Hp→Prop) (R:AV→Hp→Prop):vT G Q R (H4 (Dc zM [] progIc [] 1) 300 20 1 (A5 Try.f21 1) 130 [1,2,3,6] [.ptr (.rw 0) (.lit 0),.bool (.lit false),.bool (.var 9 w),.int .i64 (.ofN (.var 8 i))] [some ⟨1,.of [.int .i64 (.var 1 s),.slice true (.ro (.var 2 ks)) (.lit 0) (.var 3 n),.slice true (.ro (.var 4 kp)) (.lit 0) (.var 5 m)]⟩])=(
  (decide (((i:Int):Int)<(m:Int))=true→decide ((0:Int)≤(i:Int))=true∧decide (((i:Int):Int)<(m:Int))=true∧G6 (G kp) (i*2) [.int .i64,.bool]=true∧(decide ((A2 (G kp) (i*2):Int)<0)=true→Q .ret [.ptr (.rw 0) 0,.bool false,.bool w,.int .i64 ((i:Int))] [some ⟨1,(Pp ks n kp m s)⟩,some ⟨1,([.int .i64 (A2 (G kp) (i*2)),.bool (G8 (G kp) (i*2+1))]:List AV)⟩])∧(decide ((A2 (G kp) (i*2):Int)<0)=false→U9 [.agg (G ks),.int .i64 ((n:Int))]=true∧(decide ((Px [.agg (G ks),.int .i64 ((n:Int)),.int .i64 (A2 (G kp) (i*2)),.bool (G8 (G kp) (i*2+1))]:Int)<0)=true→Q .ret [.ptr (.rw 0) 0,.bool false,.bool w,.int .i64 ((i:Int))] [some ⟨1,(Pp ks n kp m s)⟩,some ⟨1,([.int .i64 (A2 (G kp) (i*2)),.bool (G8 (G kp) (i*2+1))]:List AV)⟩])∧(decide ((Px [.agg (G ks),.int .i64 ((n:Int)),.int .i64 (A2 (G kp) (i*2)),.bool (G8 (G kp) (i*2+1))]:Int)<0)=false→(decide (((i:Int):Int)>0)=true→decide ((0:Int)≤wS .i64 ((i:Int) - 1))=true∧decide ((wS .i64 ((i:Int) - 1):Int)<(m:Int))=true∧isI .i64 (G kp) ((Int.toNat (wS .i64 ((i:Int) - 1)))*2)=true∧decide ((0:Int)≤wS .i64 ((i:Int) - 1))=true∧decide ((wS .i64 ((i:Int) - 1):Int)<(m:Int))=true∧G6 (G kp) ((Int.toNat (wS .i64 ((i:Int) - 1)))*2) [.int .i64,.bool]=true∧(decide ((wS .i64 (A2 (G kp) ((Int.toNat (wS .i64 ((i:Int) - 1)))*2)+Sz [.bool (G8 (G kp) ((Int.toNat (wS .i64 ((i:Int) - 1)))*2+1))]):Int)>A2 (G kp) (i*2))=true→
 Q .ret [.ptr (.rw 0) 0,.bool false,.bool w,.int .i64 ((i:Int))] [some ⟨1,(Pp ks n kp m s)⟩,some ⟨1,([.int .i64 (A2 (G kp) (i*2)),.bool (G8 (G kp) (i*2+1))]:List AV)⟩])∧(decide ((wS .i64 (A2 (G kp) ((Int.toNat (wS .i64 ((i:Int) - 1)))*2)+Sz [.bool (G8 (G kp) ((Int.toNat (wS .i64 ((i:Int) - 1)))*2+1))]):Int)>A2 (G kp) (i*2))=false→Q .normal [.ptr (.rw 0) 0,.bool false,.bool w,.int .i64 (wS .i64 ((i:Int)+1))] [some ⟨1,(Pp ks n kp m s)⟩,some ⟨1,([.int .i64 (A2 (G kp) (i*2)),.bool (G8 (G kp) (i*2+1))]:List AV)⟩]))∧(decide (((i:Int):Int)>0)=false→Q .normal [.ptr (.rw 0) 0,.bool false,.bool w,.int .i64 (wS .i64 ((i:Int)+1))] [some ⟨1,(Pp ks n kp m s)⟩,some ⟨1,([.int .i64 (A2 (G kp) (i*2)),.bool (G8 (G kp) (i*2+1))]:List AV)⟩]))))∧(decide (((i:Int):Int)<(m:Int))=false→Q (.exit 2) [.ptr (.rw 0) 0,.bool false,.bool w,.int .i64 ((i:Int))] [some ⟨1,(Pp ks n kp m s)⟩])):=by kernel_rfl
end
def xP (ps:List AV) (j:Nat):Int:=A2 ps (j*2)
def hP (ps:List AV) (j:Nat):Bool:=G8 ps (j*2+1)
def plOk (ps:List AV) (j:Nat):Bool:=G6 ps (j*2) [.int .i64,.bool]&&(decide (-9223372036854775808≤xP ps j)&&decide (xP ps j≤9223372036854775807))
def Y7 (ps:List AV) (m:Nat):Bool:=J7 (plOk ps) m
def Ol:List AV→Bool:=fun xs=>match xs with
 | [.agg ps,.int _ m]=>Y7 ps m.toNat&&Nat.ble m.toNat 1000000
 | _=>false
theorem Hy {ps:List AV} {m:Nat}:Ol [.agg ps,.int .i64 (m:Int)]=true↔Y7 ps m=true∧m≤1000000:=by
 simp only [Ol,M5,zO];exact ⟨fun ⟨h1,h2⟩=>⟨h1,zA2 h2⟩,fun ⟨h1,h2⟩=>⟨h1,Nat.ble_eq_true_of_le h2⟩⟩
theorem S1 {ps:List AV} {m j:Nat} (h:Y7 ps m=true) (hj:j<m):G6 ps (j*2) [.int .i64,.bool]=true∧isI .i64 ps (j*2)=true∧-9223372036854775808≤xP ps j∧xP ps j≤9223372036854775807:=by
 have:=E7.1 h j hj
 simp only [plOk,zO,qC] at this;refine ⟨this.1,?_,this.2⟩
 have:=this.1
 simp only [G6,Ao,zO] at this;exact this.1
def sE (cs:List AV) (k:Nat):Int:=sA cs k+(sN cs k:Int)+sZ cs k
def aP (cs:List AV):Nat→Int
 | 0=>0
 | i+1=>sE cs i
def Qu (cs:List AV) (k:Nat):Bool:=Hu (sA cs k) (sR cs k) (sN cs k) (sZ cs k)
def Ac (cs:List AV) (k:Nat):Bool:=Qu cs k&&decide (aP cs k≤sA cs k)
def eS (cs:List AV) (s:Int) (k:Nat):Bool:=!((P1 .i64 (sR cs k) 4:Int)==0)&&(decide (s≥sA cs k)&&decide (s<sE cs k))
def Bp (cs:List AV) (s:Int):Nat→Bool
 | 0=>false
 | i+1=>Bp cs s i||eS cs s i
def So (ps:List AV):Nat→Int
 | 0=>0
 | j+1=>xP ps j+Ar (hP ps j)
def Cz (cs:List AV) (n:Nat) (ps:List AV) (j:Nat):Bool:=decide (So ps j≤xP ps j)&&decide (Z6 cs n (xP ps j) (hP ps j)<n)
theorem vU {cs:List AV} {s:Int} {i:Nat} (h:Bp cs s i=true):Bp cs s (i+1)=true:=by simp [Bp,h]
theorem vQ {cs:List AV} {s:Int} {i:Nat} (h:Bp cs s i=false) (h1:((P1 .i64 (sR cs i) 4:Int)==0)=true):Bp cs s (i+1)=false:=by simp only [Bp,eS,h,h1];rfl
theorem vP {cs:List AV} {s:Int} {i:Nat} (h:Bp cs s i=false) (h1:((P1 .i64 (sR cs i) 4:Int)==0)=false) (h2:decide (s≥sA cs i)=true):Bp cs s (i+1)=decide (s<sE cs i):=by simp only [Bp,eS,h,h1,h2];simp
theorem vO {cs:List AV} {s:Int} {i:Nat} (h:Bp cs s i=false) (h1:((P1 .i64 (sR cs i) 4:Int)==0)=false) (h2:decide (s≥sA cs i)=false):Bp cs s (i+1)=false:=by simp only [Bp,eS,h,h1,h2];rfl
def Dm:List AV→Bool:=fun xs=>match xs with
 | [.agg cs,.int _ n]=>J7 (Ac cs) n.toNat
 | _=>false
def Ej:List AV→Bool:=fun xs=>match xs with
 | [.agg cs,.int _ n,.int _ s]=>Bp cs s n.toNat
 | _=>false
def Ke:List AV→Bool:=fun xs=>match xs with
 | [.agg cs,.int _ n,.agg ps,.int _ m]=>J7 (Cz cs n.toNat ps) m.toNat
 | _=>false
theorem Et {cs:List AV} {n:Nat}:Dm [.agg cs,.int .i64 (n:Int)]=J7 (Ac cs) n:=by simp only [Dm,M5]
theorem bS {cs:List AV} {n:Nat} {s:Int}:Ej [.agg cs,.int .i64 (n:Int),.int .i64 s]=Bp cs s n:=by simp only [Ej,M5]
theorem Ld {cs ps:List AV} {n m:Nat}:Ke [.agg cs,.int .i64 (n:Int),.agg ps,.int .i64 (m:Int)]=J7 (Cz cs n ps) m:=by simp only [Ke,M5]
theorem qT {a r z:Int} {n:Nat}:Ti [.int .i64 a,.int .i64 r,.int .i64 (n:Int),.int .i64 z]=Hu a r n z:=by simp only [Ti,M5]
theorem upU_eq {a z:Int} {n:Nat}:upU [.int .i64 a,.int .i64 (n:Int),.int .i64 z]=upF a n z:=by simp only [upU,M5]
theorem bL {p:Nat→Bool} {n i:Nat} (h:i≤L9 (fun j=>!p j) n):∀ j,j<i→p j=true:=fun j hj=>by
 have:=(K2 (p:=fun j=>!p j) (k:=n)).2.2 j (by omega)
 simpa using this
theorem Jp {p:Nat→Bool} {n i:Nat} (h:i≤L9 (fun j=>!p j) n) (hi:i<n) (hp:p i=true):i<L9 (fun j=>!p j) n:=by
 have:=Uu h hi
 simp only [hp,Bool.not_true] at this
 have:=sJ this.symm
 omega
theorem Lk {p:Nat→Bool} {n i:Nat} (h:i≤L9 (fun j=>!p j) n) (hi:¬i<n):J7 p n=true:=E7.2 fun j hj=>bL h j (by omega)
def cond1 (cs:List AV) (n:Nat):Bool:=U9 [.agg cs,.int .i64 (n:Int)]
def kJ (cs:List AV) (n:Nat) (ps:List AV) (m:Nat):Bool:=U9 [.agg cs,.int .i64 (n:Int)]&&(Ol [.agg ps,.int .i64 (m:Int)]&&J7 (Ac cs) n)
def ckQ (G:Nat→List AV) (ks n kp m:Nat) (s:Int):List AV→Bool:=Sl (cond1 (G ks) n) [.ptr (.rw 0) 0,.int .i64 0,.bool false,.int .i64 0,.slice true (.ro ks) 0 n,.int .i64 (n:Int),.int .i64 0] [some ⟨1,[.int .i64 s,.slice true (.ro ks) 0 n,.slice true (.ro kp) 0 m]⟩]
def ckO (ks n kp m:Nat) (s:Int):LOut:=.tst (.uf 1711 Dm [.agg (.ro (.var 2 ks)),.int .i64 (.ofN (.var 3 n))]) (.one (.exit 0) [.ptr (.rw 0) (.lit 0),.int .i64 (.lit 0),.bool (.uf 1712 Ej [.agg (.ro (.var 2 ks)),.int .i64 (.ofN (.var 3 n)),.int .i64 (.var 1 s)]),.undef,.undef,.undef,.undef] [some ⟨1,.of [.int .i64 (.var 1 s),.slice true (.ro (.var 2 ks)) (.lit 0) (.var 3 n),.slice true (.ro (.var 4 kp)) (.lit 0) (.var 5 m)]⟩]) (.one .ret [.undef,.int .i64 (.lit 2),.undef,.undef,.undef,.undef,.undef] [some ⟨1,.of [.int .i64 (.var 1 s),.slice true (.ro (.var 2 ks)) (.lit 0) (.var 3 n),.slice true (.ro (.var 4 kp)) (.lit 0) (.var 5 m)]⟩])
def cdQ (G:Nat→List AV) (ks n kp m:Nat) (s:Int):List AV→Bool:=Sl (kJ (G ks) n (G kp) m) [.ptr (.rw 0) 0,.int .i64 0,.bool (Ej [.agg (G ks),.int .i64 (n:Int),.int .i64 s]),.int .i64 0,.slice true (.ro kp) 0 m,.int .i64 (m:Int),.int .i64 0] [some ⟨1,[.int .i64 s,.slice true (.ro ks) 0 n,.slice true (.ro kp) 0 m]⟩]
def cdO (ks n kp m:Nat) (s:Int):LOut:=.tst (.uf 1713 Ke [.agg (.ro (.var 2 ks)),.int .i64 (.ofN (.var 3 n)),.agg (.ro (.var 4 kp)),.int .i64 (.ofN (.var 5 m))]) (.one (.exit 2) [.ptr (.rw 0) (.lit 0),.int .i64 (.lit 0),.bool (.uf 1712 Ej [.agg (.ro (.var 2 ks)),.int .i64 (.ofN (.var 3 n)),.int .i64 (.var 1 s)]),.undef,.undef,.undef,.undef] [some ⟨1,.of [.int .i64 (.var 1 s),.slice true (.ro (.var 2 ks)) (.lit 0) (.var 3 n),.slice true (.ro (.var 4 kp)) (.lit 0) (.var 5 m)]⟩]) (.one .ret [.undef,.int .i64 (.lit 2),.undef,.undef,.undef,.undef,.undef] [some ⟨1,.of [.int .i64 (.var 1 s),.slice true (.ro (.var 2 ks)) (.lit 0) (.var 3 n),.slice true (.ro (.var 4 kp)) (.lit 0) (.var 5 m)]⟩])
theorem t20 (G:Nat→List AV) (ks n kp m:Nat) (s:Int) (Q:Ex→List AV→Hp→Prop) (R:AV→Hp→Prop):vT G Q R (H5 (Dc Try.prog [] progIc [(D4 1714 (ckQ G ks n kp m s) 0 98 [1,2,3,4,31,32,33] (ckO ks n kp m s)),(D4 1715 (cdQ G ks n kp m s) 2 98 [1,2,3,4,73,74,75] (cdO ks n kp m s))] 1) 300 20 Try.f20 [.agg (.of [.int .i64 (.var 1 s),.slice true (.ro (.var 2 ks)) (.lit 0) (.var 3 n),.slice true (.ro (.var 4 kp)) (.lit 0) (.var 5 m)])] [] 0)=(
  (decide (((n:Int):Int)>8)=true→R (.int .i64 2) [])∧(decide (((n:Int):Int)>8)=false→(decide (((m:Int):Int)>512)=true→R (.int .i64 2) [])∧(decide (((m:Int):Int)>512)=false→(decide ((s:Int)<0)=true→R (.int .i64 2) [])∧(decide ((s:Int)<0)=false→(((Int.tmod s 4:Int)==0)=true→(ckQ G ks n kp m s) [.agg ([.ptr (.rw 0) 0,.int .i64 0,.bool false,.int .i64 0,.slice true (.ro ks) 0 n,.int .i64 ((n:Int)),.int .i64 0]:List AV),.agg ([.tup [.int .i64 1,.agg ([.int .i64 s,.slice true (.ro ks) 0 n,.slice true (.ro kp) 0 m]:List AV)]]:List AV)]=true∧(Dm [.agg (G ks),.int .i64 ((n:Int))]=true→(cdQ G ks n kp m s) [.agg ([.ptr (.rw 0) 0,.int .i64 0,.bool (Ej [.agg (G ks),.int .i64 ((n:Int)),.int .i64 s]),.int .i64 0,.slice true (.ro kp) 0 m,.int .i64 ((m:Int)),.int .i64 0]:List AV),.agg ([.tup [.int .i64 1,.agg ([.int .i64 s,.slice true (.ro ks) 0 n,.slice true (.ro kp) 0 m]:List AV)]]:List AV)]=true∧(Ke [.agg (G ks),.int .i64 ((n:Int)),.agg (G kp),.int .i64 ((m:Int))]=true→(Ej [.agg (G ks),.int .i64 ((n:Int)),.int .i64 s]=true→R (.int .i64 0) [])∧(Ej [.agg (G ks),.int .i64 ((n:Int)),.int .i64 s]=false→R (.int .i64 2) []))∧(Ke [.agg (G ks),.int .i64 ((n:Int)),.agg (G kp),.int .i64 ((m:Int))]=false→R (.int .i64 2) []))∧(Dm [.agg (G ks),.int .i64 ((n:Int))]=false→R (.int .i64 2) []))∧(((Int.tmod s 4:Int)==0)=false→R (.int .i64 2) []))))):=by kernel_rfl
def maQ (G:Nat→List AV) (ks n kp m:Nat) (s:Int):List AV→Bool:=Sl (cond1 (G ks) n) [.ptr (.rw 0) 0,.bool false,.bool false,.int .i64 0] [some ⟨1,[.int .i64 s,.slice true (.ro ks) 0 n,.slice true (.ro kp) 0 m]⟩]
def maO (ks n kp m:Nat) (s:Int):LOut:=.tst (.uf 1711 Dm [.agg (.ro (.var 2 ks)),.int .i64 (.ofN (.var 3 n))]) (.one (.exit 0) [.ptr (.rw 0) (.lit 0),.bool (.lit false),.bool (.uf 1712 Ej [.agg (.ro (.var 2 ks)),.int .i64 (.ofN (.var 3 n)),.int .i64 (.var 1 s)]),.undef] [some ⟨1,.of [.int .i64 (.var 1 s),.slice true (.ro (.var 2 ks)) (.lit 0) (.var 3 n),.slice true (.ro (.var 4 kp)) (.lit 0) (.var 5 m)]⟩]) (.one .ret [.undef,.bool (.lit false),.undef,.undef] [some ⟨1,.of [.int .i64 (.var 1 s),.slice true (.ro (.var 2 ks)) (.lit 0) (.var 3 n),.slice true (.ro (.var 4 kp)) (.lit 0) (.var 5 m)]⟩])
def mdQ (G:Nat→List AV) (ks n kp m:Nat) (s:Int):List AV→Bool:=Sl (kJ (G ks) n (G kp) m) [.ptr (.rw 0) 0,.bool false,.bool (Ej [.agg (G ks),.int .i64 (n:Int),.int .i64 s]),.int .i64 0] [some ⟨1,[.int .i64 s,.slice true (.ro ks) 0 n,.slice true (.ro kp) 0 m]⟩]
def mdO (ks n kp m:Nat) (s:Int):LOut:=.tst (.uf 1713 Ke [.agg (.ro (.var 2 ks)),.int .i64 (.ofN (.var 3 n)),.agg (.ro (.var 4 kp)),.int .i64 (.ofN (.var 5 m))]) (.one (.exit 2) [.ptr (.rw 0) (.lit 0),.bool (.lit false),.bool (.uf 1712 Ej [.agg (.ro (.var 2 ks)),.int .i64 (.ofN (.var 3 n)),.int .i64 (.var 1 s)]),.undef] [some ⟨1,.of [.int .i64 (.var 1 s),.slice true (.ro (.var 2 ks)) (.lit 0) (.var 3 n),.slice true (.ro (.var 4 kp)) (.lit 0) (.var 5 m)]⟩]) (.one .ret [.undef,.bool (.lit false),.undef,.undef] [some ⟨1,.of [.int .i64 (.var 1 s),.slice true (.ro (.var 2 ks)) (.lit 0) (.var 3 n),.slice true (.ro (.var 4 kp)) (.lit 0) (.var 5 m)]⟩])
theorem t21 (G:Nat→List AV) (ks n kp m:Nat) (s:Int) (Q:Ex→List AV→Hp→Prop) (R:AV→Hp→Prop):vT G Q R (H5 (Dc Try.prog [] progIc [(D4 1716 (maQ G ks n kp m s) 0 130 [1,2,3,4] (maO ks n kp m s)),(D4 1717 (mdQ G ks n kp m s) 2 130 [1,2,3,6] (mdO ks n kp m s))] 1) 300 20 Try.f21 [.agg (.of [.int .i64 (.var 1 s),.slice true (.ro (.var 2 ks)) (.lit 0) (.var 3 n),.slice true (.ro (.var 4 kp)) (.lit 0) (.var 5 m)])] [] 0)=(
  (decide (((n:Int):Int)>8)=true→R (.bool false) [])∧(decide (((n:Int):Int)>8)=false→(decide (((m:Int):Int)>512)=true→R (.bool false) [])∧(decide (((m:Int):Int)>512)=false→(decide ((s:Int)<0)=true→R (.bool false) [])∧(decide ((s:Int)<0)=false→(((Int.tmod s 4:Int)==0)=true→(maQ G ks n kp m s) [.agg ([.ptr (.rw 0) 0,.bool false,.bool false,.int .i64 0]:List AV),.agg ([.tup [.int .i64 1,.agg ([.int .i64 s,.slice true (.ro ks) 0 n,.slice true (.ro kp) 0 m]:List AV)]]:List AV)]=true∧(Dm [.agg (G ks),.int .i64 ((n:Int))]=true→(mdQ G ks n kp m s) [.agg ([.ptr (.rw 0) 0,.bool false,.bool (Ej [.agg (G ks),.int .i64 ((n:Int)),.int .i64 s]),.int .i64 0]:List AV),.agg ([.tup [.int .i64 1,.agg ([.int .i64 s,.slice true (.ro ks) 0 n,.slice true (.ro kp) 0 m]:List AV)]]:List AV)]=true∧(Ke [.agg (G ks),.int .i64 ((n:Int)),.agg (G kp),.int .i64 ((m:Int))]=true→R (.bool (Ej [.agg (G ks),.int .i64 ((n:Int)),.int .i64 s])) [])∧(Ke [.agg (G ks),.int .i64 ((n:Int)),.agg (G kp),.int .i64 ((m:Int))]=false→R (.bool false) []))∧(Dm [.agg (G ks),.int .i64 ((n:Int))]=false→R (.bool false) []))∧(((Int.tmod s 4:Int)==0)=false→R (.bool false) []))))):=by kernel_rfl
theorem hit_eq {cs:List AV} {x:Int} {h:Bool} {k:Nat} (hs:Qu cs k=true) (hx:0≤x∧x≤9223372036854775807):Uo cs x h k=Mn cs x h k:=by
 have hs:=Q6.1 hs;have hw:2≤Ar h∧Ar h≤4:=by unfold Ar;split<;>omega
 unfold Uo Mn;by_cases h1:sA cs k≤x
 ·rw [yI h1,Bool.true_and,Bool.true_and,B5 (n:=x - sA cs k) (by omega),B5 (n:=(sN cs k:Int) - Ar h) (by omega),B5 (n:=sA cs k+(sN cs k:Int)) (by omega)];by_cases h2:x≤8192
  ·rw [yI h2,Bool.true_and,B5 (n:=x+Ar h) (by omega),Bool.eq_iff_iff,decide_eq_true_iff,decide_eq_true_iff];omega
  ·rw [sL h2,Bool.false_and];exact sL (by omega)
 ·rw [sL h1,Bool.false_and,Bool.false_and]
theorem vG {p q:Nat→Bool} {n:Nat} (h:∀ j,j<n→p j=q j):L9 p n=L9 q n:=by
 obtain ⟨a1,a2,a3⟩:=K2 (p:=p) (k:=n);obtain ⟨b1,b2,b3⟩:=K2 (p:=q) (k:=n);rcases Nat.lt_trichotomy (L9 p n) (L9 q n) with h1 | h1 | h1
 ·have:=a2 (by omega);rw [h _ (by omega),b3 _ h1] at this;simp at this
 ·exact h1
 ·have:=b2 (by omega);rw [←h _ (by omega),a3 _ h1] at this;simp at this
theorem oM {cs:List AV} {n:Nat} {x:Int} {h:Bool} (hs:J7 (Ac cs) n=true) (hx:0≤x∧x≤9223372036854775807):Z6 cs n x h=inN cs n x h:=vG fun j hj=>hit_eq (by have:=E7.1 hs j hj;unfold Ac at this;rw [zO] at this;exact this.1) hx
theorem oL {cs:List AV} {n:Nat} {x:Int} {h:Bool} (hs:J7 (Ac cs) n=true) (hx:0≤x∧x≤9223372036854775807) (hd:Z6 cs n x h<n):x≤8192:=by
 rw [oM hs hx] at hd
 have:=(K2 (p:=Mn cs x h) (k:=n)).2.1 hd
 unfold Mn at this;simp only [zO,qC] at this;exact this.2.1
theorem uL {cs ps:List AV} {n m i:Nat} (hs:J7 (Ac cs) n=true) (hp:Y7 ps m=true):i≤m→(∀ j,j<i→Cz cs n ps j=true)→0≤So ps i∧So ps i≤8200:=by
 induction i with
 | zero=>intro _ _;exact ⟨Int.le_refl _,by show (0:Int)≤8200;omega⟩
 | succ i ih=>
  intro hi h;have ih:=ih (by omega) fun j hj=>h j (by omega)
  have:=h i (by omega)
  unfold Cz at this;simp only [zO,qC] at this;have hx:=(S1 hp (j:=i) (by omega)).2.2
  have:=oL hs (by omega) this.2
  have hw:2≤Ar (hP ps i)∧Ar (hP ps i)≤4:=by unfold Ar;split<;>omega
  show 0≤xP ps i+Ar (hP ps i)∧xP ps i+Ar (hP ps i)≤8200;omega
theorem szE {cs:List AV} {i:Nat} (h:Qu cs i=true):IntKind.wrap .i64 (sA cs i+lF (sN cs i) (sZ cs i))=sE cs i:=by
 have:=Q6.1 h
 have e:lF (sN cs i) (sZ cs i)=(sN cs i:Int)+sZ cs i:=B5 (by omega);rw [e,B5 (by omega)];unfold sE;omega
theorem rszE {cs:List AV} {i:Nat} (h:Qu cs i=true):IntKind.wrap .i64 (sA cs i+Oj (sN cs i) (sZ cs i))=sE cs i:=by
 have:=Q6.1 h
 have e:Oj (sN cs i) (sZ cs i)=(sN cs i:Int)+sZ cs i:=if_pos ⟨by omega,by omega,by omega⟩;rw [e,B5 (by omega)];unfold sE;omega
theorem ckL_ok (G:Nat→List AV) (B:Nat) (ks n kp m:Nat) (s:Int):F5 (⟨Try.prog,G,B⟩:A1) 1 (A5 Try.f20 0) (D4 1714 (ckQ G ks n kp m s) 0 98 [1,2,3,4,31,32,33] (ckO ks n kp m s)):=by
 refine Gf rfl fun hc=>?_;obtain ⟨hk,hn⟩:=R3.1 hc;refine W8 (L9 (fun j=>!Ac (G ks) j) n) (fun i=>[.ptr (.rw 0) 0,.int .i64 0,.bool (Bp (G ks) s i),.int .i64 (aP (G ks) i),.slice true (.ro ks) 0 n,.int .i64 (n:Int),.int .i64 (i:Int)]) (fun _=>[some ⟨1,[.int .i64 s,.slice true (.ro ks) 0 n,.slice true (.ro kp) 0 m]⟩]) fun i hi=>?_;have hle:L9 (fun j=>!Ac (G ks) j) n≤n:=K2.1
 refine D3 (C:=(⟨Try.prog,G,B⟩:A1)) (by rw [show loopsOf (A5 Try.f20 0)=[] by kernel_rfl];exact C7 (inl:=[]) (ls:=[]) (M:=1) (Bc G B) (by kernel_rfl) (Jl G B) .nil) (fuel:=300) (n0:=20) (m:=1) (c:=A5 Try.f20 0) (vs:=[.ptr (.rw 0) (.lit 0),.int .i64 (.lit 0),.bool (.var 9 (Bp (G ks) s i)),.int .i64 (.var 10 (aP (G ks) i)),.slice true (.ro (.var 2 ks)) (.lit 0) (.var 3 n),.int .i64 (.ofN (.var 3 n)),.int .i64 (.ofN (.var 8 i))]) (H:=[some ⟨1,.of [.int .i64 (.var 1 s),.slice true (.ro (.var 2 ks)) (.lit 0) (.var 3 n),.slice true (.ro (.var 4 kp)) (.lit 0) (.var 5 m)]⟩]) (by simp) ?_
 rw [ck_b];have fb:I1 1 [some ⟨1,[.int .i64 s,.slice true (.ro ks) 0 n,.slice true (.ro kp) 0 m]⟩]=true:=by simp [I1,A6,B0]
 refine ⟨fun h1=>?_,fun h1=>?_⟩
 ·have h1':=zR h1;have hin:i<n:=by omega
  rw [B5 (n:=(i:Int)+1) (by omega),qT,xJ]
  have no:Ac (G ks) i=false→¬Dm [.agg (G ks),.int .i64 (n:Int)]=true:=fun h=>by
   rw [Et,Z9 hin h];simp
  have nof:Ac (G ks) i=false→Dm [.agg (G ks),.int .i64 (n:Int)]=false:=fun h=>by
   rw [Et,Z9 hin h]
  refine ⟨yI (by omega),h1,S9 hk hin,fun h2=>?_,fun h2=>?_⟩
  ·have h2':Qu (G ks) i=true:=h2;have e:=szE h2';unfold sA sN sZ at e;rw [e];refine ⟨fun h3=>?_,fun h3=>?_⟩
   ·refine .inr ⟨nof ?_,rfl,.inr (C5.same (H:=[some ⟨1,[.int .i64 s,.slice true (.ro ks) 0 n,.slice true (.ro kp) 0 m]⟩]) (by simp) fb (by simp [fv,B0,vVs,vV,vI]))⟩;have h3:A2 (G ks) (i*4)<aP (G ks) i:=zR h3;unfold Ac;rw [h2',sL (by unfold sA;omega)];rfl
   ·have h3:¬A2 (G ks) (i*4)<aP (G ks) i:=sJ h3;have lt:=Jp hi hin (by unfold Ac;rw [h2',yI (by unfold sA;omega)];rfl);refine ⟨fun w1=>?_,fun w1=>⟨fun g1=>?_,fun g1=>⟨fun g2=>?_,fun g2=>?_⟩⟩⟩
    ·exact ⟨lt,.inr (C5.same (H:=[some ⟨1,[.int .i64 s,.slice true (.ro ks) 0 n,.slice true (.ro kp) 0 m]⟩]) (by simp) fb (by simp [fv,B0,A6,vU w1,aP]))⟩
    ·exact ⟨lt,.inr (C5.same (H:=[some ⟨1,[.int .i64 s,.slice true (.ro ks) 0 n,.slice true (.ro kp) 0 m]⟩]) (by simp) fb (by simp [fv,B0,A6,vQ w1 g1,aP]))⟩
    ·exact ⟨lt,.inr (C5.same (H:=[some ⟨1,[.int .i64 s,.slice true (.ro ks) 0 n,.slice true (.ro kp) 0 m]⟩]) (by simp) fb (by simp [fv,B0,A6,vP w1 g1 g2,aP]))⟩
    ·exact ⟨lt,.inr (C5.same (H:=[some ⟨1,[.int .i64 s,.slice true (.ro ks) 0 n,.slice true (.ro kp) 0 m]⟩]) (by simp) fb (by simp [fv,B0,A6,vO w1 g1 g2,aP]))⟩
  ·refine .inr ⟨nof ?_,rfl,.inr (C5.same (H:=[some ⟨1,[.int .i64 s,.slice true (.ro ks) 0 n,.slice true (.ro kp) 0 m]⟩]) (by simp) fb (by simp [fv,B0,vVs,vV,vI]))⟩;have h2':Qu (G ks) i=false:=h2;unfold Ac;rw [h2'];rfl
 ·have h1':=sJ h1;have e:i=n:=by omega
  refine .inl ⟨?_,rfl,.inl ⟨?_,rfl⟩⟩
  ·show Dm [.agg (G ks),.int .i64 (n:Int)]=true;rw [Et];exact Lk hi (by omega)
  ·show wk [.ptr (.rw 0) 0,.int .i64 0,.bool (Ej [.agg (G ks),.int .i64 (n:Int),.int .i64 s]),.undef,.undef,.undef,.undef] _;rw [bS,←e];simp [wk]
end Go.Am
