/-
  Images: the section in which a place lies. Images: which may be: the trees.
-/
import Derived.Test.YthejjolnlngahaaPart7
namespace Go.Am
open Go.Proofs
set_option maxRecDepth 100000
def sA (cs:List AV) (k:Nat):Int:=A3 cs (k*4)
def sR (cs:List AV) (k:Nat):Int:=A3 cs (k*4+1)
def sN (cs:List AV) (k:Nat):Nat:=C2 cs (k*4+2)
def sZ (cs:List AV) (k:Nat):Int:=A3 cs (k*4+3)
def I4 (cs:List AV) (n:Nat):Bool:=F9 (fun k=>D5 cs (k*4) [.int .i64,.int .i64,.sl,.int .i64]) n
theorem L9 {cs:List AV} {n k:Nat} (h:I4 cs n=true) (hk:k<n):D5 cs (k*4) [.int .i64,.int .i64,.sl,.int .i64]=true:=H4.1 h k hk
theorem Mb {cs:List AV} {n k:Nat} (h:I4 cs n=true) (hk:k<n):isI .i64 cs (k*4)=true∧Io cs (k*4+2)=true:=by
 have:=L9 h hk
 simp only [D5,X0,Bool.and_eq_true] at this;exact ⟨this.1,this.2.2.1⟩
def Bj (cs:List AV) (x:Int) (h:Bool) (k:Nat):Bool:=decide (sA cs k≤x)&&decide (IntKind.wrap .i64 (x - sA cs k)≤IntKind.wrap .i64 ((sN cs k:Int) - P2 h))
def Hd (cs:List AV) (x:Int) (h:Bool) (k:Nat):Bool:=decide (sA cs k≤x)&&(decide (x≤8192)&&decide (IntKind.wrap .i64 (x+P2 h)≤IntKind.wrap .i64 (sA cs k+(sN cs k:Int))))
def B2 (cs:List AV) (n:Nat) (x:Int) (h:Bool):Nat:=I9 (Bj cs x h) n
def inN (cs:List AV) (n:Nat) (x:Int) (h:Bool):Nat:=I9 (Hd cs x h) n
def Ia (cs:List AV) (n:Nat) (x:Int) (h:Bool):Int:=if inN cs n x h<n then (inN cs n x h:Int) else -1
def Au:List AV→Nat:=fun xs=>match xs with
 | [.agg cs,.int _ n,.int _ x,.bool h]=>B2 cs n.toNat x h
 | _=>0
def Cz:List AV→Int:=fun xs=>match xs with
 | [.agg cs,.int _ n,.int _ x,.bool h]=>Ia cs n.toNat x h
 | _=>0
def secsU:List AV→Bool:=fun xs=>match xs with
 | [.agg cs,.int _ n]=>I4 cs n.toNat&&Nat.ble n.toNat 1000000
 | _=>false
theorem I6 {cs:List AV} {n:Nat}:secsU [.agg cs,.int .i64 (n:Int)]=true↔I4 cs n=true∧n≤1000000:=by
 simp only [secsU,C4,Bool.and_eq_true];exact ⟨fun ⟨h1,h2⟩=>⟨h1,Nat.le_of_ble_eq_true h2⟩,fun ⟨h1,h2⟩=>⟨h1,Nat.ble_eq_true_of_le h2⟩⟩
def dtQ (G:Nat→List AV) (ks n:Nat) (x:Int) (h:Bool):List AV→Bool:=Jb (secsU [.agg (G ks),.int .i64 (n:Int)]) [.slice true (.ro ks) 0 n,.ptr (.rw 0) 0,.nilp,.int .i64 (n:Int),.int .i64 0] [some ⟨1,[.int .i64 x,.bool h]⟩]
def dtO (ks n:Nat) (x:Int) (h:Bool):LOut:=.tst (.cmp .lss (.ofN (.uf 1707 Au [.agg (.ro (.var 2 ks)),.int .i64 (.ofN (.var 3 n)),.int .i64 (.var 6 x),.bool (.var 7 h)])) (.ofN (.var 3 n))) (.one .ret [.undef,.undef,.ptr (.ro (.var 2 ks)) (.mul (.uf 1707 Au [.agg (.ro (.var 2 ks)),.int .i64 (.ofN (.var 3 n)),.int .i64 (.var 6 x),.bool (.var 7 h)]) 4),.undef,.undef] [some ⟨1,.of [.int .i64 (.var 6 x),.bool (.var 7 h)]⟩]) (.one (.exit 0) [.undef,.undef,.nilp,.undef,.undef] [some ⟨1,.of [.int .i64 (.var 6 x),.bool (.var 7 h)]⟩])
theorem t34 (G:Nat→List AV) (ks n:Nat) (x:Int) (h:Bool) (Q:Ex→List AV→Hp→Prop) (R:AV→Hp→Prop):vT G Q R (J7 (Dc Try.prog [] [] [(C3 1706 (dtQ G ks n x h) 0 42 [0,3,4,8,9] (dtO ks n x h))] 1) 300 20 Try.f34 [.slice true (.ro (.var 2 ks)) (.lit 0) (.var 3 n),.agg (.of [.int .i64 (.var 6 x),.bool (.var 7 h)])] [] 0)=(
  (dtQ G ks n x h) [.agg ([.slice true (.ro (ks)) (0) (n),.ptr (.rw 0) (0),.nilp,.int .i64 (((n:Nat):Int)),.int .i64 (0)]:List AV),.agg ([.tup [.int .i64 (1),.agg ([.int .i64 (x),.bool (h)]:List AV)]]:List AV)]=true∧(decide ((((Au [.agg (G (ks)),.int .i64 (((n:Nat):Int)),.int .i64 (x),.bool (h)]:Nat):Int):Int)<((n:Nat):Int))=true→R (.ptr (.ro (ks)) ((Au [.agg (G (ks)),.int .i64 (((n:Nat):Int)),.int .i64 (x),.bool (h)])*4)) [])∧(decide ((((Au [.agg (G (ks)),.int .i64 (((n:Nat):Int)),.int .i64 (x),.bool (h)]:Nat):Int):Int)<((n:Nat):Int))=false→R (.nilp) [])):=by kernel_rfl
def inQ (G:Nat→List AV) (ks n kp m:Nat) (s x:Int) (h:Bool):List AV→Bool:=Jb (secsU [.agg (G ks),.int .i64 (n:Int)]) [.ptr (.rw 0) 0,.ptr (.rw 1) 0,.int .i64 0,.int .i64 0] [some ⟨1,[.int .i64 s,.slice true (.ro ks) 0 n,.slice true (.ro kp) 0 m]⟩,some ⟨1,[.int .i64 x,.bool h]⟩]
def inO (ks n kp m:Nat) (s x:Int) (h:Bool):LOut:=.tst (.cmp .eql (.uf 1709 Cz [.agg (.ro (.var 2 ks)),.int .i64 (.ofN (.var 3 n)),.int .i64 (.var 6 x),.bool (.var 7 h)]) (.lit (-1))) (.one (.exit 0) [.undef,.undef,.undef,.undef] [some ⟨1,.of [.int .i64 (.var 1 s),.slice true (.ro (.var 2 ks)) (.lit 0) (.var 3 n),.slice true (.ro (.var 4 kp)) (.lit 0) (.var 5 m)]⟩,some ⟨1,.of [.int .i64 (.var 6 x),.bool (.var 7 h)]⟩]) (.one .ret [.undef,.undef,.int .i64 (.uf 1709 Cz [.agg (.ro (.var 2 ks)),.int .i64 (.ofN (.var 3 n)),.int .i64 (.var 6 x),.bool (.var 7 h)]),.undef] [some ⟨1,.of [.int .i64 (.var 1 s),.slice true (.ro (.var 2 ks)) (.lit 0) (.var 3 n),.slice true (.ro (.var 4 kp)) (.lit 0) (.var 5 m)]⟩,some ⟨1,.of [.int .i64 (.var 6 x),.bool (.var 7 h)]⟩])
theorem t37 (G:Nat→List AV) (ks n kp m:Nat) (s x:Int) (h:Bool) (Q:Ex→List AV→Hp→Prop) (R:AV→Hp→Prop):vT G Q R (J7 (Dc Try.prog [] [] [(C3 1708 (inQ G ks n kp m s x h) 0 44 [2,3,4,5] (inO ks n kp m s x h))] 2) 300 20 Try.f37 [.agg (.of [.int .i64 (.var 1 s),.slice true (.ro (.var 2 ks)) (.lit 0) (.var 3 n),.slice true (.ro (.var 4 kp)) (.lit 0) (.var 5 m)]),.agg (.of [.int .i64 (.var 6 x),.bool (.var 7 h)])] [] 0)=(
  (inQ G ks n kp m s x h) [.agg ([.ptr (.rw 0) (0),.ptr (.rw 1) (0),.int .i64 (0),.int .i64 (0)]:List AV),.agg ([.tup [.int .i64 (1),.agg ([.int .i64 (s),.slice true (.ro (ks)) (0) (n),.slice true (.ro (kp)) (0) (m)]:List AV)],.tup [.int .i64 (1),.agg ([.int .i64 (x),.bool (h)]:List AV)]]:List AV)]=true∧(((Cz [.agg (G (ks)),.int .i64 (((n:Nat):Int)),.int .i64 (x),.bool (h)]:Int)==(-1))=true→R (.int .i64 ((-1))) [])∧(((Cz [.agg (G (ks)),.int .i64 (((n:Nat):Int)),.int .i64 (x),.bool (h)]:Int)==(-1))=false→R (.int .i64 (Cz [.agg (G (ks)),.int .i64 (((n:Nat):Int)),.int .i64 (x),.bool (h)])) [])):=by kernel_rfl
theorem Cq {p:Nat→Bool} {n i:Nat} (h1:i≤I9 p n) (h2:i<n):p i=decide (i=I9 p n):=by
 obtain ⟨g1,g2,g3⟩:=G9 (p:=p) (k:=n);by_cases e:i=I9 p n
 ·rw [decide_eq_true e,e];exact g2 (by omega)
 ·rw [decide_eq_false e];exact g3 i (by omega)
theorem Dx {cs:List AV} {n:Nat} {x:Int} {h:Bool}:Au [.agg cs,.int .i64 (n:Int),.int .i64 x,.bool h]=B2 cs n x h:=by simp only [Au,C4]
theorem Ha {cs:List AV} {n:Nat} {x:Int} {h:Bool}:Cz [.agg cs,.int .i64 (n:Int),.int .i64 x,.bool h]=Ia cs n x h:=by simp only [Cz,C4]
theorem Yp {h:Bool}:Y0 [.bool h]=P2 h:=rfl
theorem vO (G:Nat→List AV) (B:Nat) (ks n:Nat) (x:Int) (h:Bool):H7 (⟨Try.prog,G,B⟩:A2) 1 (A4 Try.f34 0) (C3 1706 (dtQ G ks n x h) 0 42 [0,3,4,8,9] (dtO ks n x h)):=by
 refine Ao rfl fun hc=>?_;obtain ⟨hk,hn⟩:=I6.1 hc;have hle:B2 (G ks) n x h≤n:=G9.1;refine S0 (B2 (G ks) n x h) (fun i=>[.slice true (.ro ks) 0 n,.ptr (.rw 0) 0,.nilp,.int .i64 (n:Int),.int .i64 (i:Int)]) (fun _=>[some ⟨1,[.int .i64 x,.bool h]⟩]) fun i hi=>?_
 refine D3 (C:=(⟨Try.prog,G,B⟩:A2)) (by rw [show A8 (A4 Try.f34 0)=[] by kernel_rfl];exact I0 (inl:=[]) (ls:=[]) (M:=1) (E9 G B) (by kernel_rfl) (N7 G B) .nil) (fuel:=300) (n0:=20) (m:=1) (c:=A4 Try.f34 0) (vs:=[.slice true (.ro (.var 2 ks)) (.lit 0) (.var 3 n),.ptr (.rw 0) (.lit 0),.nilp,.int .i64 (.ofN (.var 3 n)),.int .i64 (.ofN (.var 8 i))]) (H:=[some ⟨1,.of [.int .i64 (.var 6 x),.bool (.var 7 h)]⟩]) (by simp) ?_;rw [dt_b];have fb:L1 1 [some ⟨1,[.int .i64 x,.bool h]⟩]=true:=by simp [L1,A5,B0]
 have key:i<n→Bj (G ks) x h i=decide (i=B2 (G ks) n x h):=fun h2=>Cq hi h2;simp only [Bj,sA,sN] at key
 have nx:Bj (G ks) x h i=false→i<n→i<B2 (G ks) n x h:=fun h1 h2=>by
  have:=Cq hi h2
  rw [h1] at this
  have:=of_decide_eq_false this.symm
  unfold B2 at *;omega
 refine ⟨fun h1=>?_,fun h1=>?_⟩
 ·have h1':=of_decide_eq_true h1;have hin:i<n:=by omega
  obtain ⟨t1,t2⟩:=Mb hk hin;rw [B6 (n:=(i:Int)+1) (by omega)];refine ⟨decide_eq_true (by omega),h1,t1,fun h2=>⟨t1,t2,fun h3=>?_,fun h3=>?_⟩,fun h2=>?_⟩
  ·have e:i=B2 (G ks) n x h:=of_decide_eq_true (by rw [←key hin,Bool.and_eq_true];exact ⟨h2,h3⟩);refine .inl ⟨?_,rfl,.inr ?_⟩
   ·show decide (((Au [.agg (G ks),.int .i64 (n:Int),.int .i64 x,.bool h]:Nat):Int)<(n:Int))=true;rw [Dx,←e];exact h1
   ·refine B7.same (H:=[some ⟨1,[.int .i64 x,.bool h]⟩]) (by simp) fb ?_;show fv 1 [.undef,.undef,.ptr (.ro ks) (Au [.agg (G ks),.int .i64 (n:Int),.int .i64 x,.bool h]*4),.undef,.undef] _;rw [Dx,←e];simp [fv,B0]
  ·exact ⟨nx (by unfold Bj sA sN;rw [Bool.and_eq_false_iff];exact .inr h3) hin,.inr (B7.same (H:=[some ⟨1,[.int .i64 x,.bool h]⟩]) (by simp) fb (by simp [fv,B0,A5]))⟩
  ·exact ⟨nx (by unfold Bj sA sN;rw [Bool.and_eq_false_iff];exact .inl h2) hin,.inr (B7.same (H:=[some ⟨1,[.int .i64 x,.bool h]⟩]) (by simp) fb (by simp [fv,B0,A5]))⟩
 ·have h1':=of_decide_eq_false h1;refine .inr ⟨?_,rfl,.inl ⟨by simp [vVs,vV,wk],rfl⟩⟩;show decide (((Au [.agg (G ks),.int .i64 (n:Int),.int .i64 x,.bool h]:Nat):Int)<(n:Int))=false;rw [Dx];exact decide_eq_false (by omega)
theorem ACalls.drop0 {C:A2} {f:FuncId} {args:List AV} {v0:AV} (h:ACalls C f args [] fun v _=>v=v0) (hb:B0 0 v0=true) (hu:v0≠.undef):ACalls C f args [] fun v H=>v=v0∧H=[]:=by
 refine h.view fun v H' hj=>⟨v0,[],⟨rfl,rfl⟩,?_⟩;subst hj;exact B7.same (H:=[]) (G:=H') (by simp) rfl (by simp [fv,hb])
theorem rR (G:Nat→List AV) (B:Nat) (ks n:Nat) (x:Int) (h:Bool) (hk:secsU [.agg (G ks),.int .i64 (n:Int)]=true):ACalls (⟨Try.prog,G,B⟩:A2) 34 [.slice true (.ro ks) 0 n,.agg [.int .i64 x,.bool h]] [] fun v H=>v=(if B2 (G ks) n x h<n then .ptr (.ro ks) (B2 (G ks) n x h*4) else .nilp)∧H=[]:=by
 have:=C9 (C:=(⟨Try.prog,G,B⟩:A2)) (fuel:=300) (n0:=20) (f:=34) (fn:=Try.f34) (args:=[.slice true (.ro (.var 2 ks)) (.lit 0) (.var 3 n),.agg (.of [.int .i64 (.var 6 x),.bool (.var 7 h)])]) (H:=[]) (keep:=0)
  (R:=fun v _=>v=(if B2 (G ks) n x h<n then .ptr (.ro ks) (B2 (G ks) n x h*4) else .nilp)) (I0 (inl:=[]) (ls:=[(C3 1706 (dtQ G ks n x h) 0 42 [0,3,4,8,9] (dtO ks n x h))]) (M:=1) (E9 G B) (by kernel_rfl) .nil (.cast (.cons (i:=0) (by kernel_rfl) rfl (vO G B ks n x h) .nil) (by kernel_rfl))) (by kernel_rfl) (by kernel_rfl) (by kernel_rfl) (by
  rw [t34];refine ⟨V8 hk rfl rfl,fun e=>?_,fun e=>?_⟩
  ·rw [Dx] at *;have:((B2 (G ks) n x h:Nat):Int)<(n:Int):=of_decide_eq_true e;exact (if_pos (by omega)).symm
  ·rw [Dx] at *;have:¬((B2 (G ks) n x h:Nat):Int)<(n:Int):=of_decide_eq_false e;exact (if_neg (by omega)).symm)
 refine ACalls.drop0 this ?_ ?_<;>split<;>simp [B0]
theorem uZ (G:Nat→List AV) (B:Nat) (ks n kp m:Nat) (s x:Int) (h:Bool):H7 (⟨Try.prog,G,B⟩:A2) 2 (A4 Try.f37 0) (C3 1708 (inQ G ks n kp m s x h) 0 44 [2,3,4,5] (inO ks n kp m s x h)):=by
 refine Ao rfl fun hc=>?_;obtain ⟨hk,hn⟩:=I6.1 hc;have hle:inN (G ks) n x h≤n:=G9.1;refine S0 (inN (G ks) n x h) (fun i=>[.ptr (.rw 0) 0,.ptr (.rw 1) 0,.int .i64 0,.int .i64 (i:Int)]) (fun _=>[some ⟨1,[.int .i64 s,.slice true (.ro ks) 0 n,.slice true (.ro kp) 0 m]⟩,some ⟨1,[.int .i64 x,.bool h]⟩]) fun i hi=>?_
 refine D3 (C:=(⟨Try.prog,G,B⟩:A2)) (by rw [show A8 (A4 Try.f37 0)=[] by kernel_rfl];exact I0 (inl:=[]) (ls:=[]) (M:=2) (E9 G B) (by kernel_rfl) (N7 G B) .nil) (fuel:=300) (n0:=20) (m:=2) (c:=A4 Try.f37 0) (vs:=[.ptr (.rw 0) (.lit 0),.ptr (.rw 1) (.lit 0),.int .i64 (.lit 0),.int .i64 (.ofN (.var 8 i))]) (H:=[some ⟨1,.of [.int .i64 (.var 1 s),.slice true (.ro (.var 2 ks)) (.lit 0) (.var 3 n),.slice true (.ro (.var 4 kp)) (.lit 0) (.var 5 m)]⟩,some ⟨1,.of [.int .i64 (.var 6 x),.bool (.var 7 h)]⟩]) (by simp) ?_;rw [in_b]
 have fb:L1 2 [some ⟨1,[.int .i64 s,.slice true (.ro ks) 0 n,.slice true (.ro kp) 0 m]⟩,some ⟨1,[.int .i64 x,.bool h]⟩]=true:=by simp [L1,A5,B0]
 have key:i<n→Hd (G ks) x h i=decide (i=inN (G ks) n x h):=fun h2=>Cq hi h2;simp only [Hd,sA,sN] at key
 have nx:Hd (G ks) x h i=false→i<n→i<inN (G ks) n x h:=fun h1 h2=>by
  have:=Cq hi h2
  rw [h1] at this
  have:=of_decide_eq_false this.symm
  unfold inN at *;omega
 refine ⟨fun h1=>?_,fun h1=>?_⟩
 ·have h1':=of_decide_eq_true h1;have hin:i<n:=by omega
  rw [B6 (n:=(i:Int)+1) (by omega)];refine ⟨decide_eq_true (by omega),h1,L9 hk hin,fun h2=>⟨fun h3=>⟨fun h4=>?_,fun h4=>?_⟩,fun h3=>?_⟩,fun h2=>?_⟩
  ·have e:i=inN (G ks) n x h:=of_decide_eq_true (by rw [←key hin,Bool.and_eq_true,Bool.and_eq_true];exact ⟨h2,h3,h4⟩);have e2:Ia (G ks) n x h=(i:Int):=by unfold Ia;rw [←e,if_pos hin]
   refine .inr ⟨?_,rfl,.inr ?_⟩
   ·show (Cz [.agg (G ks),.int .i64 (n:Int),.int .i64 x,.bool h]==(-1:Int))=false;rw [Ha,e2];exact beq_eq_false_iff_ne.2 (by omega)
   ·refine B7.same (H:=[some ⟨1,[.int .i64 s,.slice true (.ro ks) 0 n,.slice true (.ro kp) 0 m]⟩,some ⟨1,[.int .i64 x,.bool h]⟩]) (by simp) fb ?_;show fv 2 [.undef,.undef,.int .i64 (Cz [.agg (G ks),.int .i64 (n:Int),.int .i64 x,.bool h]),.undef] _;rw [Ha,e2];simp [fv,B0]
  ·exact ⟨nx (by unfold Hd sA sN;rw [Bool.and_eq_false_iff,Bool.and_eq_false_iff];exact .inr (.inr h4)) hin,.inr (B7.same (H:=[some ⟨1,[.int .i64 s,.slice true (.ro ks) 0 n,.slice true (.ro kp) 0 m]⟩,some ⟨1,[.int .i64 x,.bool h]⟩]) (by simp) fb (by simp [fv,B0,A5]))⟩
  ·exact ⟨nx (by unfold Hd sA sN;rw [Bool.and_eq_false_iff,Bool.and_eq_false_iff];exact .inr (.inl h3)) hin,.inr (B7.same (H:=[some ⟨1,[.int .i64 s,.slice true (.ro ks) 0 n,.slice true (.ro kp) 0 m]⟩,some ⟨1,[.int .i64 x,.bool h]⟩]) (by simp) fb (by simp [fv,B0,A5]))⟩
  ·exact ⟨nx (by unfold Hd sA sN;rw [Bool.and_eq_false_iff];exact .inl h2) hin,.inr (B7.same (H:=[some ⟨1,[.int .i64 s,.slice true (.ro ks) 0 n,.slice true (.ro kp) 0 m]⟩,some ⟨1,[.int .i64 x,.bool h]⟩]) (by simp) fb (by simp [fv,B0,A5]))⟩
 ·have h1':=of_decide_eq_false h1;refine .inl ⟨?_,rfl,.inl ⟨by simp [vVs,vV,wk],rfl⟩⟩;show (Cz [.agg (G ks),.int .i64 (n:Int),.int .i64 x,.bool h]==(-1:Int))=true;rw [Ha];unfold Ia;rw [if_neg (by omega)];rfl
theorem rH (G:Nat→List AV) (B:Nat) (ks n kp m:Nat) (s x:Int) (h:Bool) (hk:secsU [.agg (G ks),.int .i64 (n:Int)]=true):ACalls (⟨Try.prog,G,B⟩:A2) 37 [.agg [.int .i64 s,.slice true (.ro ks) 0 n,.slice true (.ro kp) 0 m],.agg [.int .i64 x,.bool h]] [] fun v H=>v=.int .i64 (Ia (G ks) n x h)∧H=[]:=by
 have:=C9 (C:=(⟨Try.prog,G,B⟩:A2)) (fuel:=300) (n0:=20) (f:=37) (fn:=Try.f37) (args:=[.agg (.of [.int .i64 (.var 1 s),.slice true (.ro (.var 2 ks)) (.lit 0) (.var 3 n),.slice true (.ro (.var 4 kp)) (.lit 0) (.var 5 m)]),.agg (.of [.int .i64 (.var 6 x),.bool (.var 7 h)])]) (H:=[]) (keep:=0)
  (R:=fun v _=>v=.int .i64 (Ia (G ks) n x h)) (I0 (inl:=[]) (ls:=[(C3 1708 (inQ G ks n kp m s x h) 0 44 [2,3,4,5] (inO ks n kp m s x h))]) (M:=2) (E9 G B) (by kernel_rfl) .nil (.cast (.cons (i:=0) (by kernel_rfl) rfl (uZ G B ks n kp m s x h) .nil) (by kernel_rfl))) (by kernel_rfl) (by kernel_rfl) (by kernel_rfl) (by
  rw [t37,Ha];refine ⟨V8 hk rfl rfl,fun e=>?_,fun e=>rfl⟩
  rw [eq_of_beq e])
 exact ACalls.drop0 this rfl (by simp)
end Go.Am
namespace Go.Am
open Go.Proofs
set_option maxRecDepth 100000
theorem F7.ro0 {C:A2} {f:FuncId} {args:List EV} {H:DHp} {v:EV} (h:ACalls C f (vVs C.G args) [] fun v' H'=>v'=vV C.G v∧H'=[]) (ha:A5 0 (vVs C.G args)=true) (hv:B0 0 (vV C.G v)=true):F7 C f args H v []:=by
 refine F7.fr (C:=C) (θ:=[]) (H0:=[]) (H1:=[]) (v0:=vV C.G v) (by simp) rfl (fun i b hi=>by simp at hi) ha (by rw [F5 _ _ ha]) h (Nat.le_refl _) hv rfl (by rw [Ki _ _ hv]) ?_;simp [acts,Ck,lay]
def dtS:DSum:=fun args _=>match args with
 | [.slice _ (.ro k) (.lit 0) n,.agg (.of [.int .i64 x,.bool b])]=>some (.chk (.uf 1710 secsU [.agg (.ro k),.int .i64 (.ofN n)]) (.tst (.cmp .lss (.ofN (.uf 1707 Au [.agg (.ro k),.int .i64 (.ofN n),.int .i64 x,.bool b])) (.ofN n)) (.one (.ptr (.ro k) (.mul (.uf 1707 Au [.agg (.ro k),.int .i64 (.ofN n),.int .i64 x,.bool b]) 4)) []) (.one .nilp [])))
 | _=>none
def inS:DSum:=fun args _=>match args with
 | [.agg (.of [.int .i64 _,.slice _ (.ro k) (.lit 0) n,.slice _ (.ro _) (.lit 0) _]),.agg (.of [.int .i64 x,.bool b])]=>some (.chk (.uf 1710 secsU [.agg (.ro k),.int .i64 (.ofN n)]) (.one (.int .i64 (.uf 1709 Cz [.agg (.ro k),.int .i64 (.ofN n),.int .i64 x,.bool b])) []))
 | _=>none
theorem vK (G:Nat→List AV) (B:Nat):G5 (⟨Try.prog,G,B⟩:A2) 34 dtS:=by
 intro args H o ho;unfold dtS at ho;split at ho
 ·rename_i mb k n x b;simp only [Option.some.injEq] at ho;subst ho;intro hk;have key:=rR G B (vN G k) (vN G n) (vI G x) (vB G b) hk;rw [←Dx] at key
  have wk:∀ {K},ACalls (⟨Try.prog,G,B⟩:A2) 34 [.slice true (.ro (vN G k)) 0 (vN G n),.agg [.int .i64 (vI G x),.bool (vB G b)]] [] K→ACalls (⟨Try.prog,G,B⟩:A2) 34 (vVs G [.slice mb (.ro k) (.lit 0) n,.agg (.of [.int .i64 x,.bool b])]) [] K:=fun h=>h.weaken fun ρ vs hv=>by
   simp only [vVs,vV,vL,vR,vN,VRs] at hv ⊢;obtain ⟨v,vs',e,q1,q2⟩:=hv;exact ⟨v,vs',e,P3 q1,q2⟩
  refine ⟨fun hl=>?_,fun hl=>?_⟩
  ·have hl':((Au [.agg (G (vN G k)),.int .i64 (vN G n:Int),.int .i64 (vI G x),.bool (vB G b)]:Nat):Int)<(vN G n:Int):=of_decide_eq_true hl;rw [if_pos (by omega)] at key;exact F7.ro0 (C:=(⟨Try.prog,G,B⟩:A2)) (wk key) (by simp [vVs,vV,vL,vR,A5,B0]) (by simp [vV,vR,B0])
  ·have hl':¬((Au [.agg (G (vN G k)),.int .i64 (vN G n:Int),.int .i64 (vI G x),.bool (vB G b)]:Nat):Int)<(vN G n:Int):=of_decide_eq_false hl;rw [if_neg (by omega)] at key;exact F7.ro0 (C:=(⟨Try.prog,G,B⟩:A2)) (wk key) (by simp [vVs,vV,vL,vR,A5,B0]) (by simp [vV,B0])
 ·simp at ho
theorem uX (G:Nat→List AV) (B:Nat):G5 (⟨Try.prog,G,B⟩:A2) 37 inS:=by
 intro args H o ho;unfold inS at ho;split at ho
 ·rename_i s mb k n mb' k' n' x b;simp only [Option.some.injEq] at ho;subst ho;intro hk;have key:=rH G B (vN G k) (vN G n) (vN G k') (vN G n') (vI G s) (vI G x) (vB G b) hk;rw [←Ha] at key;refine F7.ro0 (C:=(⟨Try.prog,G,B⟩:A2)) (key.weaken fun ρ vs hv=>?_) (by simp [vVs,vV,vL,vR,A5,B0]) (by simp [vV,B0]);simp only [vVs,vV,vL,vR,vN,VRs,VR] at hv ⊢;obtain ⟨v,vs',e,⟨ws,e2,w1,t1,e3,q1,w2,t2,e4,q2,w3,t3,e5,q3,q4⟩,q6⟩:=hv
  exact ⟨v,vs',e,⟨ws,e2,w1,t1,e3,q1,w2,t2,e4,(by have:=P3 (show VR ρ (.slice mb (.ro (vN G k)) 0 (vN G n)) w2 by simpa only [VR] using q2);simpa only [VR] using this),w3,t3,e5,(by have:=P3 (show VR ρ (.slice mb' (.ro (vN G k')) 0 (vN G n')) w3 by simpa only [VR] using q3);simpa only [VR] using this),q4⟩,q6⟩
 ·simp at ho
def progIc:List (Nat×DSum):=(34,dtS)::(37,inS)::progIb
theorem Bq (G:Nat→List AV) (B:Nat):U9 (⟨Try.prog,G,B⟩:A2) progIc:=.cons (vK G B) (.cons (uX G B) (N7 G B))
theorem ck_d (G:Nat→List AV) (ks n kp m:Nat) (s y:Int) (w:Bool) (i:Nat) (Q:Ex→List AV→Hp→Prop) (R:AV→Hp→Prop):vT G Q R (F8 (Dc Try.prog [] progIc [] 1) 300 20 1 (A4 Try.f20 1) 98 [1,2,3,4,73,74,75] [.ptr (.rw 0) (.lit 0),.int .i64 (.lit 0),.bool (.var 9 w),.int .i64 (.var 10 y),.slice true (.ro (.var 4 kp)) (.lit 0) (.var 5 m),.int .i64 (.ofN (.var 5 m)),.int .i64 (.ofN (.var 8 i))] [some ⟨1,.of [.int .i64 (.var 1 s),.slice true (.ro (.var 2 ks)) (.lit 0) (.var 3 n),.slice true (.ro (.var 4 kp)) (.lit 0) (.var 5 m)]⟩])=(
  (decide ((((i:Nat):Int):Int)<((m:Nat):Int))=true→decide ((0:Int)≤((i:Nat):Int))=true∧decide ((((i:Nat):Int):Int)<((m:Nat):Int))=true∧D5 (G (kp)) ((i)*2) [.int .i64,.bool]=true∧(decide ((A3 (G (kp)) ((i)*2):Int)<y)=true→Q .ret [.ptr (.rw 0) (0),.int .i64 (2),.bool (w),.int .i64 (y),.slice true (.ro (kp)) (0) (m),.int .i64 (((m:Nat):Int)),.int .i64 (((i:Nat):Int))] [some ⟨1,([.int .i64 (s),.slice true (.ro (ks)) (0) (n),.slice true (.ro (kp)) (0) (m)]:List AV)⟩,some ⟨1,([.int .i64 (A3 (G (kp)) ((i)*2)),.bool (D9 (G (kp)) ((i)*2+1))]:List AV)⟩])∧(decide ((A3 (G (kp)) ((i)*2):Int)<y)=false→secsU [.agg (G (ks)),.int .i64 (((n:Nat):Int))]=true∧(decide ((((Au [.agg (G (ks)),.int .i64 (((n:Nat):Int)),.int .i64 (A3 (G (kp)) ((i)*2)),.bool (D9 (G (kp)) ((i)*2+1))]:Nat):Int):Int)<((n:Nat):Int))=true→Q .normal [.ptr (.rw 0) (0),.int .i64 (0),.bool (w),.int .i64 (IntKind.wrap .i64 (A3 (G (kp)) ((i)*2)+Y0 [.bool (D9 (G (kp)) ((i)*2+1))])),.slice true (.ro (kp)) (0) (m),.int .i64 (((m:Nat):Int)),.int .i64 (IntKind.wrap .i64 (((i:Nat):Int)+1))] [some ⟨1,([.int .i64 (s),.slice true (.ro (ks)) (0) (n),.slice true (.ro (kp)) (0) (m)]:List AV)⟩,some ⟨1,([.int .i64 (A3 (G (kp)) ((i)*2)),.bool (D9 (G (kp)) ((i)*2+1))]:List AV)⟩])∧(decide ((((Au [.agg (G (ks)),.int .i64 (((n:Nat):Int)),.int .i64 (A3 (G (kp)) ((i)*2)),.bool (D9 (G (kp)) ((i)*2+1))]:Nat):Int):Int)<((n:Nat):Int))=false→Q .ret [.ptr (.rw 0) (0),.int .i64 (2),.bool (w),.int .i64 (y),.slice true (.ro (kp)) (0) (m),.int .i64 (((m:Nat):Int)),.int .i64 (((i:Nat):Int))] [some ⟨1,([.int .i64 (s),.slice true (.ro (ks)) (0) (n),.slice true (.ro (kp)) (0) (m)]:List AV)⟩,some ⟨1,([.int .i64 (A3 (G (kp)) ((i)*2)),.bool (D9 (G (kp)) ((i)*2+1))]:List AV)⟩])))∧
 (decide ((((i:Nat):Int):Int)<((m:Nat):Int))=false→Q (.exit 2) [.ptr (.rw 0) (0),.int .i64 (0),.bool (w),.int .i64 (y),.slice true (.ro (kp)) (0) (m),.int .i64 (((m:Nat):Int)),.int .i64 (((i:Nat):Int))] [some ⟨1,([.int .i64 (s),.slice true (.ro (ks)) (0) (n),.slice true (.ro (kp)) (0) (m)]:List AV)⟩])):=by kernel_rfl
theorem ma_d (G:Nat→List AV) (ks n kp m:Nat) (s:Int) (w:Bool) (i:Nat) (Q:Ex→List AV→Hp→Prop) (R:AV→Hp→Prop):vT G Q R (F8 (Dc Try.prog [] progIc [] 1) 300 20 1 (A4 Try.f21 1) 130 [1,2,3,6] [.ptr (.rw 0) (.lit 0),.bool (.lit false),.bool (.var 9 w),.int .i64 (.ofN (.var 8 i))] [some ⟨1,.of [.int .i64 (.var 1 s),.slice true (.ro (.var 2 ks)) (.lit 0) (.var 3 n),.slice true (.ro (.var 4 kp)) (.lit 0) (.var 5 m)]⟩])=(
  (decide ((((i:Nat):Int):Int)<((m:Nat):Int))=true→decide ((0:Int)≤((i:Nat):Int))=true∧decide ((((i:Nat):Int):Int)<((m:Nat):Int))=true∧D5 (G (kp)) ((i)*2) [.int .i64,.bool]=true∧(decide ((A3 (G (kp)) ((i)*2):Int)<0)=true→Q .ret [.ptr (.rw 0) (0),.bool (false),.bool (w),.int .i64 (((i:Nat):Int))] [some ⟨1,([.int .i64 (s),.slice true (.ro (ks)) (0) (n),.slice true (.ro (kp)) (0) (m)]:List AV)⟩,some ⟨1,([.int .i64 (A3 (G (kp)) ((i)*2)),.bool (D9 (G (kp)) ((i)*2+1))]:List AV)⟩])∧(decide ((A3 (G (kp)) ((i)*2):Int)<0)=false→secsU [.agg (G (ks)),.int .i64 (((n:Nat):Int))]=true∧(decide ((Cz [.agg (G (ks)),.int .i64 (((n:Nat):Int)),.int .i64 (A3 (G (kp)) ((i)*2)),.bool (D9 (G (kp)) ((i)*2+1))]:Int)<0)=true→Q .ret [.ptr (.rw 0) (0),.bool (false),.bool (w),.int .i64 (((i:Nat):Int))] [some ⟨1,([.int .i64 (s),.slice true (.ro (ks)) (0) (n),.slice true (.ro (kp)) (0) (m)]:List AV)⟩,some ⟨1,([.int .i64 (A3 (G (kp)) ((i)*2)),.bool (D9 (G (kp)) ((i)*2+1))]:List AV)⟩])∧(decide ((Cz [.agg (G (ks)),.int .i64 (((n:Nat):Int)),.int .i64 (A3 (G (kp)) ((i)*2)),.bool (D9 (G (kp)) ((i)*2+1))]:Int)<0)=false→(decide ((((i:Nat):Int):Int)>0)=true→decide ((0:Int)≤IntKind.wrap .i64 (((i:Nat):Int) - 1))=true∧decide ((IntKind.wrap .i64 (((i:Nat):Int) - 1):Int)<((m:Nat):Int))=true∧isI .i64 (G (kp)) ((Int.toNat (IntKind.wrap .i64 (((i:Nat):Int) - 1)))*2)=true∧decide ((0:Int)≤IntKind.wrap .i64 (((i:Nat):Int) - 1))=true∧decide ((IntKind.wrap .i64 (((i:Nat):Int) - 1):Int)<((m:Nat):Int))=true∧D5 (G (kp)) ((Int.toNat (IntKind.wrap .i64 (((i:Nat):Int) - 1)))*2) [.int .i64,.bool]=true∧
 (decide ((IntKind.wrap .i64 (A3 (G (kp)) ((Int.toNat (IntKind.wrap .i64 (((i:Nat):Int) - 1)))*2)+Y0 [.bool (D9 (G (kp)) ((Int.toNat (IntKind.wrap .i64 (((i:Nat):Int) - 1)))*2+1))]):Int)>A3 (G (kp)) ((i)*2))=true→Q .ret [.ptr (.rw 0) (0),.bool (false),.bool (w),.int .i64 (((i:Nat):Int))] [some ⟨1,([.int .i64 (s),.slice true (.ro (ks)) (0) (n),.slice true (.ro (kp)) (0) (m)]:List AV)⟩,some ⟨1,([.int .i64 (A3 (G (kp)) ((i)*2)),.bool (D9 (G (kp)) ((i)*2+1))]:List AV)⟩])∧(decide ((IntKind.wrap .i64 (A3 (G (kp)) ((Int.toNat (IntKind.wrap .i64 (((i:Nat):Int) - 1)))*2)+Y0 [.bool (D9 (G (kp)) ((Int.toNat (IntKind.wrap .i64 (((i:Nat):Int) - 1)))*2+1))]):Int)>A3 (G (kp)) ((i)*2))=false→Q .normal [.ptr (.rw 0) (0),.bool (false),.bool (w),.int .i64 (IntKind.wrap .i64 (((i:Nat):Int)+1))] [some ⟨1,([.int .i64 (s),.slice true (.ro (ks)) (0) (n),.slice true (.ro (kp)) (0) (m)]:List AV)⟩,some ⟨1,([.int .i64 (A3 (G (kp)) ((i)*2)),.bool (D9 (G (kp)) ((i)*2+1))]:List AV)⟩]))∧(decide ((((i:Nat):Int):Int)>0)=false→Q .normal [.ptr (.rw 0) (0),.bool (false),.bool (w),.int .i64 (IntKind.wrap .i64 (((i:Nat):Int)+1))] [some ⟨1,([.int .i64 (s),.slice true (.ro (ks)) (0) (n),.slice true (.ro (kp)) (0) (m)]:List AV)⟩,some ⟨1,([.int .i64 (A3 (G (kp)) ((i)*2)),.bool (D9 (G (kp)) ((i)*2+1))]:List AV)⟩]))))∧(decide ((((i:Nat):Int):Int)<((m:Nat):Int))=false→Q (.exit 2) [.ptr (.rw 0) (0),.bool (false),.bool (w),.int .i64 (((i:Nat):Int))] [some ⟨1,([.int .i64 (s),.slice true (.ro (ks)) (0) (n),.slice true (.ro (kp)) (0) (m)]:List AV)⟩])):=by kernel_rfl
end Go.Am
namespace Go.Am
open Go.Proofs
set_option maxRecDepth 100000
def xP (ps:List AV) (j:Nat):Int:=A3 ps (j*2)
def hP (ps:List AV) (j:Nat):Bool:=D9 ps (j*2+1)
def gR (ps:List AV) (j:Nat):Bool:=D5 ps (j*2) [.int .i64,.bool]&&(decide (-9223372036854775808≤xP ps j)&&decide (xP ps j≤9223372036854775807))
def R7 (ps:List AV) (m:Nat):Bool:=F9 (gR ps) m
def Dm:List AV→Bool:=fun xs=>match xs with
 | [.agg ps,.int _ m]=>R7 ps m.toNat&&Nat.ble m.toNat 1000000
 | _=>false
theorem W1 {ps:List AV} {m:Nat}:Dm [.agg ps,.int .i64 (m:Int)]=true↔R7 ps m=true∧m≤1000000:=by
 simp only [Dm,C4,Bool.and_eq_true];exact ⟨fun ⟨h1,h2⟩=>⟨h1,Nat.le_of_ble_eq_true h2⟩,fun ⟨h1,h2⟩=>⟨h1,Nat.ble_eq_true_of_le h2⟩⟩
theorem O9 {ps:List AV} {m j:Nat} (h:R7 ps m=true) (hj:j<m):D5 ps (j*2) [.int .i64,.bool]=true∧isI .i64 ps (j*2)=true∧-9223372036854775808≤xP ps j∧xP ps j≤9223372036854775807:=by
 have:=H4.1 h j hj
 simp only [gR,Bool.and_eq_true,decide_eq_true_eq] at this;refine ⟨this.1,?_,this.2⟩
 have:=this.1
 simp only [D5,X0,Bool.and_eq_true] at this;exact this.1
def sE (cs:List AV) (k:Nat):Int:=sA cs k+(sN cs k:Int)+sZ cs k
def Ru (cs:List AV):Nat→Int
 | 0=>0
 | i+1=>sE cs i
def Ke (cs:List AV) (k:Nat):Bool:=Dj (sA cs k) (sR cs k) (sN cs k) (sZ cs k)
def T9 (cs:List AV) (k:Nat):Bool:=Ke cs k&&decide (Ru cs k≤sA cs k)
def eS (cs:List AV) (s:Int) (k:Nat):Bool:=!((Dr .i64 (sR cs k) 4:Int)==0)&&(decide (s≥sA cs k)&&decide (s<sE cs k))
def Ap (cs:List AV) (s:Int):Nat→Bool
 | 0=>false
 | i+1=>Ap cs s i||eS cs s i
def Ln (ps:List AV):Nat→Int
 | 0=>0
 | j+1=>xP ps j+P2 (hP ps j)
def Y2 (cs:List AV) (n:Nat) (ps:List AV) (j:Nat):Bool:=decide (Ln ps j≤xP ps j)&&decide (B2 cs n (xP ps j) (hP ps j)<n)
theorem iE {cs:List AV} {s:Int} {i:Nat} (h:Ap cs s i=true):Ap cs s (i+1)=true:=by simp [Ap,h]
theorem iD {cs:List AV} {s:Int} {i:Nat} (h:Ap cs s i=false) (h1:((Dr .i64 (sR cs i) 4:Int)==0)=true):Ap cs s (i+1)=false:=by simp only [Ap,eS,h,h1];rfl
theorem iC {cs:List AV} {s:Int} {i:Nat} (h:Ap cs s i=false) (h1:((Dr .i64 (sR cs i) 4:Int)==0)=false) (h2:decide (s≥sA cs i)=true):Ap cs s (i+1)=decide (s<sE cs i):=by simp only [Ap,eS,h,h1,h2];simp
theorem iB {cs:List AV} {s:Int} {i:Nat} (h:Ap cs s i=false) (h1:((Dr .i64 (sR cs i) 4:Int)==0)=false) (h2:decide (s≥sA cs i)=false):Ap cs s (i+1)=false:=by simp only [Ap,eS,h,h1,h2];rfl
def Af:List AV→Bool:=fun xs=>match xs with
 | [.agg cs,.int _ n]=>F9 (T9 cs) n.toNat
 | _=>false
def Az:List AV→Bool:=fun xs=>match xs with
 | [.agg cs,.int _ n,.int _ s]=>Ap cs s n.toNat
 | _=>false
def Fi:List AV→Bool:=fun xs=>match xs with
 | [.agg cs,.int _ n,.agg ps,.int _ m]=>F9 (Y2 cs n.toNat ps) m.toNat
 | _=>false
theorem Bf {cs:List AV} {n:Nat}:Af [.agg cs,.int .i64 (n:Int)]=F9 (T9 cs) n:=by simp only [Af,C4]
theorem Sx {cs:List AV} {n:Nat} {s:Int}:Az [.agg cs,.int .i64 (n:Int),.int .i64 s]=Ap cs s n:=by simp only [Az,C4]
theorem Ge {cs ps:List AV} {n m:Nat}:Fi [.agg cs,.int .i64 (n:Int),.agg ps,.int .i64 (m:Int)]=F9 (Y2 cs n ps) m:=by simp only [Fi,C4]
theorem dS {a r z:Int} {n:Nat}:Mc [.int .i64 a,.int .i64 r,.int .i64 (n:Int),.int .i64 z]=Dj a r n z:=by simp only [Mc,C4]
theorem sU {a z:Int} {n:Nat}:upU [.int .i64 a,.int .i64 (n:Int),.int .i64 z]=upF a n z:=by simp only [upU,C4]
theorem Sp {p:Nat→Bool} {n i:Nat} (h:i≤I9 (fun j=>!p j) n):∀ j,j<i→p j=true:=fun j hj=>by
 have:=(G9 (p:=fun j=>!p j) (k:=n)).2.2 j (by omega)
 simpa using this
theorem Ey {p:Nat→Bool} {n i:Nat} (h:i≤I9 (fun j=>!p j) n) (hi:i<n) (hp:p i=true):i<I9 (fun j=>!p j) n:=by
 have:=Cq h hi
 simp only [hp,Bool.not_true] at this
 have:=of_decide_eq_false this.symm
 omega
theorem Gm {p:Nat→Bool} {n i:Nat} (h:i≤I9 (fun j=>!p j) n) (hi:¬i<n):F9 p n=true:=H4.2 fun j hj=>Sp h j (by omega)
def pZ (cs:List AV) (n:Nat):Bool:=secsU [.agg cs,.int .i64 (n:Int)]
def Yj (cs:List AV) (n:Nat) (ps:List AV) (m:Nat):Bool:=secsU [.agg cs,.int .i64 (n:Int)]&&(Dm [.agg ps,.int .i64 (m:Int)]&&F9 (T9 cs) n)
def ckQ (G:Nat→List AV) (ks n kp m:Nat) (s:Int):List AV→Bool:=Jb (pZ (G ks) n) [.ptr (.rw 0) 0,.int .i64 0,.bool false,.int .i64 0,.slice true (.ro ks) 0 n,.int .i64 (n:Int),.int .i64 0] [some ⟨1,[.int .i64 s,.slice true (.ro ks) 0 n,.slice true (.ro kp) 0 m]⟩]
def ckO (ks n kp m:Nat) (s:Int):LOut:=.tst (.uf 1711 Af [.agg (.ro (.var 2 ks)),.int .i64 (.ofN (.var 3 n))]) (.one (.exit 0) [.ptr (.rw 0) (.lit 0),.int .i64 (.lit 0),.bool (.uf 1712 Az [.agg (.ro (.var 2 ks)),.int .i64 (.ofN (.var 3 n)),.int .i64 (.var 1 s)]),.undef,.undef,.undef,.undef] [some ⟨1,.of [.int .i64 (.var 1 s),.slice true (.ro (.var 2 ks)) (.lit 0) (.var 3 n),.slice true (.ro (.var 4 kp)) (.lit 0) (.var 5 m)]⟩]) (.one .ret [.undef,.int .i64 (.lit 2),.undef,.undef,.undef,.undef,.undef] [some ⟨1,.of [.int .i64 (.var 1 s),.slice true (.ro (.var 2 ks)) (.lit 0) (.var 3 n),.slice true (.ro (.var 4 kp)) (.lit 0) (.var 5 m)]⟩])
def cdQ (G:Nat→List AV) (ks n kp m:Nat) (s:Int):List AV→Bool:=Jb (Yj (G ks) n (G kp) m) [.ptr (.rw 0) 0,.int .i64 0,.bool (Az [.agg (G ks),.int .i64 (n:Int),.int .i64 s]),.int .i64 0,.slice true (.ro kp) 0 m,.int .i64 (m:Int),.int .i64 0] [some ⟨1,[.int .i64 s,.slice true (.ro ks) 0 n,.slice true (.ro kp) 0 m]⟩]
def cdO (ks n kp m:Nat) (s:Int):LOut:=.tst (.uf 1713 Fi [.agg (.ro (.var 2 ks)),.int .i64 (.ofN (.var 3 n)),.agg (.ro (.var 4 kp)),.int .i64 (.ofN (.var 5 m))]) (.one (.exit 2) [.ptr (.rw 0) (.lit 0),.int .i64 (.lit 0),.bool (.uf 1712 Az [.agg (.ro (.var 2 ks)),.int .i64 (.ofN (.var 3 n)),.int .i64 (.var 1 s)]),.undef,.undef,.undef,.undef] [some ⟨1,.of [.int .i64 (.var 1 s),.slice true (.ro (.var 2 ks)) (.lit 0) (.var 3 n),.slice true (.ro (.var 4 kp)) (.lit 0) (.var 5 m)]⟩]) (.one .ret [.undef,.int .i64 (.lit 2),.undef,.undef,.undef,.undef,.undef] [some ⟨1,.of [.int .i64 (.var 1 s),.slice true (.ro (.var 2 ks)) (.lit 0) (.var 3 n),.slice true (.ro (.var 4 kp)) (.lit 0) (.var 5 m)]⟩])
theorem t20 (G:Nat→List AV) (ks n kp m:Nat) (s:Int) (Q:Ex→List AV→Hp→Prop) (R:AV→Hp→Prop):vT G Q R (J7 (Dc Try.prog [] progIc [(C3 1714 (ckQ G ks n kp m s) 0 98 [1,2,3,4,31,32,33] (ckO ks n kp m s)),(C3 1715 (cdQ G ks n kp m s) 2 98 [1,2,3,4,73,74,75] (cdO ks n kp m s))] 1) 300 20 Try.f20 [.agg (.of [.int .i64 (.var 1 s),.slice true (.ro (.var 2 ks)) (.lit 0) (.var 3 n),.slice true (.ro (.var 4 kp)) (.lit 0) (.var 5 m)])] [] 0)=(
  (decide ((((n:Nat):Int):Int)>8)=true→R (.int .i64 (2)) [])∧(decide ((((n:Nat):Int):Int)>8)=false→(decide ((((m:Nat):Int):Int)>512)=true→R (.int .i64 (2)) [])∧(decide ((((m:Nat):Int):Int)>512)=false→(decide ((s:Int)<0)=true→R (.int .i64 (2)) [])∧(decide ((s:Int)<0)=false→(((Int.tmod (s) (4):Int)==0)=true→(ckQ G ks n kp m s) [.agg ([.ptr (.rw 0) (0),.int .i64 (0),.bool (false),.int .i64 (0),.slice true (.ro (ks)) (0) (n),.int .i64 (((n:Nat):Int)),.int .i64 (0)]:List AV),.agg ([.tup [.int .i64 (1),.agg ([.int .i64 (s),.slice true (.ro (ks)) (0) (n),.slice true (.ro (kp)) (0) (m)]:List AV)]]:List AV)]=true∧(Af [.agg (G (ks)),.int .i64 (((n:Nat):Int))]=true→(cdQ G ks n kp m s) [.agg ([.ptr (.rw 0) (0),.int .i64 (0),.bool (Az [.agg (G (ks)),.int .i64 (((n:Nat):Int)),.int .i64 (s)]),.int .i64 (0),.slice true (.ro (kp)) (0) (m),.int .i64 (((m:Nat):Int)),.int .i64 (0)]:List AV),.agg ([.tup [.int .i64 (1),.agg ([.int .i64 (s),.slice true (.ro (ks)) (0) (n),.slice true (.ro (kp)) (0) (m)]:List AV)]]:List AV)]=true∧(Fi [.agg (G (ks)),.int .i64 (((n:Nat):Int)),.agg (G (kp)),.int .i64 (((m:Nat):Int))]=true→(Az [.agg (G (ks)),.int .i64 (((n:Nat):Int)),.int .i64 (s)]=true→R (.int .i64 (0)) [])∧(Az [.agg (G (ks)),.int .i64 (((n:Nat):Int)),.int .i64 (s)]=false→R (.int .i64 (2)) []))∧(Fi [.agg (G (ks)),.int .i64 (((n:Nat):Int)),.agg (G (kp)),.int .i64 (((m:Nat):Int))]=false→R (.int .i64 (2)) []))∧(Af [.agg (G (ks)),.int .i64 (((n:Nat):Int))]=false→R (.int .i64 (2)) []))∧(((Int.tmod (s) (4):Int)==0)=false→R (.int .i64 (2)) []))))):=by kernel_rfl
def maQ (G:Nat→List AV) (ks n kp m:Nat) (s:Int):List AV→Bool:=Jb (pZ (G ks) n) [.ptr (.rw 0) 0,.bool false,.bool false,.int .i64 0] [some ⟨1,[.int .i64 s,.slice true (.ro ks) 0 n,.slice true (.ro kp) 0 m]⟩]
def maO (ks n kp m:Nat) (s:Int):LOut:=.tst (.uf 1711 Af [.agg (.ro (.var 2 ks)),.int .i64 (.ofN (.var 3 n))]) (.one (.exit 0) [.ptr (.rw 0) (.lit 0),.bool (.lit false),.bool (.uf 1712 Az [.agg (.ro (.var 2 ks)),.int .i64 (.ofN (.var 3 n)),.int .i64 (.var 1 s)]),.undef] [some ⟨1,.of [.int .i64 (.var 1 s),.slice true (.ro (.var 2 ks)) (.lit 0) (.var 3 n),.slice true (.ro (.var 4 kp)) (.lit 0) (.var 5 m)]⟩]) (.one .ret [.undef,.bool (.lit false),.undef,.undef] [some ⟨1,.of [.int .i64 (.var 1 s),.slice true (.ro (.var 2 ks)) (.lit 0) (.var 3 n),.slice true (.ro (.var 4 kp)) (.lit 0) (.var 5 m)]⟩])
def mdQ (G:Nat→List AV) (ks n kp m:Nat) (s:Int):List AV→Bool:=Jb (Yj (G ks) n (G kp) m) [.ptr (.rw 0) 0,.bool false,.bool (Az [.agg (G ks),.int .i64 (n:Int),.int .i64 s]),.int .i64 0] [some ⟨1,[.int .i64 s,.slice true (.ro ks) 0 n,.slice true (.ro kp) 0 m]⟩]
def mdO (ks n kp m:Nat) (s:Int):LOut:=.tst (.uf 1713 Fi [.agg (.ro (.var 2 ks)),.int .i64 (.ofN (.var 3 n)),.agg (.ro (.var 4 kp)),.int .i64 (.ofN (.var 5 m))]) (.one (.exit 2) [.ptr (.rw 0) (.lit 0),.bool (.lit false),.bool (.uf 1712 Az [.agg (.ro (.var 2 ks)),.int .i64 (.ofN (.var 3 n)),.int .i64 (.var 1 s)]),.undef] [some ⟨1,.of [.int .i64 (.var 1 s),.slice true (.ro (.var 2 ks)) (.lit 0) (.var 3 n),.slice true (.ro (.var 4 kp)) (.lit 0) (.var 5 m)]⟩]) (.one .ret [.undef,.bool (.lit false),.undef,.undef] [some ⟨1,.of [.int .i64 (.var 1 s),.slice true (.ro (.var 2 ks)) (.lit 0) (.var 3 n),.slice true (.ro (.var 4 kp)) (.lit 0) (.var 5 m)]⟩])
theorem t21 (G:Nat→List AV) (ks n kp m:Nat) (s:Int) (Q:Ex→List AV→Hp→Prop) (R:AV→Hp→Prop):vT G Q R (J7 (Dc Try.prog [] progIc [(C3 1716 (maQ G ks n kp m s) 0 130 [1,2,3,4] (maO ks n kp m s)),(C3 1717 (mdQ G ks n kp m s) 2 130 [1,2,3,6] (mdO ks n kp m s))] 1) 300 20 Try.f21 [.agg (.of [.int .i64 (.var 1 s),.slice true (.ro (.var 2 ks)) (.lit 0) (.var 3 n),.slice true (.ro (.var 4 kp)) (.lit 0) (.var 5 m)])] [] 0)=(
  (decide ((((n:Nat):Int):Int)>8)=true→R (.bool (false)) [])∧(decide ((((n:Nat):Int):Int)>8)=false→(decide ((((m:Nat):Int):Int)>512)=true→R (.bool (false)) [])∧(decide ((((m:Nat):Int):Int)>512)=false→(decide ((s:Int)<0)=true→R (.bool (false)) [])∧(decide ((s:Int)<0)=false→(((Int.tmod (s) (4):Int)==0)=true→(maQ G ks n kp m s) [.agg ([.ptr (.rw 0) (0),.bool (false),.bool (false),.int .i64 (0)]:List AV),.agg ([.tup [.int .i64 (1),.agg ([.int .i64 (s),.slice true (.ro (ks)) (0) (n),.slice true (.ro (kp)) (0) (m)]:List AV)]]:List AV)]=true∧(Af [.agg (G (ks)),.int .i64 (((n:Nat):Int))]=true→(mdQ G ks n kp m s) [.agg ([.ptr (.rw 0) (0),.bool (false),.bool (Az [.agg (G (ks)),.int .i64 (((n:Nat):Int)),.int .i64 (s)]),.int .i64 (0)]:List AV),.agg ([.tup [.int .i64 (1),.agg ([.int .i64 (s),.slice true (.ro (ks)) (0) (n),.slice true (.ro (kp)) (0) (m)]:List AV)]]:List AV)]=true∧(Fi [.agg (G (ks)),.int .i64 (((n:Nat):Int)),.agg (G (kp)),.int .i64 (((m:Nat):Int))]=true→R (.bool (Az [.agg (G (ks)),.int .i64 (((n:Nat):Int)),.int .i64 (s)])) [])∧(Fi [.agg (G (ks)),.int .i64 (((n:Nat):Int)),.agg (G (kp)),.int .i64 (((m:Nat):Int))]=false→R (.bool (false)) []))∧(Af [.agg (G (ks)),.int .i64 (((n:Nat):Int))]=false→R (.bool (false)) []))∧(((Int.tmod (s) (4):Int)==0)=false→R (.bool (false)) []))))):=by kernel_rfl
end Go.Am
namespace Go.Am
open Go.Proofs
set_option maxRecDepth 100000
theorem vE {cs:List AV} {x:Int} {h:Bool} {k:Nat} (hs:Ke cs k=true) (hx:0≤x∧x≤9223372036854775807):Bj cs x h k=Hd cs x h k:=by
 have hs:=T3.1 hs;have hw:2≤P2 h∧P2 h≤4:=by unfold P2;split<;>omega
 unfold Bj Hd;by_cases h1:sA cs k≤x
 ·rw [decide_eq_true h1,Bool.true_and,Bool.true_and,B6 (n:=x - sA cs k) (by omega),B6 (n:=(sN cs k:Int) - P2 h) (by omega),B6 (n:=sA cs k+(sN cs k:Int)) (by omega)];by_cases h2:x≤8192
  ·rw [decide_eq_true h2,Bool.true_and,B6 (n:=x+P2 h) (by omega),Bool.eq_iff_iff,decide_eq_true_iff,decide_eq_true_iff];omega
  ·rw [decide_eq_false h2,Bool.false_and];exact decide_eq_false (by omega)
 ·rw [decide_eq_false h1,Bool.false_and,Bool.false_and]
theorem Sq {p q:Nat→Bool} {n:Nat} (h:∀ j,j<n→p j=q j):I9 p n=I9 q n:=by
 obtain ⟨a1,a2,a3⟩:=G9 (p:=p) (k:=n);obtain ⟨b1,b2,b3⟩:=G9 (p:=q) (k:=n);rcases Nat.lt_trichotomy (I9 p n) (I9 q n) with h1 | h1 | h1
 ·have:=a2 (by omega);rw [h _ (by omega),b3 _ h1] at this;simp at this
 ·exact h1
 ·have:=b2 (by omega);rw [←h _ (by omega),a3 _ h1] at this;simp at this
theorem Tf {cs:List AV} {n:Nat} {x:Int} {h:Bool} (hs:F9 (T9 cs) n=true) (hx:0≤x∧x≤9223372036854775807):B2 cs n x h=inN cs n x h:=Sq fun j hj=>vE (by have:=H4.1 hs j hj;unfold T9 at this;rw [Bool.and_eq_true] at this;exact this.1) hx
theorem bV {cs:List AV} {n:Nat} {x:Int} {h:Bool} (hs:F9 (T9 cs) n=true) (hx:0≤x∧x≤9223372036854775807) (hd:B2 cs n x h<n):x≤8192:=by
 rw [Tf hs hx] at hd
 have:=(G9 (p:=Hd cs x h) (k:=n)).2.1 hd
 unfold Hd at this;simp only [Bool.and_eq_true,decide_eq_true_eq] at this;exact this.2.1
theorem gM {cs ps:List AV} {n m i:Nat} (hs:F9 (T9 cs) n=true) (hp:R7 ps m=true):i≤m→(∀ j,j<i→Y2 cs n ps j=true)→0≤Ln ps i∧Ln ps i≤8200:=by
 induction i with
 | zero=>intro _ _;exact ⟨Int.le_refl _,by show (0:Int)≤8200;omega⟩
 | succ i ih=>
  intro hi h;have ih:=ih (by omega) fun j hj=>h j (by omega)
  have:=h i (by omega)
  unfold Y2 at this;simp only [Bool.and_eq_true,decide_eq_true_eq] at this;have hx:=(O9 hp (j:=i) (by omega)).2.2
  have:=bV hs (by omega) this.2
  have hw:2≤P2 (hP ps i)∧P2 (hP ps i)≤4:=by unfold P2;split<;>omega
  show 0≤xP ps i+P2 (hP ps i)∧xP ps i+P2 (hP ps i)≤8200;omega
theorem szE {cs:List AV} {i:Nat} (h:Ke cs i=true):IntKind.wrap .i64 (sA cs i+Zc (sN cs i) (sZ cs i))=sE cs i:=by
 have:=T3.1 h
 have e:Zc (sN cs i) (sZ cs i)=(sN cs i:Int)+sZ cs i:=B6 (by omega);rw [e,B6 (by omega)];unfold sE;omega
theorem rszE {cs:List AV} {i:Nat} (h:Ke cs i=true):IntKind.wrap .i64 (sA cs i+Im (sN cs i) (sZ cs i))=sE cs i:=by
 have:=T3.1 h
 have e:Im (sN cs i) (sZ cs i)=(sN cs i:Int)+sZ cs i:=if_pos ⟨by omega,by omega,by omega⟩;rw [e,B6 (by omega)];unfold sE;omega
theorem wA (G:Nat→List AV) (B:Nat) (ks n kp m:Nat) (s:Int):H7 (⟨Try.prog,G,B⟩:A2) 1 (A4 Try.f20 0) (C3 1714 (ckQ G ks n kp m s) 0 98 [1,2,3,4,31,32,33] (ckO ks n kp m s)):=by
 refine Ao rfl fun hc=>?_;obtain ⟨hk,hn⟩:=I6.1 hc;refine S0 (I9 (fun j=>!T9 (G ks) j) n) (fun i=>[.ptr (.rw 0) 0,.int .i64 0,.bool (Ap (G ks) s i),.int .i64 (Ru (G ks) i),.slice true (.ro ks) 0 n,.int .i64 (n:Int),.int .i64 (i:Int)]) (fun _=>[some ⟨1,[.int .i64 s,.slice true (.ro ks) 0 n,.slice true (.ro kp) 0 m]⟩]) fun i hi=>?_;have hle:I9 (fun j=>!T9 (G ks) j) n≤n:=G9.1
 refine D3 (C:=(⟨Try.prog,G,B⟩:A2)) (by rw [show A8 (A4 Try.f20 0)=[] by kernel_rfl];exact I0 (inl:=[]) (ls:=[]) (M:=1) (E9 G B) (by kernel_rfl) (N7 G B) .nil) (fuel:=300) (n0:=20) (m:=1) (c:=A4 Try.f20 0) (vs:=[.ptr (.rw 0) (.lit 0),.int .i64 (.lit 0),.bool (.var 9 (Ap (G ks) s i)),.int .i64 (.var 10 (Ru (G ks) i)),.slice true (.ro (.var 2 ks)) (.lit 0) (.var 3 n),.int .i64 (.ofN (.var 3 n)),.int .i64 (.ofN (.var 8 i))]) (H:=[some ⟨1,.of [.int .i64 (.var 1 s),.slice true (.ro (.var 2 ks)) (.lit 0) (.var 3 n),.slice true (.ro (.var 4 kp)) (.lit 0) (.var 5 m)]⟩]) (by simp) ?_
 rw [ck_b];have fb:L1 1 [some ⟨1,[.int .i64 s,.slice true (.ro ks) 0 n,.slice true (.ro kp) 0 m]⟩]=true:=by simp [L1,A5,B0]
 refine ⟨fun h1=>?_,fun h1=>?_⟩
 ·have h1':=of_decide_eq_true h1;have hin:i<n:=by omega
  rw [B6 (n:=(i:Int)+1) (by omega),dS,jG]
  have no:T9 (G ks) i=false→¬Af [.agg (G ks),.int .i64 (n:Int)]=true:=fun h=>by
   rw [Bf,T8 hin h];simp
  have nof:T9 (G ks) i=false→Af [.agg (G ks),.int .i64 (n:Int)]=false:=fun h=>by
   rw [Bf,T8 hin h]
  refine ⟨decide_eq_true (by omega),h1,L9 hk hin,fun h2=>?_,fun h2=>?_⟩
  ·have h2':Ke (G ks) i=true:=h2;have e:=szE h2';unfold sA sN sZ at e;rw [e];refine ⟨fun h3=>?_,fun h3=>?_⟩
   ·refine .inr ⟨nof ?_,rfl,.inr (B7.same (H:=[some ⟨1,[.int .i64 s,.slice true (.ro ks) 0 n,.slice true (.ro kp) 0 m]⟩]) (by simp) fb (by simp [fv,B0,vVs,vV,vI]))⟩;have h3:A3 (G ks) (i*4)<Ru (G ks) i:=of_decide_eq_true h3;unfold T9;rw [h2',decide_eq_false (by unfold sA;omega)];rfl
   ·have h3:¬A3 (G ks) (i*4)<Ru (G ks) i:=of_decide_eq_false h3;have lt:=Ey hi hin (by unfold T9;rw [h2',decide_eq_true (by unfold sA;omega)];rfl);refine ⟨fun w1=>?_,fun w1=>⟨fun g1=>?_,fun g1=>⟨fun g2=>?_,fun g2=>?_⟩⟩⟩
    ·exact ⟨lt,.inr (B7.same (H:=[some ⟨1,[.int .i64 s,.slice true (.ro ks) 0 n,.slice true (.ro kp) 0 m]⟩]) (by simp) fb (by simp [fv,B0,A5,iE w1,Ru]))⟩
    ·exact ⟨lt,.inr (B7.same (H:=[some ⟨1,[.int .i64 s,.slice true (.ro ks) 0 n,.slice true (.ro kp) 0 m]⟩]) (by simp) fb (by simp [fv,B0,A5,iD w1 g1,Ru]))⟩
    ·exact ⟨lt,.inr (B7.same (H:=[some ⟨1,[.int .i64 s,.slice true (.ro ks) 0 n,.slice true (.ro kp) 0 m]⟩]) (by simp) fb (by simp [fv,B0,A5,iC w1 g1 g2,Ru]))⟩
    ·exact ⟨lt,.inr (B7.same (H:=[some ⟨1,[.int .i64 s,.slice true (.ro ks) 0 n,.slice true (.ro kp) 0 m]⟩]) (by simp) fb (by simp [fv,B0,A5,iB w1 g1 g2,Ru]))⟩
  ·refine .inr ⟨nof ?_,rfl,.inr (B7.same (H:=[some ⟨1,[.int .i64 s,.slice true (.ro ks) 0 n,.slice true (.ro kp) 0 m]⟩]) (by simp) fb (by simp [fv,B0,vVs,vV,vI]))⟩;have h2':Ke (G ks) i=false:=h2;unfold T9;rw [h2'];rfl
 ·have h1':=of_decide_eq_false h1;have e:i=n:=by omega
  refine .inl ⟨?_,rfl,.inl ⟨?_,rfl⟩⟩
  ·show Af [.agg (G ks),.int .i64 (n:Int)]=true;rw [Bf];exact Gm hi (by omega)
  ·show wk [.ptr (.rw 0) 0,.int .i64 0,.bool (Az [.agg (G ks),.int .i64 (n:Int),.int .i64 s]),.undef,.undef,.undef,.undef] _;rw [Sx,←e];simp [wk]
end Go.Am
