/-
  Images moved: the loop over the places: its rounds. Images moved: the reference's loop over the places.
-/
import Derived.Test.YthejjolnlngahaaPart13
import Derived.Test.YthejjolnlngahaaBase5
namespace Go.Am
open Go.Proofs
set_option maxRecDepth 100000
theorem X9 {C:A2} {M:Nat} {c:Code} {j ex N:Nat} {live:List Nat} {o:LOut}:H7 C M c (C3 j (fun _=>false) ex N live o):=by
 intro m vs H o' hm ho n Q hQ;simp only [C3,Option.some.injEq] at ho;subst ho;exact absurd hQ.1 (by simp [vB])
theorem Gx {C:A2} {f j:Nat} {o:Outs}:G5 C f (W8 j (fun _=>false) o):=by
 intro args H o' ho;simp only [W8,Option.some.injEq] at ho;subst ho;intro h;exact absurd h (by simp [vB])
theorem mv_lp (G:Nat→List AV) (B:Nat) (b0 cs pl:List AV) (D:Nat→List Nat) (n m z:Nat) (s:Int) (hm:m≤1000) (hz:z≤8192) (h8:n≤8) (hb:∀ j,V3 (D j)) (hl:∀ j,j<n→(D j).length=sN cs j) (h0:A5 0 b0=true) (hpl:A5 0 pl=true) (hsc:I4 cs n=true) (hp:∀ i,i<m→isI .i64 pl (i*2)=true∧isB pl (i*2+1)=true∧Vn cs n (xP pl i) (hP pl i)):AWp (⟨Try.prog,G,B⟩:A2) 13 (.loop (A4 Try.f13 0)) (fl 108 [1,4,5,7,36,37,38] [.int .i64 (z:Int),.ptr (.rw 1) 0,.int .i64 0,.ptr (.rw 12) 0,.slice true (.rw 3) 0 m,.int .i64 (m:Int),.int .i64 0]) (U7 b0 [.int .i64 0,.nils,.nils] (A7 cs n (dW 4 cs)) pl (A1 D) [.int .i64 s,.slice true (.rw 2) 0 n,.slice true (.rw 3) 0 m]) (lv 108 [1,4,5,7,36,37,38] fun e vs H=>((E3 D cs n z pl m)<m∧e=.ret∧wk [.undef,.ptr (.rw 1) 0,.int .i64 2,.undef,.undef,.undef,.undef] vs∧∃ Y,H=[some ⟨1,b0⟩,some ⟨1,[.int .i64 0,.nils,.nils]⟩]++Y)∨((E3 D cs n z pl m)=m∧e=.exit 0∧wk [.int .i64 (z:Int),.ptr (.rw 1) 0,.int .i64 0,.ptr (.rw 12) 0,.undef,.undef,.undef] vs∧H=U7 b0 [.int .i64 0,.nils,.nils] (A7 cs n (dW 4 cs)) pl (A1 (M1 D cs n z pl m)) [.int .i64 s,.slice true (.rw 2) 0 n,.slice true (.rw 3) 0 m])):=by
 have hle:(E3 D cs n z pl m)≤m:=G9.1;refine S0 (E3 D cs n z pl m) (fun i=>[.int .i64 (z:Int),.ptr (.rw 1) 0,.int .i64 0,.ptr (.rw 12) 0,.slice true (.rw 3) 0 m,.int .i64 (m:Int),.int .i64 (i:Int)]) (fun i=>U7 b0 [.int .i64 0,.nils,.nils] (A7 cs n (dW 4 cs)) pl (A1 (M1 D cs n z pl i)) [.int .i64 s,.slice true (.rw 2) 0 n,.slice true (.rw 3) 0 m]) fun i hi=>?_;by_cases hin:i<m
 ·obtain ⟨p1,p2,hs⟩:=hp i hin;have hbad:Np D cs n z pl i=decide (i=(E3 D cs n z pl m)):=Cq (p:=Np D cs n z pl) hi hin;have nxt:M1 D cs n z pl (i+1)=Mr (M1 D cs n z pl i) cs n z (xP pl i) (hP pl i):=rfl;rw [nxt];have hbE:∀ j,V3 (M1 D cs n z pl i j):=aG hb i;have hlE:∀ j,j<n→(M1 D cs n z pl i j).length=sN cs j:=fun j hj=>by rw [Oe,hl j hj]
  simp only [Np] at hbad;generalize M1 D cs n z pl i=E at *;have good:=rA G B b0 cs pl E n m z i s (xP pl i) (hP pl i) hz h8 hbE hlE h0 hpl hs
  refine D3 (C:=(⟨Try.prog,G,B⟩:A2)) good (fuel:=500) (n0:=20) (m:=13) (c:=A4 Try.f13 0) (vs:=[.int .i64 (.var 2 (z:Int)),.ptr (.rw 1) (.lit 0),.int .i64 (.lit 0),.ptr (.rw 12) (.lit 0),.slice true (.rw 3) (.lit 0) (.var 4 m),.int .i64 (.ofN (.var 4 m)),.int .i64 (.ofN (.var 8 i))]) (H:=[some ⟨1,.var 31 b0⟩,some ⟨1,.var 32 [.int .i64 0,.nils,.nils]⟩,some ⟨4,.var 21 (A7 cs n (dW 4 cs))⟩,some ⟨2,.var 7 pl⟩,some ⟨1,.row (.var 22 (A1 E)) (.lit 0)⟩,some ⟨1,.row (.var 22 (A1 E)) (.lit 1)⟩,some ⟨1,.row (.var 22 (A1 E)) (.lit 2)⟩,some ⟨1,.row (.var 22 (A1 E)) (.lit 3)⟩,some ⟨1,.row (.var 22 (A1 E)) (.lit 4)⟩,some ⟨1,.row (.var 22 (A1 E)) (.lit 5)⟩,some ⟨1,.row (.var 22 (A1 E)) (.lit 6)⟩,some ⟨1,.row (.var 22 (A1 E)) (.lit 7)⟩,some ⟨1,.of [.int .i64 (.var 1 s),.slice true (.rw 2) (.lit 0) (.var 3 n),.slice true (.rw 3) (.lit 0) (.var 4 m)]⟩]) (Nat.le_refl _) ?_
  rw [mv_o];obtain ⟨v1,v2,v3,v4⟩:=Rl (z:=z) (D:=E) hs hz;have ex:A3 pl (i*2)=xP pl i:=rfl;have eh:D9 pl (i*2+1)=hP pl i:=rfl;rw [ex,eh];generalize xP pl i=x at *;generalize hP pl i=h at *;have lt:=hs.lt;have hat:(A7 cs n (dW 4 cs))[(B2 cs n x h)*4+2]?=some (.slice true (.rw (4+(B2 cs n x h))) 0 (sN cs (B2 cs n x h))):=Jg lt;obtain ⟨f1,f2,f3⟩:=Yg hat;obtain ⟨t1,t2⟩:=pG (cs:=cs) (d:=dW 4 cs) lt;have ew:Y0 [.bool h]=((wdN h):Int):=by rw [Yp];exact Re
  have i0:∀ k:Nat,Int.toNat (k:Int)=k:=C4;rw [f1,f2,f3,t2,v1,v3,ew,i0,i0,Nat.add_zero (N3 cs n x h),B6 (n:=(i:Int)+1) (by omega)]
  have vw:B7 13 [.int .i64 (z:Int),.ptr (.rw 1) 0,.int .i64 0,.ptr (.rw 12) 0,.slice true (.rw 3) 0 m,.int .i64 (m:Int),.int .i64 ((i+1:Nat):Int)] (U7 b0 [.int .i64 0,.nils,.nils] (A7 cs n (dW 4 cs)) pl (A1 (Mr E cs n z x h)) [.int .i64 s,.slice true (.rw 2) 0 n,.slice true (.rw 3) 0 m]) [.int .i64 (z:Int),.ptr (.rw 1) 0,.int .i64 0,.ptr (.rw 12) 0,.slice true (.rw 3) 0 m,.int .i64 (m:Int),.int .i64 ((i+1:Nat):Int)] (U7 b0 [.int .i64 0,.nils,.nils] (A7 cs n (dW 4 cs)) pl (A1 (Mr E cs n z x h)) [.int .i64 s,.slice true (.rw 2) 0 n,.slice true (.rw 3) 0 m]++[some ⟨1,[.int .i64 x,.bool h]⟩]):=B7.same (by rw [Du];exact Nat.le_refl _) (Qn (by rw [Du];exact Nat.le_refl _) h8 h0 rfl hpl) (by
   rw [Du]
   exact ⟨⟨rfl,rfl⟩,⟨rfl,rfl⟩,⟨rfl,rfl⟩,⟨rfl,rfl⟩,⟨rfl,rfl⟩,⟨rfl,rfl⟩,⟨rfl,rfl⟩,trivial⟩)
  rw [←aY] at vw;refine ⟨fun h1=>?_,fun h1=>absurd (of_decide_eq_false h1) (by omega)⟩;refine ⟨decide_eq_true (by omega),h1,p1,p2,D4,Sl hat (by omega),t1,decide_eq_true (by omega),decide_eq_true (by omega),decide_eq_true (by omega),decide_eq_true (by omega),decide_eq_true (by omega),D4,fun hh=>⟨fun e=>?_,fun e=>?_⟩,fun hh=>?_⟩
  ·refine ⟨rfl,.inl ⟨?_,rfl,by simp [vVs,vV,vI,wk],_,rfl⟩⟩
   have:Ai E cs n z x h=true:=by
    unfold Ai;rw [hh,Bool.true_and]
    have:=of_decide_eq_true e
    exact decide_eq_true (by rw [hh] at this;omega)
   rw [this] at hbad
   have:=of_decide_eq_true hbad.symm
   omega
  ·have:Ai E cs n z x h=false:=by
    unfold Ai;rw [hh,Bool.true_and]
    have:=of_decide_eq_false e
    exact decide_eq_false (by rw [hh] at this;omega)
   rw [this] at hbad
   have:=of_decide_eq_false hbad.symm
   exact ⟨D4,by omega,.inr vw⟩
  ·have:Ai E cs n z x h=false:=by
    unfold Ai;rw [hh,Bool.false_and]
   rw [this] at hbad
   have:=of_decide_eq_false hbad.symm
   exact ⟨D4,by omega,.inr vw⟩
 ·have e:i=m:=by omega
  have e2:(E3 D cs n z pl m)=m:=by omega
  have hK:(E3 D cs n z pl m)=i:=by omega
  generalize hE:M1 D cs n z pl i=E
  refine D3 (C:=(⟨Try.prog,G,B⟩:A2)) (K:=(Df Try.prog [(37,4,8),(40,0,0)] [] ((34,W8 1820 (fun _=>false) (.one (.ptr (.rw 2) (.mul (.var 11 0) 4)) []))::progIb) [C3 1821 (fun _=>false) 2 108 [1,4,5,7,9,11,12,36,37,38,62,63] (.one (.exit 2) [.int .i64 (.var 2 (z:Int)),.ptr (.rw 1) (.lit 0),.int .i64 (.lit 0),.ptr (.rw 12) (.lit 0),.ptr (.rw 13) (.lit 0),.slice true (.fm 4 8 (.var 11 0)) (.var 12 0) (.var 13 0),.int .u32 (.ofN (.var 14 0)),.slice true (.rw 3) (.lit 0) (.var 4 m),.int .i64 (.ofN (.var 4 m)),.int .i64 (.ofN (.var 8 i)),.undef,.undef] [some ⟨1,.var 31 b0⟩,some ⟨1,.var 32 [.int .i64 0,.nils,.nils]⟩,some ⟨4,.var 21 (A7 cs n (dW 4 cs))⟩,some ⟨2,.var 7 pl⟩,some ⟨1,.row (.var 22 (A1 E)) (.lit 0)⟩,some ⟨1,.row (.var 22 (A1 E)) (.lit 1)⟩,some ⟨1,.row (.var 22 (A1 E)) (.lit 2)⟩,some ⟨1,.row (.var 22 (A1 E)) (.lit 3)⟩,some ⟨1,.row (.var 22 (A1 E)) (.lit 4)⟩,some ⟨1,.row (.var 22 (A1 E)) (.lit 5)⟩,some ⟨1,.row (.var 22 (A1 E)) (.lit 6)⟩,some ⟨1,.row (.var 22 (A1 E)) (.lit 7)⟩,some ⟨1,.of [.int .i64 (.var 1 s),.slice true (.rw 2) (.lit 0) (.var 3 n),.slice true (.rw 3) (.lit 0) (.var 4 m)]⟩,some ⟨1,.of [.int .i64 (.var 6 0),.bool (.var 9 false)]⟩]),C3 1822 (fun _=>false) 4 108 [1,4,5,7,11,12,36,37,38,89,90] (.one (.exit 4) [.int .i64 (.var 2 (z:Int)),.ptr (.rw 1) (.lit 0),.int .i64 (.lit 0),.ptr (.rw 12) (.lit 0),.undef,.undef,.slice true (.rw 3) (.lit 0) (.var 4 m),.int .i64 (.ofN (.var 4 m)),.int .i64 (.ofN (.var 8 i)),.undef,.undef] [some ⟨1,.var 31 b0⟩,some ⟨1,.var 32 [.int .i64 0,.nils,.nils]⟩,some ⟨4,.var 21 (A7 cs n (dW 4 cs))⟩,some ⟨2,.var 7 pl⟩,some ⟨1,.row (.var 23 []) (.lit 0)⟩,some ⟨1,.row (.var 23 []) (.lit 1)⟩,some ⟨1,.row (.var 23 []) (.lit 2)⟩,some ⟨1,.row (.var 23 []) (.lit 3)⟩,some ⟨1,.row (.var 23 []) (.lit 4)⟩,some ⟨1,.row (.var 23 []) (.lit 5)⟩,some ⟨1,.row (.var 23 []) (.lit 6)⟩,some ⟨1,.row (.var 23 []) (.lit 7)⟩,some ⟨1,.of [.int .i64 (.var 1 s),.slice true (.rw 2) (.lit 0) (.var 3 n),.slice true (.rw 3) (.lit 0) (.var 4 m)]⟩,some ⟨1,.of [.int .i64 (.var 6 0),.bool (.var 9 false)]⟩])] 14)) ?_ (fuel:=500) (n0:=20) (m:=13) (c:=A4 Try.f13 0) (vs:=[.int .i64 (.var 2 (z:Int)),.ptr (.rw 1) (.lit 0),.int .i64 (.lit 0),.ptr (.rw 12) (.lit 0),.slice true (.rw 3) (.lit 0) (.var 4 m),.int .i64 (.ofN (.var 4 m)),.int .i64 (.ofN (.var 8 i))]) (H:=[some ⟨1,.var 31 b0⟩,some ⟨1,.var 32 [.int .i64 0,.nils,.nils]⟩,some ⟨4,.var 21 (A7 cs n (dW 4 cs))⟩,some ⟨2,.var 7 pl⟩,some ⟨1,.row (.var 22 (A1 E)) (.lit 0)⟩,some ⟨1,.row (.var 22 (A1 E)) (.lit 1)⟩,some ⟨1,.row (.var 22 (A1 E)) (.lit 2)⟩,some ⟨1,.row (.var 22 (A1 E)) (.lit 3)⟩,some ⟨1,.row (.var 22 (A1 E)) (.lit 4)⟩,some ⟨1,.row (.var 22 (A1 E)) (.lit 5)⟩,some ⟨1,.row (.var 22 (A1 E)) (.lit 6)⟩,some ⟨1,.row (.var 22 (A1 E)) (.lit 7)⟩,some ⟨1,.of [.int .i64 (.var 1 s),.slice true (.rw 2) (.lit 0) (.var 3 n),.slice true (.rw 3) (.lit 0) (.var 4 m)]⟩]) (Nat.le_refl _) ?_
  ·rw [show A8 (A4 Try.f13 0)=[A4 Try.f13 1,A4 Try.f13 2] by kernel_rfl];exact K9 (E9 G B) (by kernel_rfl) (.cons Gx (N7 G B)) (.cons (i:=2) (by kernel_rfl) rfl X9 (.cons (i:=4) (by kernel_rfl) rfl X9 .nil))
  ·rw [mv_o];refine ⟨fun h1=>absurd (of_decide_eq_true h1) (by omega),fun h1=>.inr ⟨e2,rfl,by simp [vVs,vV,vI,wk],?_⟩⟩;rw [←e,hE];rfl
end Go.Am
namespace Go.Am
open Go.Proofs
set_option maxRecDepth 100000
def plC (f:Nat→Int) (ps:List AV) (j:Nat):Nat→AV
 | 0=>.int .i64 (f j)
 | _=>.bool (hP ps j)
def B1 (f:Nat→Int) (ps:List AV) (m:Nat):List AV:=M9 m 2 (plC f ps)
theorem Oa {f:Nat→Int} {ps:List AV} {m:Nat}:(B1 f ps m).length=m*2:=Dg
theorem J1 {N:Nat} {f:Nat→Int} {ps:List AV} {m:Nat}:A5 N (B1 f ps m)=true:=Xd fun a b ha hb=>by
 match b,hb with
 | 0,_=>rfl
 | 1,_=>rfl
theorem Rx {f:Nat→Int} {ps:List AV} {m i:Nat} (h:i<m):isI .i64 (B1 f ps m) (i*2)=true∧isB (B1 f ps m) (i*2+1)=true∧xP (B1 f ps m) i=f i∧hP (B1 f ps m) i=hP ps i:=by
 have e0:(B1 f ps m)[i*2+0]?=some (.int .i64 (f i)):=O7 (f:=plC f ps) h (by omega);have e1:(B1 f ps m)[i*2+1]?=some (.bool (hP ps i)):=O7 (f:=plC f ps) h (by omega);rw [Nat.add_zero] at e0;unfold isI isB xP hP A3 D9;rw [e0,e1];exact ⟨rfl,rfl,rfl,rfl⟩
theorem Wp {f g:Nat→Int} {ps:List AV} {m:Nat} (h:∀ j,j<m→f j=g j):B1 f ps m=B1 g ps m:=N4 fun a b ha hb=>by
 match b,hb with
 | 0,_=>unfold plC;rw [h a ha]
 | 1,_=>rfl
theorem eK {f:Nat→Int} {ps:List AV} {m i:Nat} {v:Int}:B5 (B1 f ps m) (i*2) (.int .i64 v)=B1 (fun j=>if j=i then v else f j) ps m:=by
 show (B1 f ps m).set (i*2+0) _=_;unfold B1;rw [Pp (by omega)];refine N4 fun a b ha hb=>?_
 match b,hb with
 | 0,_=>
  by_cases e:a=i
  ·subst e;rw [if_pos ⟨rfl,rfl⟩];show AV.int .i64 v=.int .i64 (if a=a then v else f a);rw [if_pos rfl]
  ·rw [if_neg fun h=>e h.1];show AV.int .i64 (f a)=.int .i64 (if a=i then v else f a);rw [if_neg e]
 | 1,_=>
  rw [if_neg fun h=>by cases h.2];rfl
theorem kB {ps:List AV} {m:Nat} (h:R7 ps m=true) (hl:m*2≤ps.length):B9 ps 0 (m*2)=B1 (xP ps) ps m:=by
 refine List.ext_getElem? fun j=>?_;by_cases hj:j<m*2
 ·obtain ⟨h1,h2,h3⟩:=Oy hj;have e:=O9 h h1;have e2:(B1 (xP ps) ps m)[j / 2*2+j % 2]?=some (plC (xP ps) ps (j / 2) (j % 2)):=O7 (f:=plC (xP ps) ps) h1 h2;rw [←h3] at e2;rw [e2];unfold B9;rw [List.drop_zero,List.getElem?_take,if_pos hj];generalize j / 2=a at *;generalize j % 2=b at *;subst h3;obtain ⟨q1,_⟩:=e;simp only [D5,X0,Bool.and_eq_true] at q1
  match b,h2 with
  | 0,_=>rw [Nat.add_zero];exact Z9 q1.1
  | 1,_=>
   have hb:isB ps (a*2+1)=true:=q1.2.1;show ps[a*2+1]?=some (.bool (D9 ps (a*2+1)));unfold isB at hb;unfold D9;split at hb
   ·rename_i e;rw [e]
   ·cases hb
 ·have h1:(B9 ps 0 (m*2)).length≤j:=by
   unfold B9;rw [List.length_take];omega
  have h2:(B1 (xP ps) ps m).length≤j:=by rw [Oa];omega
  rw [List.getElem?_eq_none h1,List.getElem?_eq_none h2]
def shF (ps:List AV) (z i:Nat):Nat→Int:=fun j=>if j<i then xP ps j+(z:Int) else xP ps j
theorem pF {ps:List AV} {z:Nat}:shF ps z 0=xP ps:=by funext j;unfold shF;rw [if_neg (by omega)]
theorem rw_good (G:Nat→List AV) (B:Nat) (pl:List AV) (D:Nat→List Nat) (ks kp n m z i:Nat) (s x:Int) (h:Bool) (hz:z≤8192) (h8:n≤8) (hb:∀ j,V3 (D j)) (hl:∀ j,j<n→(D j).length=sN (G ks) j) (hs:Vn (G ks) n x h):O6 (⟨Try.prog,G,B⟩:A2) (Df Try.prog [(37,4,8)] [] progIc [C3 1823 (G8 [.int .i64 (z:Int),.ptr (.rw 0) 0,.ptr (.rw 1) 0,.int .i64 0,.ptr (.rw 12) 0,.int .i64 (i:Int),.ptr (.rw 13) 0,.int .i64 ((B2 (G ks) n x h):Int),.int .i64 ((N3 (G ks) n x h):Int),.int .u32 0,.int .i64 (((wdN h):Int) - 1)] (Q5 [.int .i64 s,.slice true (.ro ks) 0 n,.slice true (.ro kp) 0 m] [.int .i64 0,.nils,.nils] (A7 (G ks) n (dW 4 (G ks))) pl (A1 D) [.int .i64 s,.slice true (.rw 2) 0 n,.slice true (.rw 3) 0 m] [.int .i64 x,.bool h])) 2 150 [1,2,4,5,6,7,8,9,10,11,12] (.one (.exit 2) [.int .i64 (.var 2 (z:Int)),.ptr (.rw 0) (.lit 0),.ptr (.rw 1) (.lit 0),.int .i64 (.lit 0),.ptr (.rw 12) (.lit 0),.int .i64 (.ofN (.var 8 i)),.ptr (.rw 13) (.lit 0),.int .i64 (.ofN (.var 11 (B2 (G ks) n x h))),.int .i64 (.ofN (.var 12 (N3 (G ks) n x h))),.int .u32 (.ofN (.var 14 (leN (D (B2 (G ks) n x h)) (N3 (G ks) n x h) (wdN h)))),.undef] [some ⟨1,.of [.int .i64 (.var 1 s),.slice true (.ro (.var 24 ks)) (.lit 0) (.var 3 n),.slice true (.ro (.var 25 kp)) (.lit 0) (.var 4 m)]⟩,some ⟨1,.var 32 [.int .i64 0,.nils,.nils]⟩,some ⟨4,.var 21 (A7 (G ks) n (dW 4 (G ks)))⟩,some ⟨2,.var 7 pl⟩,some ⟨1,.row (.var 22 (A1 D)) (.lit 0)⟩,some ⟨1,.row (.var 22 (A1 D)) (.lit 1)⟩,some ⟨1,.row (.var 22 (A1 D)) (.lit 2)⟩,some ⟨1,.row (.var 22 (A1 D)) (.lit 3)⟩,some ⟨1,.row (.var 22 (A1 D)) (.lit 4)⟩,some ⟨1,.row (.var 22 (A1 D)) (.lit 5)⟩,some ⟨1,.row (.var 22 (A1 D)) (.lit 6)⟩,some ⟨1,.row (.var 22 (A1 D)) (.lit 7)⟩,some ⟨1,.of [.int .i64 (.var 1 s),.slice true (.rw 2) (.lit 0) (.var 3 n),.slice true (.rw 3) (.lit 0) (.var 4 m)]⟩,some ⟨1,.of [.int .i64 (.var 6 x),.bool (.var 9 h)]⟩]),C3 1824 (G8 [.int .i64 (z:Int),.ptr (.rw 0) 0,.ptr (.rw 1) 0,.int .i64 0,.ptr (.rw 12) 0,.int .i64 (i:Int),.ptr (.rw 13) 0,.int .i64 ((B2 (G ks) n x h):Int),.int .i64 ((N3 (G ks) n x h):Int),.int .u32 ((V0 D (G ks) n z x h):Int),.int .i64 0] (Q5 [.int .i64 s,.slice true (.ro ks) 0 n,.slice true (.ro kp) 0 m] [.int .i64 0,.nils,.nils] (A7 (G ks) n (dW 4 (G ks))) pl (A1 D) [.int .i64 s,.slice true (.rw 2) 0 n,.slice true (.rw 3) 0 m] [.int .i64 x,.bool h])) 4 150 [1,2,4,5,6,7,8,9,10,11,13] (.one (.exit 4) [.int .i64 (.var 2 (z:Int)),.ptr (.rw 0) (.lit 0),.ptr (.rw 1) (.lit 0),.int .i64 (.lit 0),.ptr (.rw 12) (.lit 0),.int .i64 (.ofN (.var 8 i)),.ptr (.rw 13) (.lit 0),.undef,.undef,.undef,.undef] [some ⟨1,.of [.int .i64 (.var 1 s),.slice true (.ro (.var 24 ks)) (.lit 0) (.var 3 n),.slice true (.ro (.var 25 kp)) (.lit 0) (.var 4 m)]⟩,some ⟨1,.var 32 [.int .i64 0,.nils,.nils]⟩,some ⟨4,.var 21 (A7 (G ks) n (dW 4 (G ks)))⟩,some ⟨2,.var 7 pl⟩,some ⟨1,.row (.var 23 (A1 (updD D (B2 (G ks) n x h) (M4 (D (B2 (G ks) n x h)) (N3 (G ks) n x h) (V0 D (G ks) n z x h) (wdN h))))) (.lit 0)⟩,some ⟨1,.row (.var 23 (A1 (updD D (B2 (G ks) n x h) (M4 (D (B2 (G ks) n x h)) (N3 (G ks) n x h) (V0 D (G ks) n z x h) (wdN h))))) (.lit 1)⟩,some ⟨1,.row (.var 23 (A1 (updD D (B2 (G ks) n x h) (M4 (D (B2 (G ks) n x h)) (N3 (G ks) n x h) (V0 D (G ks) n z x h) (wdN h))))) (.lit 2)⟩,some ⟨1,.row (.var 23 (A1 (updD D (B2 (G ks) n x h) (M4 (D (B2 (G ks) n x h)) (N3 (G ks) n x h) (V0 D (G ks) n z x h) (wdN h))))) (.lit 3)⟩,some ⟨1,.row (.var 23 (A1 (updD D (B2 (G ks) n x h) (M4 (D (B2 (G ks) n x h)) (N3 (G ks) n x h) (V0 D (G ks) n z x h) (wdN h))))) (.lit 4)⟩,some ⟨1,.row (.var 23 (A1 (updD D (B2 (G ks) n x h) (M4 (D (B2 (G ks) n x h)) (N3 (G ks) n x h) (V0 D (G ks) n z x h) (wdN h))))) (.lit 5)⟩,some ⟨1,.row (.var 23 (A1 (updD D (B2 (G ks) n x h) (M4 (D (B2 (G ks) n x h)) (N3 (G ks) n x h) (V0 D (G ks) n z x h) (wdN h))))) (.lit 6)⟩,some ⟨1,.row (.var 23 (A1 (updD D (B2 (G ks) n x h) (M4 (D (B2 (G ks) n x h)) (N3 (G ks) n x h) (V0 D (G ks) n z x h) (wdN h))))) (.lit 7)⟩,some ⟨1,.of [.int .i64 (.var 1 s),.slice true (.rw 2) (.lit 0) (.var 3 n),.slice true (.rw 3) (.lit 0) (.var 4 m)]⟩,some ⟨1,.of [.int .i64 (.var 6 x),.bool (.var 9 h)]⟩])] 14) (A8 (A4 Try.f14 0)):=by
 rw [show A8 (A4 Try.f14 0)=[A4 Try.f14 1,A4 Try.f14 2] by kernel_rfl];obtain ⟨v1,v2,v3,v4⟩:=Rl (z:=z) (D:=D) hs hz;have lt:=hs.lt;have sm:=hs.small;refine K9 (E9 G B) (by kernel_rfl) (Bq G B) (.cons (i:=2) (by kernel_rfl) rfl (N2 rfl ?_) (.cons (i:=4) (by kernel_rfl) rfl (N2 rfl ?_) .nil))
 ·refine (rw_rd G B [.int .i64 s,.slice true (.ro ks) 0 n,.slice true (.ro kp) 0 m] [.int .i64 0,.nils,.nils] (G ks) pl D n m s x h i (B2 (G ks) n x h) (N3 (G ks) n x h) (wdN h) (z:Int) (by omega) lt Lv.1 (hb _) (hl _ lt) v2 sm).lmono ?_;rintro e vs H ⟨rfl,q,rfl⟩;exact ⟨rfl,.inl ⟨q,rfl⟩⟩
 ·refine (rw_wr G B [.int .i64 s,.slice true (.ro ks) 0 n,.slice true (.ro kp) 0 m] [.int .i64 0,.nils,.nils] (G ks) pl D n m s x h i (B2 (G ks) n x h) (N3 (G ks) n x h) (V0 D (G ks) n z x h) (z:Int) (by omega) lt (hl _ lt) v2 sm v4).lmono ?_;rintro e vs H ⟨rfl,q,rfl⟩;exact ⟨rfl,.inl ⟨q,rfl⟩⟩
end Go.Am
namespace Go.Am
open Go.Proofs
set_option maxRecDepth 100000
theorem rw_lp (G:Nat→List AV) (B:Nat) (D:Nat→List Nat) (ks kp n m z:Nat) (s:Int) (hm:m≤1000) (hz:z≤8192) (h8:n≤8) (hb:∀ j,V3 (D j)) (hl:∀ j,j<n→(D j).length=sN (G ks) j) (hsc:I4 (G ks) n=true) (hpl:R7 (G kp) m=true) (hp:∀ i,i<m→Vn (G ks) n (xP (G kp) i) (hP (G kp) i)∧Ia (G ks) n (xP (G kp) i) (hP (G kp) i)=(B2 (G ks) n (xP (G kp) i) (hP (G kp) i):Int)):AWp (⟨Try.prog,G,B⟩:A2) 13 (.loop (A4 Try.f14 0)) (fl 150 [1,2,4,5,6,7] [.int .i64 (z:Int),.ptr (.rw 0) 0,.ptr (.rw 1) 0,.int .i64 0,.ptr (.rw 12) 0,.int .i64 0]) (U7 [.int .i64 s,.slice true (.ro ks) 0 n,.slice true (.ro kp) 0 m] [.int .i64 0,.nils,.nils] (A7 (G ks) n (dW 4 (G ks))) (B1 (xP (G kp)) (G kp) m) (A1 D) [.int .i64 s,.slice true (.rw 2) 0 n,.slice true (.rw 3) 0 m]) (lv 150 [1,2,4,5,6,7] fun e vs H=>((E3 D (G ks) n z (G kp) m)<m∧e=.ret∧wk [.undef,.undef,.ptr (.rw 1) 0,.int .i64 2,.undef,.undef] vs∧∃ Y,H=[some ⟨1,[.int .i64 s,.slice true (.ro ks) 0 n,.slice true (.ro kp) 0 m]⟩,some ⟨1,[.int .i64 0,.nils,.nils]⟩]++Y)∨((E3 D (G ks) n z (G kp) m)=m∧e=.exit 0∧wk [.int .i64 (z:Int),.ptr (.rw 0) 0,.ptr (.rw 1) 0,.int .i64 0,.ptr (.rw 12) 0,.undef] vs∧H=U7 [.int .i64 s,.slice true (.ro ks) 0 n,.slice true (.ro kp) 0 m] [.int .i64 0,.nils,.nils] (A7 (G ks) n (dW 4 (G ks))) (B1 (shF (G kp) z m) (G kp) m) (A1 (M1 D (G ks) n z (G kp) m)) [.int .i64 s,.slice true (.rw 2) 0 n,.slice true (.rw 3) 0 m])):=by
  have hle:(E3 D (G ks) n z (G kp) m)≤m:=G9.1;rw [← pF (z := z)];refine S0 (E3 D (G ks) n z (G kp) m) (fun i=>[.int .i64 (z:Int),.ptr (.rw 0) 0,.ptr (.rw 1) 0,.int .i64 0,.ptr (.rw 12) 0,.int .i64 (i:Int)]) (fun i=>(U7 [.int .i64 s,.slice true (.ro ks) 0 n,.slice true (.ro kp) 0 m] [.int .i64 0,.nils,.nils] (A7 (G ks) n (dW 4 (G ks))) (B1 (shF (G kp) z i) (G kp) m) (A1 (M1 D (G ks) n z (G kp) i)) [.int .i64 s,.slice true (.rw 2) 0 n,.slice true (.rw 3) 0 m])) fun i hi=>?_;by_cases hin:i<m
  · obtain ⟨hs,hf⟩:=hp i hin;have hbad:Np D (G ks) n z (G kp) i=decide (i=(E3 D (G ks) n z (G kp) m)):=Cq (p:=Np D (G ks) n z (G kp)) hi hin;have nxt:M1 D (G ks) n z (G kp) (i+1)=Mr (M1 D (G ks) n z (G kp) i) (G ks) n z (xP (G kp) i) (hP (G kp) i):=rfl;rw [nxt];have hbE:∀ j,V3 (M1 D (G ks) n z (G kp) i j):=aG hb i;have hlE:∀ j,j<n→(M1 D (G ks) n z (G kp) i j).length=sN (G ks) j:=fun j hj=>by rw [Oe,hl j hj]
    simp only [Np] at hbad;generalize M1 D (G ks) n z (G kp) i=E at *
    have hF:B1 (fun j=>if j=i then xP (G kp) i+(z:Int) else shF (G kp) z i j) (G kp) m=B1 (shF (G kp) z (i+1)) (G kp) m:=Wp fun j hj=>by
      unfold shF;by_cases e:j=i
      · rw [if_pos e,if_pos (by omega),e]
      · rw [if_neg e];by_cases f:j<i
        · rw [if_pos f,if_pos (by omega)]
        · rw [if_neg f,if_neg (by omega)]
    rw [←hF];have pok:=O9 hpl hin;have good:=rw_good G B (B1 (shF (G kp) z i) (G kp) m) E ks kp n m z i s (xP (G kp) i) (hP (G kp) i) hz h8 hbE hlE hs;generalize shF (G kp) z i=F at *
    refine D3 (C:=(⟨Try.prog,G,B⟩:A2)) good (fuel:=500) (n0:=20) (m:=13) (c:=A4 Try.f14 0) (vs:=[.int .i64 (.var 2 (z:Int)),.ptr (.rw 0) (.lit 0),.ptr (.rw 1) (.lit 0),.int .i64 (.lit 0),.ptr (.rw 12) (.lit 0),.int .i64 (.ofN (.var 8 i))]) (H:=[some ⟨1,.of [.int .i64 (.var 1 s),.slice true (.ro (.var 24 ks)) (.lit 0) (.var 3 n),.slice true (.ro (.var 25 kp)) (.lit 0) (.var 4 m)]⟩,some ⟨1,.var 32 [.int .i64 0,.nils,.nils]⟩,some ⟨4,.var 21 (A7 (G ks) n (dW 4 (G ks)))⟩,some ⟨2,.var 7 (B1 F (G kp) m)⟩,some ⟨1,.row (.var 22 (A1 E)) (.lit 0)⟩,some ⟨1,.row (.var 22 (A1 E)) (.lit 1)⟩,some ⟨1,.row (.var 22 (A1 E)) (.lit 2)⟩,some ⟨1,.row (.var 22 (A1 E)) (.lit 3)⟩,some ⟨1,.row (.var 22 (A1 E)) (.lit 4)⟩,some ⟨1,.row (.var 22 (A1 E)) (.lit 5)⟩,some ⟨1,.row (.var 22 (A1 E)) (.lit 6)⟩,some ⟨1,.row (.var 22 (A1 E)) (.lit 7)⟩,some ⟨1,.of [.int .i64 (.var 1 s),.slice true (.rw 2) (.lit 0) (.var 3 n),.slice true (.rw 3) (.lit 0) (.var 4 m)]⟩]) (Nat.le_refl _) ?_
    rw [rw_o];obtain ⟨v1,v2,v3,v4⟩:=Rl (z:=z) (D:=E) hs hz;have ex:A3 (G kp) (i*2)=xP (G kp) i:=rfl;have eh:D9 (G kp) (i*2+1)=hP (G kp) i:=rfl;rw [ex,eh];generalize xP (G kp) i=x at *;generalize hP (G kp) i=h at *;have lt:=hs.lt;have shi:=hs.hi;have slo:=hs.lo;have sle:=hs.le;have ew:Y0 [.bool h]=((wdN h):Int):=by rw [Yp];exact Re
    have wb:=Lv (h:=h);have i0:∀ k:Nat,Int.toNat (k:Int)=k:=C4;have eA:A3 (G ks) ((B2 (G ks) n x h)*4)=sA (G ks) (B2 (G ks) n x h):=rfl;rw [Ha,hf,i0,eA,v1,v3,ew,B6 (n:=((wdN h):Int) - 1) (by omega),B6 (n:=(i:Int)+1) (by omega),B6 (n:=x+(z:Int)) (by omega),eK]
    have vw:B7 13 [.int .i64 (z:Int),.ptr (.rw 0) 0,.ptr (.rw 1) 0,.int .i64 0,.ptr (.rw 12) 0,.int .i64 ((i+1:Nat):Int)] (U7 [.int .i64 s,.slice true (.ro ks) 0 n,.slice true (.ro kp) 0 m] [.int .i64 0,.nils,.nils] (A7 (G ks) n (dW 4 (G ks))) (B1 (fun j=>if j=i then x+(z:Int) else F j) (G kp) m) (A1 (Mr E (G ks) n z x h)) [.int .i64 s,.slice true (.rw 2) 0 n,.slice true (.rw 3) 0 m]) [.int .i64 (z:Int),.ptr (.rw 0) 0,.ptr (.rw 1) 0,.int .i64 0,.ptr (.rw 12) 0,.int .i64 ((i+1:Nat):Int)] (U7 [.int .i64 s,.slice true (.ro ks) 0 n,.slice true (.ro kp) 0 m] [.int .i64 0,.nils,.nils] (A7 (G ks) n (dW 4 (G ks))) (B1 (fun j=>if j=i then x+(z:Int) else F j) (G kp) m) (A1 (Mr E (G ks) n z x h)) [.int .i64 s,.slice true (.rw 2) 0 n,.slice true (.rw 3) 0 m]++[some ⟨1,[.int .i64 x,.bool h]⟩]):=B7.same (by rw [Du];exact Nat.le_refl _) (Qn (by rw [Du];exact Nat.le_refl _) h8 rfl rfl J1) (by
      rw [Du]
      exact ⟨⟨rfl,rfl⟩,⟨rfl,rfl⟩,⟨rfl,rfl⟩,⟨rfl,rfl⟩,⟨rfl,rfl⟩,⟨rfl,rfl⟩,trivial⟩)
    rw [←aY] at vw;refine ⟨fun h1=>?_,fun h1=>absurd (of_decide_eq_false h1) (by omega)⟩;refine ⟨decide_eq_true (by omega),h1,pok.1,I6.2 ⟨hsc,by omega⟩,decide_eq_true (by omega),decide_eq_true (by omega),(Mb hsc lt).1,D4,fun hh=>⟨fun e=>?_,fun e=>?_⟩,fun hh=>?_⟩
    · refine ⟨rfl,.inl ⟨?_,rfl,by simp [vVs,vV,vI,wk],_,rfl⟩⟩
      have:Ai E (G ks) n z x h=true:=by
        unfold Ai;rw [hh,Bool.true_and]
        have:=of_decide_eq_true e
        exact decide_eq_true (by rw [hh] at this;omega)
      rw [this] at hbad
      have:=of_decide_eq_true hbad.symm
      omega
    · have:Ai E (G ks) n z x h=false:=by
        unfold Ai;rw [hh,Bool.true_and]
        have:=of_decide_eq_false e
        exact decide_eq_false (by rw [hh] at this;omega)
      rw [this] at hbad
      have:=of_decide_eq_false hbad.symm
      exact ⟨D4,decide_eq_true (by omega),h1,C6.2 (by rw [Oa];omega),by omega,.inr vw⟩
    · have:Ai E (G ks) n z x h=false:=by
        unfold Ai;rw [hh,Bool.false_and]
      rw [this] at hbad
      have:=of_decide_eq_false hbad.symm
      exact ⟨D4,decide_eq_true (by omega),h1,C6.2 (by rw [Oa];omega),by omega,.inr vw⟩
  · have e:i=m:=by omega
    have e2:(E3 D (G ks) n z (G kp) m)=m:=by omega
    generalize hE:M1 D (G ks) n z (G kp) i=E;generalize hF:shF (G kp) z i=F
    refine D3 (C:=(⟨Try.prog,G,B⟩:A2)) (K:=(Df Try.prog [(37,4,8)] [] progIc [C3 1823 (fun _=>false) 2 150 [1,2,4,5,6,7,8,9,10,11,12] (.one (.exit 2) [.int .i64 (.var 2 (z:Int)),.ptr (.rw 0) (.lit 0),.ptr (.rw 1) (.lit 0),.int .i64 (.lit 0),.ptr (.rw 12) (.lit 0),.int .i64 (.ofN (.var 8 i)),.ptr (.rw 13) (.lit 0),.int .i64 (.ofN (.var 11 0)),.int .i64 (.ofN (.var 12 0)),.int .u32 (.ofN (.var 14 0)),.undef] [some ⟨1,.of [.int .i64 (.var 1 s),.slice true (.ro (.var 24 ks)) (.lit 0) (.var 3 n),.slice true (.ro (.var 25 kp)) (.lit 0) (.var 4 m)]⟩,some ⟨1,.var 32 [.int .i64 0,.nils,.nils]⟩,some ⟨4,.var 21 (A7 (G ks) n (dW 4 (G ks)))⟩,some ⟨2,.var 7 (B1 F (G kp) m)⟩,some ⟨1,.row (.var 22 (A1 E)) (.lit 0)⟩,some ⟨1,.row (.var 22 (A1 E)) (.lit 1)⟩,some ⟨1,.row (.var 22 (A1 E)) (.lit 2)⟩,some ⟨1,.row (.var 22 (A1 E)) (.lit 3)⟩,some ⟨1,.row (.var 22 (A1 E)) (.lit 4)⟩,some ⟨1,.row (.var 22 (A1 E)) (.lit 5)⟩,some ⟨1,.row (.var 22 (A1 E)) (.lit 6)⟩,some ⟨1,.row (.var 22 (A1 E)) (.lit 7)⟩,some ⟨1,.of [.int .i64 (.var 1 s),.slice true (.rw 2) (.lit 0) (.var 3 n),.slice true (.rw 3) (.lit 0) (.var 4 m)]⟩,some ⟨1,.of [.int .i64 (.var 6 0),.bool (.var 9 false)]⟩]),C3 1824 (fun _=>false) 4 150 [1,2,4,5,6,7,8,9,10,11,13] (.one (.exit 4) [.int .i64 (.var 2 (z:Int)),.ptr (.rw 0) (.lit 0),.ptr (.rw 1) (.lit 0),.int .i64 (.lit 0),.ptr (.rw 12) (.lit 0),.int .i64 (.ofN (.var 8 i)),.ptr (.rw 13) (.lit 0),.undef,.undef,.undef,.undef] [some ⟨1,.of [.int .i64 (.var 1 s),.slice true (.ro (.var 24 ks)) (.lit 0) (.var 3 n),.slice true (.ro (.var 25 kp)) (.lit 0) (.var 4 m)]⟩,some ⟨1,.var 32 [.int .i64 0,.nils,.nils]⟩,some ⟨4,.var 21 (A7 (G ks) n (dW 4 (G ks)))⟩,some ⟨2,.var 7 (B1 F (G kp) m)⟩,some ⟨1,.row (.var 23 []) (.lit 0)⟩,some ⟨1,.row (.var 23 []) (.lit 1)⟩,some ⟨1,.row (.var 23 []) (.lit 2)⟩,some ⟨1,.row (.var 23 []) (.lit 3)⟩,some ⟨1,.row (.var 23 []) (.lit 4)⟩,some ⟨1,.row (.var 23 []) (.lit 5)⟩,some ⟨1,.row (.var 23 []) (.lit 6)⟩,some ⟨1,.row (.var 23 []) (.lit 7)⟩,some ⟨1,.of [.int .i64 (.var 1 s),.slice true (.rw 2) (.lit 0) (.var 3 n),.slice true (.rw 3) (.lit 0) (.var 4 m)]⟩,some ⟨1,.of [.int .i64 (.var 6 0),.bool (.var 9 false)]⟩])] 14)) ?_ (fuel:=500) (n0:=20) (m:=13) (c:=A4 Try.f14 0) (vs:=[.int .i64 (.var 2 (z:Int)),.ptr (.rw 0) (.lit 0),.ptr (.rw 1) (.lit 0),.int .i64 (.lit 0),.ptr (.rw 12) (.lit 0),.int .i64 (.ofN (.var 8 i))]) (H:=[some ⟨1,.of [.int .i64 (.var 1 s),.slice true (.ro (.var 24 ks)) (.lit 0) (.var 3 n),.slice true (.ro (.var 25 kp)) (.lit 0) (.var 4 m)]⟩,some ⟨1,.var 32 [.int .i64 0,.nils,.nils]⟩,some ⟨4,.var 21 (A7 (G ks) n (dW 4 (G ks)))⟩,some ⟨2,.var 7 (B1 F (G kp) m)⟩,some ⟨1,.row (.var 22 (A1 E)) (.lit 0)⟩,some ⟨1,.row (.var 22 (A1 E)) (.lit 1)⟩,some ⟨1,.row (.var 22 (A1 E)) (.lit 2)⟩,some ⟨1,.row (.var 22 (A1 E)) (.lit 3)⟩,some ⟨1,.row (.var 22 (A1 E)) (.lit 4)⟩,some ⟨1,.row (.var 22 (A1 E)) (.lit 5)⟩,some ⟨1,.row (.var 22 (A1 E)) (.lit 6)⟩,some ⟨1,.row (.var 22 (A1 E)) (.lit 7)⟩,some ⟨1,.of [.int .i64 (.var 1 s),.slice true (.rw 2) (.lit 0) (.var 3 n),.slice true (.rw 3) (.lit 0) (.var 4 m)]⟩]) (Nat.le_refl _) ?_
    · rw [show A8 (A4 Try.f14 0)=[A4 Try.f14 1,A4 Try.f14 2] by kernel_rfl];exact K9 (E9 G B) (by kernel_rfl) (Bq G B) (.cons (i:=2) (by kernel_rfl) rfl X9 (.cons (i:=4) (by kernel_rfl) rfl X9 .nil))
    · rw [rw_o];refine ⟨fun h1=>absurd (of_decide_eq_true h1) (by omega),fun h1=>.inr ⟨e2,rfl,by simp [vVs,vV,vI,wk],?_⟩⟩;rw [←e,hE,hF];rfl
end Go.Am
namespace Go.Am
open Go.Proofs
set_option maxRecDepth 100000
theorem qF {v:AV} {a b:List AV} (h:wk a b):wk (v::a) (v::b):=by cases v<;>simp [wk,h]
theorem Bz {m k:Nat}:∀ {a b:List AV},wk a b→wk (fzs m k a) (fzs m k b)
 | [],[],_=>by simp [fzs,wk]
 | [],y::b,h=>by simp [wk] at h
 | x::a,[],h=>by cases x<;>simp [wk] at h
 | x::a,y::b,h=>by
  by_cases hx:x=.undef
  ·subst hx;have h:wk a b:=h;show wk (.undef::fzs m k a) (fz m k y::fzs m k b);exact Bz h
  ·have h2:y=x∧wk a b:=by cases x<;>first | exact absurd rfl hx | exact h
   obtain ⟨rfl,h2⟩:=h2;exact qF (Bz h2)
theorem oC {q k m z:Nat} {f:Nat→Nat→AV}:fzs q k (M9 m z f)=M9 m z fun a b=>fz q k (f a b):=by
 rw [X1];unfold M9;rw [List.map_map];rfl
def dK (kd:Nat→Nat) (cs:List AV) (j:Nat):AV:=.slice true (.ro (kd j)) 0 (sN cs j)
def dF (kd:Nat→Nat) (cs:List AV) (q j:Nat):AV:=if j<q then dK kd cs j else dW 4 cs j
theorem tE {kd:Nat→Nat} {cs:List AV} {n q:Nat}:fzs (4+q) (kd q) (A7 cs n (dF kd cs q))=A7 cs n (dF kd cs (q+1)):=by
 unfold A7;rw [oC];refine N4 fun a b ha hb=>?_
 match b,hb with
 | 0,_=>rfl
 | 1,_=>rfl
 | 2,_=>
  show fz (4+q) (kd q) (dF kd cs q a)=dF kd cs (q+1) a;unfold dF;by_cases h:a<q
  ·rw [if_pos h,if_pos (by omega)];rfl
  ·rw [if_neg h];show (bif Nat.beq (4+a) (4+q) then AV.slice true (.ro (kd q)) 0 (sN cs a) else .slice true (.rw (4+a)) 0 (sN cs a))=_;by_cases e:a=q
   ·subst e;rw [Nat.beq_refl,if_pos (by omega)];rfl
   ·rw [No (by omega),if_neg (by omega)];rfl
 | 3,_=>rfl
def hF (b0 b1 cs pl b12:List AV) (D:Nat→List Nat) (n:Nat) (kd:Nat→Nat) (q:Nat):Nat→Option Blk
 | 0=>some ⟨1,b0⟩
 | 1=>some ⟨1,b1⟩
 | 2=>some ⟨4,A7 cs n (dF kd cs q)⟩
 | 3=>some ⟨2,pl⟩
 | i+4=>if i=8 then some ⟨1,b12⟩ else if i<q then none else some ⟨1,A0 (A1 D) i⟩
def Sn (b0 b1 cs pl b12:List AV) (D:Nat→List Nat) (n:Nat) (kd:Nat→Nat) (q:Nat):Hp:=(List.range 13).map (hF b0 b1 cs pl b12 D n kd q)
def Hb (b0 b1 sc pl b12:List AV):Hp:=[some ⟨1,b0⟩,some ⟨1,b1⟩,some ⟨4,sc⟩,some ⟨2,pl⟩,none,none,none,none,none,none,none,none,some ⟨1,b12⟩]
theorem hpF_8 {b0 b1 cs pl b12:List AV} {D:Nat→List Nat} {n:Nat} {kd:Nat→Nat} (h8:n≤8):Sn b0 b1 cs pl b12 D n kd 8=Hb b0 b1 (A7 cs n (dK kd cs)) pl b12:=by
 have e:A7 cs n (dK kd cs)=A7 cs n (dF kd cs 8):=Z3 fun j hj=>by unfold dF;rw [if_pos (by omega)]
 rw [e];rfl
theorem aZ {b0 b1 cs pl b12:List AV} {D:Nat→List Nat} {n:Nat} {kd:Nat→Nat} {q i:Nat} (h:i<13):(Sn b0 b1 cs pl b12 D n kd q)[i]?=some (hF b0 b1 cs pl b12 D n kd q i):=by
 unfold Sn;rw [List.getElem?_map,List.getElem?_range h];rfl
theorem vD {b0 b1 cs pl b12:List AV} {D:Nat→List Nat} {n:Nat} {kd:Nat→Nat} {q:Nat} (hq:q<8) (h0:A5 4 b0=true) (h1:A5 4 b1=true) (hp:A5 4 pl=true) (h12:A5 4 b12=true):Da (4+q) (kd q) (Sn b0 b1 cs pl b12 D n kd q)=Sn b0 b1 cs pl b12 D n kd (q+1):=by
 have id:∀ {l:List AV},A5 4 l=true→fzs (4+q) (kd q) l=l:=fun h=>Al (n:=4) (by omega) _ h;unfold Da;refine List.ext_getElem? fun i=>?_;rw [List.getElem?_set,List.getElem?_map,List.length_map];have hl:(Sn b0 b1 cs pl b12 D n kd q).length=13:=by simp [Sn]
 rw [hl];by_cases hi:i<13
 ·rw [aZ hi,aZ hi];by_cases e:4+q=i
  ·rw [if_pos e,if_pos (by omega)];subst e;rw [Nat.add_comm 4 q];show some none=some (if q=8 then (some ⟨1,b12⟩:Option Blk) else if q<q+1 then none else some ⟨1,A0 (A1 D) q⟩);rw [if_neg (by omega),if_pos (by omega)]
  ·rw [if_neg e];show some (fzB (4+q) (kd q) (hF b0 b1 cs pl b12 D n kd q i))=_
   match i with
   | 0=>show some (some (⟨1,fzs _ _ b0⟩:Blk))=_;rw [id h0];rfl
   | 1=>show some (some (⟨1,fzs _ _ b1⟩:Blk))=_;rw [id h1];rfl
   | 2=>show some (some (⟨4,fzs _ _ (A7 cs n (dF kd cs q))⟩:Blk))=_;rw [tE];rfl
   | 3=>show some (some (⟨2,fzs _ _ pl⟩:Blk))=_;rw [id hp];rfl
   | i+4=>
    show some (fzB (4+q) (kd q) (if i=8 then some ⟨1,b12⟩ else if i<q then none else some ⟨1,A0 (A1 D) i⟩))=some (if i=8 then some ⟨1,b12⟩ else if i<q+1 then none else some ⟨1,A0 (A1 D) i⟩);by_cases f:i=8
    ·rw [if_pos f,if_pos f];show some (some (⟨1,fzs _ _ b12⟩:Blk))=_;rw [id h12]
    ·rw [if_neg f,if_neg f];by_cases g:i<q
     ·rw [if_pos g,if_pos (by omega)];rfl
     ·rw [if_neg g,if_neg (by omega)];show some (some (⟨1,fzs _ _ (A0 (A1 D) i)⟩:Blk))=_;rw [id (Dl (by omega))]
 ·rw [List.getElem?_eq_none (by rw [hl];omega),List.getElem?_eq_none (by simp [Sn];omega)];rw [if_neg (by omega)];rfl
theorem AWp.frz8 (G:Nat→List AV) (B:Nat) {c:Code} {F:Fr} {H:Hp} {N n0:Nat} {live:List Nat} {ex:Ex} {vs0:List AV} {b0 b1 cs pl b12:List AV} {D:Nat→List Nat} {n:Nat} {kd:Nat→Nat} (h8:n≤8) (h0:A5 4 b0=true) (h1:A5 4 b1=true) (hp:A5 4 pl=true) (h12:A5 4 b12=true)
  (hv:∀ q k,q<8→fzs (4+q) k vs0=vs0) (hG:∀ q,q<8→G (kd q)=K5 (D q))
  (h:AWp (⟨Try.prog,G,B⟩:A2) n0 c F H (lv N live fun e vs H=>e=ex∧wk vs0 vs∧H=U7 b0 b1 (A7 cs n (dW 4 cs)) pl (A1 D) b12)) :
  AWp (⟨Try.prog,G,B⟩:A2) n0 c F H (lv N live fun e vs H=>e=ex∧wk vs0 vs∧H=Hb b0 b1 (A7 cs n (dK kd cs)) pl b12):=by
 have key:∀ q,q≤8→AWp (⟨Try.prog,G,B⟩:A2) n0 c F H (lv N live fun e vs H=>e=ex∧wk vs0 vs∧H=Sn b0 b1 cs pl b12 D n kd q):=by
  intro q
  induction q with
  | zero=>intro _;exact h
  | succ q ih=>
   intro hq;refine AWp.frzL (4+q) (kd q) (ih (by omega)) ?_;rintro e vs H' ⟨rfl,w,rfl⟩;refine ⟨⟨⟨1,A0 (A1 D) q⟩,?_,rfl,fun j v hj=>?_⟩,rfl,?_,vD (by omega) h0 h1 hp h12⟩
   ·rw [aZ (by omega),Nat.add_comm 4 q];show some (if q=8 then some _ else if q<q then none else some _)=_;rw [if_neg (by omega),if_neg (by omega)]
   ·have hj:(G (kd q))[j]?=some v:=hj;rw [hG q (by omega)] at hj;refine ⟨v,?_,cG v (List.mem_of_getElem? hj),.rfl⟩;show (A0 (A1 D) q)[j]?=some v;rw [Z4 (by omega)];exact hj
   ·have:=Bz (m:=4+q) (k:=kd q) w
    rw [hv q _ (by omega)] at this;exact this
 have:=key 8 (Nat.le_refl _)
 rw [hpF_8 h8] at this;exact this
end Go.Am
namespace Go.Am
open Go.Proofs
set_option maxRecDepth 100000
theorem md_1 (G:Nat→List AV) (b0 b1 sc pl b12:List AV) (n m i:Nat) (by_ s:Int) (Q:Ex→List AV→Hp→Prop) (R:AV→Hp→Prop):vT G Q R (F8 (Df Try.prog [] [] [] [] 15) 300 20 15 (A4 Try.f36 0) 55 [1,2,4,5,16,17] [.int .i64 (.var 2 by_),.ptr (.rw 13) (.lit 0),.ptr (.rw 14) (.lit 0),.int .i64 (.lit 0),.int .i64 (.ofN (.var 3 n)),.int .i64 (.ofN (.var 8 i))] [some ⟨1,.var 31 b0⟩,some ⟨1,.var 32 b1⟩,some ⟨4,.var 21 sc⟩,some ⟨2,.var 7 pl⟩,none,none,none,none,none,none,none,none,some ⟨1,.var 33 b12⟩,some ⟨1,.of [.int .i64 (.var 14 s),.slice true (.rw 2) (.lit 0) (.var 3 n),.slice true (.rw 3) (.lit 0) (.var 4 m)]⟩,some ⟨1,.of [.int .i64 (.lit 0),.nils,.nils]⟩])=(
  (decide ((((i:Nat):Int):Int)<((n:Nat):Int))=true→decide ((0:Int)≤((i:Nat):Int))=true∧decide ((((i:Nat):Int):Int)<((n:Nat):Int))=true∧isI .i64 sc ((i)*4)=true∧decide ((0:Int)≤((i:Nat):Int))=true∧decide ((((i:Nat):Int):Int)<((n:Nat):Int))=true∧leB ((i)*4+1) (List.length sc)=true∧Q .normal [.int .i64 (by_),.ptr (.rw 13) (0),.ptr (.rw 14) (0),.int .i64 (0),.int .i64 (((n:Nat):Int)),.int .i64 (IntKind.wrap .i64 (((i:Nat):Int)+1))] [some ⟨1,b0⟩,some ⟨1,b1⟩,some ⟨4,(B5 sc ((i)*4) (.int .i64 (IntKind.wrap .i64 (A3 sc ((i)*4)+by_))))⟩,some ⟨2,pl⟩,none,none,none,none,none,none,none,none,some ⟨1,b12⟩,some ⟨1,([.int .i64 (s),.slice true (.rw 2) (0) (n),.slice true (.rw 3) (0) (m)]:List AV)⟩,some ⟨1,([.int .i64 (0),.nils,.nils]:List AV)⟩])∧(decide ((((i:Nat):Int):Int)<((n:Nat):Int))=false→Q (.exit 0) [.int .i64 (by_),.ptr (.rw 13) (0),.ptr (.rw 14) (0),.int .i64 (0),.int .i64 (((n:Nat):Int)),.int .i64 (((i:Nat):Int))] [some ⟨1,b0⟩,some ⟨1,b1⟩,some ⟨4,sc⟩,some ⟨2,pl⟩,none,none,none,none,none,none,none,none,some ⟨1,b12⟩,some ⟨1,([.int .i64 (s),.slice true (.rw 2) (0) (n),.slice true (.rw 3) (0) (m)]:List AV)⟩,some ⟨1,([.int .i64 (0),.nils,.nils]:List AV)⟩])):=by kernel_rfl
theorem md_2 (G:Nat→List AV) (b0 b1 sc pl b12:List AV) (n m i:Nat) (by_ s:Int) (Q:Ex→List AV→Hp→Prop) (R:AV→Hp→Prop):vT G Q R (F8 (Df Try.prog [] [] [] [] 15) 300 20 15 (A4 Try.f36 1) 55 [1,2,4,5,33,34] [.int .i64 (.var 2 by_),.ptr (.rw 13) (.lit 0),.ptr (.rw 14) (.lit 0),.int .i64 (.lit 0),.int .i64 (.ofN (.var 4 m)),.int .i64 (.ofN (.var 8 i))] [some ⟨1,.var 31 b0⟩,some ⟨1,.var 32 b1⟩,some ⟨4,.var 21 sc⟩,some ⟨2,.var 7 pl⟩,none,none,none,none,none,none,none,none,some ⟨1,.var 33 b12⟩,some ⟨1,.of [.int .i64 (.var 14 s),.slice true (.rw 2) (.lit 0) (.var 3 n),.slice true (.rw 3) (.lit 0) (.var 4 m)]⟩,some ⟨1,.of [.int .i64 (.lit 0),.nils,.nils]⟩])=(
  (decide ((((i:Nat):Int):Int)<((m:Nat):Int))=true→decide ((0:Int)≤((i:Nat):Int))=true∧decide ((((i:Nat):Int):Int)<((m:Nat):Int))=true∧isI .i64 pl ((i)*2)=true∧decide ((0:Int)≤((i:Nat):Int))=true∧decide ((((i:Nat):Int):Int)<((m:Nat):Int))=true∧leB ((i)*2+1) (List.length pl)=true∧Q .normal [.int .i64 (by_),.ptr (.rw 13) (0),.ptr (.rw 14) (0),.int .i64 (0),.int .i64 (((m:Nat):Int)),.int .i64 (IntKind.wrap .i64 (((i:Nat):Int)+1))] [some ⟨1,b0⟩,some ⟨1,b1⟩,some ⟨4,sc⟩,some ⟨2,(B5 pl ((i)*2) (.int .i64 (IntKind.wrap .i64 (A3 pl ((i)*2)+by_))))⟩,none,none,none,none,none,none,none,none,some ⟨1,b12⟩,some ⟨1,([.int .i64 (s),.slice true (.rw 2) (0) (n),.slice true (.rw 3) (0) (m)]:List AV)⟩,some ⟨1,([.int .i64 (0),.nils,.nils]:List AV)⟩])∧(decide ((((i:Nat):Int):Int)<((m:Nat):Int))=false→Q (.exit 2) [.int .i64 (by_),.ptr (.rw 13) (0),.ptr (.rw 14) (0),.int .i64 (0),.int .i64 (((m:Nat):Int)),.int .i64 (((i:Nat):Int))] [some ⟨1,b0⟩,some ⟨1,b1⟩,some ⟨4,sc⟩,some ⟨2,pl⟩,none,none,none,none,none,none,none,none,some ⟨1,b12⟩,some ⟨1,([.int .i64 (s),.slice true (.rw 2) (0) (n),.slice true (.rw 3) (0) (m)]:List AV)⟩,some ⟨1,([.int .i64 (0),.nils,.nils]:List AV)⟩])):=by kernel_rfl
theorem rd_1 (G:Nat→List AV) (b0 b1 sc pl b12:List AV) (n m i:Nat) (by_ s:Int) (Q:Ex→List AV→Hp→Prop) (R:AV→Hp→Prop):vT G Q R (F8 (Df Try.prog [] [] [] [] 13) 300 20 13 (A4 Try.f14 3) 150 [1,4,5,6,14] [.int .i64 (.var 2 by_),.ptr (.rw 1) (.lit 0),.int .i64 (.lit 0),.ptr (.rw 12) (.lit 0),.int .i64 (.ofN (.var 8 i))] [some ⟨1,.var 31 b0⟩,some ⟨1,.var 32 b1⟩,some ⟨4,.var 21 sc⟩,some ⟨2,.var 7 pl⟩,none,none,none,none,none,none,none,none,some ⟨1,.of [.int .i64 (.var 14 s),.slice true (.rw 2) (.lit 0) (.var 3 n),.slice true (.rw 3) (.lit 0) (.var 4 m)]⟩])=(
  (decide ((((i:Nat):Int):Int)<((n:Nat):Int))=true→decide ((0:Int)≤((i:Nat):Int))=true∧decide ((((i:Nat):Int):Int)<((n:Nat):Int))=true∧isI .i64 sc ((i)*4)=true∧decide ((0:Int)≤((i:Nat):Int))=true∧decide ((((i:Nat):Int):Int)<((n:Nat):Int))=true∧leB ((i)*4+1) (List.length sc)=true∧Q .normal [.int .i64 (by_),.ptr (.rw 1) (0),.int .i64 (0),.ptr (.rw 12) (0),.int .i64 (IntKind.wrap .i64 (((i:Nat):Int)+1))] [some ⟨1,b0⟩,some ⟨1,b1⟩,some ⟨4,(B5 sc ((i)*4) (.int .i64 (IntKind.wrap .i64 (A3 sc ((i)*4)+by_))))⟩,some ⟨2,pl⟩,none,none,none,none,none,none,none,none,some ⟨1,([.int .i64 (s),.slice true (.rw 2) (0) (n),.slice true (.rw 3) (0) (m)]:List AV)⟩])∧(decide ((((i:Nat):Int):Int)<((n:Nat):Int))=false→Q (.exit 6) [.int .i64 (by_),.ptr (.rw 1) (0),.int .i64 (0),.ptr (.rw 12) (0),.int .i64 (((i:Nat):Int))] [some ⟨1,b0⟩,some ⟨1,b1⟩,some ⟨4,sc⟩,some ⟨2,pl⟩,none,none,none,none,none,none,none,none,some ⟨1,([.int .i64 (s),.slice true (.rw 2) (0) (n),.slice true (.rw 3) (0) (m)]:List AV)⟩])):=by kernel_rfl
end Go.Am
