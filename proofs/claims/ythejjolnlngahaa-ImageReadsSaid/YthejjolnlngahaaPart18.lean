/-
  An image read into blocks of its own: both lists taken. An image read into blocks of its own: the tree of Read's rest, to wher
-/
import Derived.Test.YthejjolnlngahaaPart17
import Derived.Test.YthejjolnlngahaaBase5
import Derived.Test.YthejjolnlngahaaPart14
import Derived.TacticsInMore
import Derived.Test.YthejjolnlngahaaPart12
namespace Go.Am
open Go.Proofs
set_option maxRecDepth 100000
section
variable (G:Nat→List AV) (B:Nat)
theorem aJ6 (kp m p0 N:Nat) (b:Int) (s rest:List AV) (h:Vv (G kp) m) (hB:wL (G kp) m) (hs:s.drop p0=B6 (G kp) m++rest) (hl:s.length=N) (hN:N≤1000000) (h8:E4 s=true) (hp:p0≤N) :
  AWp (za G B) 2 (.loop (A5 Try.f66 0)) (fl 59 [0,2,6,7,8,9,10,11,12] [.ptr (.rw 0) 0,.func 67 [],.nils,.int .i64 0,.int .i64 b,.int .i64 (m:Int),.int .i64 0,.slice false (.rw 2) 0 0,.int .i64 ((0:Nat):Int)]) [some ⟨1,[.slice false (.rw 1) 0 N,.int .i64 ((p0+(B6 (G kp) 0).length:Nat):Int)]⟩,some ⟨1,s⟩,some ⟨2,I8 (xP (G kp)) (G kp) 0⟩]
   (lv 59 [0,2,6,7,8,9,10,11,12] fun e vs H=>e=.exit 0∧vs=[.ptr (.rw 0) 0,.func 67 [],.nils,.int .i64 0,.int .i64 b,.int .i64 (m:Int),.int .i64 0,.slice false (.rw 2) 0 m,.int .i64 (m:Int)]∧H=[some ⟨1,[.slice false (.rw 1) 0 N,.int .i64 ((p0+(B6 (G kp) m).length:Nat):Int)]⟩,some ⟨1,s⟩,some ⟨2,(I8 (xP (G kp)) (G kp) m)⟩]):=by
 have us:A6 0 s=true:=B7 (G9 h8);refine W8 m (fun k=>[.ptr (.rw 0) 0,.func 67 [],.nils,.int .i64 0,.int .i64 b,.int .i64 (m:Int),.int .i64 0,.slice false (.rw 2) 0 k,.int .i64 (k:Int)]) (fun k=>[some ⟨1,[.slice false (.rw 1) 0 N,.int .i64 ((p0+(B6 (G kp) k).length:Nat):Int)]⟩,some ⟨1,s⟩,some ⟨2,(I8 (xP (G kp)) (G kp) k)⟩]) fun k hk=>?_;by_cases hkn:k<m
 ·refine (yX G B kp m p0 N k b s rest h hB hs hl hN h8 hp hkn).lmono ?_;rintro e vs H' ⟨rfl,rfl,rfl⟩;refine ⟨hkn,.inr ?_⟩;rw [←aK7];refine C5.renM (H:=[some ⟨1,[.slice false (.rw 1) 0 N,.int .i64 ((p0+(B6 (G kp) (k+1)).length:Nat):Int)]⟩,some ⟨1,s⟩,some ⟨2,I8 (xP (G kp)) (G kp) (k+1)⟩]) (θ:=[0,1,6]) (by simp) Vd (by decide) ⟨⟨rfl,rfl⟩,⟨G2 (zA8 _) _ us,by rw [B4 _ _ us];rfl⟩,⟨Cw,by rw [B4 [0,1,6] _ Cw];rfl⟩,trivial⟩ rfl ?_;exact ⟨rfl,rfl,rfl,rfl,rfl,rfl,rfl,rfl,rfl,trivial⟩
 ·have ekn:m=k:=by omega
  subst ekn;refine (aZ0 G B m N (p0+(B6 (G kp) m).length) b s (I8 (xP (G kp)) (G kp) m)).lmono ?_;rintro e vs H ⟨rfl,rfl,rfl⟩;exact ⟨rfl,rfl,rfl⟩
theorem rW {G:Nat→List AV} {ks p0 N n:Nat} {s:List AV} (hs:A6 0 s=true) (h:Ed G (G ks) n):I1 11 (Py G ks p0 N s n)=true:=by
 have h8:=h.le8;refine eO fun i b hi=>?_
 match i with
 | 0=>obtain rfl:=Option.some.inj (Option.some.inj hi);rfl
 | 1=>obtain rfl:=Option.some.inj (Option.some.inj hi);exact G2 (zA8 _) _ hs
 | 2=>
  obtain rfl:=Option.some.inj (Option.some.inj hi)
  exact cY fun j hj=>by
   show decide (3+j<11)=true;exact yI (by omega)
 | j+3=>
  unfold Py at hi;rw [qP (by simp)] at hi
  have hj:j<8:=by
   have:=(zP.1 hi).1
   rw [P3] at this;simpa using this
  have hi:(N0 (K8 G (G ks) n))[j]?=some (some b):=hi;rw [Mc hj] at hi;obtain rfl:=Option.some.inj (Option.some.inj hi);show A6 11 (B1 (K8 G (G ks) n) j)=true;rw [Jr hj];split
  ·rename_i hjn;exact B7 (h.u8 hjn)
  ·rfl
theorem aV9 (ks n a N:Nat) (s rest:List AV) (h:Ed G (G ks) n) (hB:oY (G ks) n) (hs:s.drop a=fN (n:Int)++(B9 G (G ks) n++rest)) (hl:s.length=N) (hN:N≤1000000) (h8:E4 s=true) (hp:a≤N) :
  ACalls (za G B) 63 [.ptr (.rw 0) 0,.int .i64 8,.func 64 []] [some ⟨1,[.slice false (.rw 1) 0 N,.int .i64 (a:Int)]⟩,some ⟨1,s⟩] fun v H=>v=.tup [.slice true (.rw 2) 0 n,.int .i64 0]∧H=Py G ks (a+(fN (n:Int)).length) N s n:=by
 have us:∀ j,A6 j s=true:=fun j=>B7 (G9 h8);have h88:=h.le8
 have lw:N - a=(fN (n:Int)).length+((B9 G (G ks) n).length+rest.length):=by
  have:=congrArg List.length hs
  rw [List.length_drop,hl] at this;simp only [zA6] at this;exact this
 obtain ⟨r1e,r1v,r1a⟩:=Nj (x:=(n:Int)) (N5.2 (by omega)) hs
 have l0:F5 (za G B) 2 (A5 Try.f63 0) (D4 2561 (D9 [.ptr (.rw 0) 0,.func 64 [],.nils,.int .i64 0,.int .i64 (a:Int),.int .i64 (n:Int),.int .i64 0,.slice false (.rw 2) 0 0,.int .i64 0] [some ⟨1,[.slice false (.rw 1) 0 N,.int .i64 ((a+(fN (n:Int)).length:Nat):Int)]⟩,some ⟨1,s⟩,some ⟨4,[]⟩]) 0 59 [0,2,6,7,8,9,10,11,12] (.one (.exit 0) [.ptr (.rw 0) (.lit 0),.func 64 [],.nils,.int .i64 (.lit 0),.int .i64 (.var 8 (a:Int)),.int .i64 (.ofN (.var 2 n)),.int .i64 (.lit 0),.slice false (.rw 2) (.lit 0) (.var 2 n),.int .i64 (.ofN (.var 2 n))] (some ⟨1,.of [.slice false (.rw 1) (.lit 0) (.var 4 N),.int .i64 (.var 7 ((a+(fN (n:Int)).length+(B9 G (G ks) n).length:Nat):Int))]⟩ :: some ⟨1,.var 6 s⟩ :: some ⟨4,.var 23 (G7 (G ks) n (dW 3 (G ks)))⟩ :: U7 (.var 22 (K8 G (G ks) n)) []))):=by
  exact N7 rfl ((aY7 G B ks n (a+(fN (n:Int)).length) N (a:Int) s rest h hB (T2 hs) hl hN h8 (by omega)).lmono fun e vs H ⟨h1,h2,h3⟩=>⟨h1,.inl ⟨by rw [h2];exact Fh _,h3⟩⟩)
 have key:=C8 (C:=(za G B)) (f:=63) (fn:=Try.f63) (K:=Dc Try.prog [87,88] progR [D4 2561 (D9 [.ptr (.rw 0) 0,.func 64 [],.nils,.int .i64 0,.int .i64 (a:Int),.int .i64 (n:Int),.int .i64 0,.slice false (.rw 2) 0 0,.int .i64 0] [some ⟨1,[.slice false (.rw 1) 0 N,.int .i64 ((a+(fN (n:Int)).length:Nat):Int)]⟩,some ⟨1,s⟩,some ⟨4,[]⟩]) 0 59 [0,2,6,7,8,9,10,11,12] (.one (.exit 0) [.ptr (.rw 0) (.lit 0),.func 64 [],.nils,.int .i64 (.lit 0),.int .i64 (.var 8 (a:Int)),.int .i64 (.ofN (.var 2 n)),.int .i64 (.lit 0),.slice false (.rw 2) (.lit 0) (.var 2 n),.int .i64 (.ofN (.var 2 n))] (some ⟨1,.of [.slice false (.rw 1) (.lit 0) (.var 4 N),.int .i64 (.var 7 ((a+(fN (n:Int)).length+(B9 G (G ks) n).length:Nat):Int))]⟩ :: some ⟨1,.var 6 s⟩ :: some ⟨4,.var 23 (G7 (G ks) n (dW 3 (G ks)))⟩ :: U7 (.var 22 (K8 G (G ks) n)) []))] 2) (R:=fun v H=>v=.tup [.slice false (.rw 2) 0 n,.int .i64 0]∧H=Py G ks (a+(fN (n:Int)).length) N s n) (C7 (mix G B) (by kernel_rfl) (L8 G B) (.cast (.cons (i:=0) (by kernel_rfl) rfl l0 .nil) (by kernel_rfl))) (by kernel_rfl) (by kernel_rfl) (by kernel_rfl) (fuel:=300) (n0:=20) (keep:=11) (args:=[.ptr (.rw 0) (.lit 0),.int .i64 (.lit 8),.func 64 []]) (H:=[some ⟨1,.of [.slice false (.rw 1) (.lit 0) (.var 4 N),.int .i64 (.var 5 (a:Int))]⟩,some ⟨1,.var 6 s⟩]) (by
  rw [t63w];simp only [r1e,r1v,r1a];rw [B5 (n:=(n:Int)) (by omega)]
  exact ⟨mB h8 hl hN hp,fun _=>⟨fun hh=>absurd (zR hh) (by omega),fun _=>⟨rfl,D2,trivial,rfl⟩⟩,fun hh=>absurd hh (by decide)⟩)
 have k2:=ACalls.keep (H:=[some ⟨1,[.slice false (.rw 1) 0 N,.int .i64 (a:Int)]⟩,some ⟨1,s⟩]) (H1:=Py G ks (a+(fN (n:Int)).length) N s n) key (by rw [Xc];simp) (by rw [Xc];exact rW (us 0) h) (by rw [Xc];rfl) (by simp);exact k2.conv fun v H ⟨e1,e2⟩=>⟨_,⟨rfl,e2⟩,fun ρ cv hv=>by rw [e1] at hv;exact Wa (cv:=.undef) hv⟩
theorem aW0 (kp m a N:Nat) (s rest:List AV) (h:Vv (G kp) m) (hB:wL (G kp) m) (hs:s.drop a=fN (m:Int)++(B6 (G kp) m++rest)) (hl:s.length=N) (hN:N≤1000000) (h8:E4 s=true) (hp:a≤N) :
  ACalls (za G B) 66 [.ptr (.rw 0) 0,.int .i64 512,.func 67 []] [some ⟨1,[.slice false (.rw 1) 0 N,.int .i64 (a:Int)]⟩,some ⟨1,s⟩] fun v H=>v=.tup [.slice true (.rw 2) 0 m,.int .i64 0]∧H=[some ⟨1,[.slice false (.rw 1) 0 N,.int .i64 ((a+(fN (m:Int)).length+(B6 (G kp) m).length:Nat):Int)]⟩,some ⟨1,s⟩,some ⟨2,(I8 (xP (G kp)) (G kp) m)⟩]:=by
 have us:∀ j,A6 j s=true:=fun j=>B7 (G9 h8);have h88:=h.le
 have lw:N - a=(fN (m:Int)).length+((B6 (G kp) m).length+rest.length):=by
  have:=congrArg List.length hs
  rw [List.length_drop,hl] at this;simp only [zA6] at this;exact this
 obtain ⟨r1e,r1v,r1a⟩:=Nj (x:=(m:Int)) (N5.2 (by omega)) hs
 have l0:F5 (za G B) 2 (A5 Try.f66 0) (D4 2561 (D9 [.ptr (.rw 0) 0,.func 67 [],.nils,.int .i64 0,.int .i64 (a:Int),.int .i64 (m:Int),.int .i64 0,.slice false (.rw 2) 0 0,.int .i64 0] [some ⟨1,[.slice false (.rw 1) 0 N,.int .i64 ((a+(fN (m:Int)).length:Nat):Int)]⟩,some ⟨1,s⟩,some ⟨2,[]⟩]) 0 59 [0,2,6,7,8,9,10,11,12] (.one (.exit 0) [.ptr (.rw 0) (.lit 0),.func 67 [],.nils,.int .i64 (.lit 0),.int .i64 (.var 8 (a:Int)),.int .i64 (.ofN (.var 2 m)),.int .i64 (.lit 0),.slice false (.rw 2) (.lit 0) (.var 2 m),.int .i64 (.ofN (.var 2 m))] [some ⟨1,.of [.slice false (.rw 1) (.lit 0) (.var 4 N),.int .i64 (.var 7 ((a+(fN (m:Int)).length+(B6 (G kp) m).length:Nat):Int))]⟩,some ⟨1,.var 6 s⟩,some ⟨2,.var 23 (I8 (xP (G kp)) (G kp) m)⟩])):=by
  exact N7 rfl ((aJ6 G B kp m (a+(fN (m:Int)).length) N (a:Int) s rest h hB (T2 hs) hl hN h8 (by omega)).lmono fun e vs H ⟨h1,h2,h3⟩=>⟨h1,.inl ⟨by rw [h2];exact Fh _,h3⟩⟩)
 have key:=C8 (C:=(za G B)) (f:=66) (fn:=Try.f66) (K:=Dc Try.prog [87,88] progR [D4 2561 (D9 [.ptr (.rw 0) 0,.func 67 [],.nils,.int .i64 0,.int .i64 (a:Int),.int .i64 (m:Int),.int .i64 0,.slice false (.rw 2) 0 0,.int .i64 0] [some ⟨1,[.slice false (.rw 1) 0 N,.int .i64 ((a+(fN (m:Int)).length:Nat):Int)]⟩,some ⟨1,s⟩,some ⟨2,[]⟩]) 0 59 [0,2,6,7,8,9,10,11,12] (.one (.exit 0) [.ptr (.rw 0) (.lit 0),.func 67 [],.nils,.int .i64 (.lit 0),.int .i64 (.var 8 (a:Int)),.int .i64 (.ofN (.var 2 m)),.int .i64 (.lit 0),.slice false (.rw 2) (.lit 0) (.var 2 m),.int .i64 (.ofN (.var 2 m))] [some ⟨1,.of [.slice false (.rw 1) (.lit 0) (.var 4 N),.int .i64 (.var 7 ((a+(fN (m:Int)).length+(B6 (G kp) m).length:Nat):Int))]⟩,some ⟨1,.var 6 s⟩,some ⟨2,.var 23 (I8 (xP (G kp)) (G kp) m)⟩])] 2) (R:=fun v H=>v=.tup [.slice false (.rw 2) 0 m,.int .i64 0]∧H=[some ⟨1,[.slice false (.rw 1) 0 N,.int .i64 ((a+(fN (m:Int)).length+(B6 (G kp) m).length:Nat):Int)]⟩,some ⟨1,s⟩,some ⟨2,(I8 (xP (G kp)) (G kp) m)⟩]) (C7 (mix G B) (by kernel_rfl) (L8 G B) (.cast (.cons (i:=0) (by kernel_rfl) rfl l0 .nil) (by kernel_rfl))) (by kernel_rfl) (by kernel_rfl) (by kernel_rfl) (fuel:=300) (n0:=20) (keep:=3) (args:=[.ptr (.rw 0) (.lit 0),.int .i64 (.lit 512),.func 67 []]) (H:=[some ⟨1,.of [.slice false (.rw 1) (.lit 0) (.var 4 N),.int .i64 (.var 5 (a:Int))]⟩,some ⟨1,.var 6 s⟩]) (by
  rw [t66w];simp only [r1e,r1v,r1a];rw [B5 (n:=(m:Int)) (by omega)]
  exact ⟨mB h8 hl hN hp,fun _=>⟨fun hh=>absurd (zR hh) (by omega),fun _=>⟨rfl,D2,trivial,trivial⟩⟩,fun hh=>absurd hh (by decide)⟩)
 have k2:=ACalls.keep (H:=[some ⟨1,[.slice false (.rw 1) 0 N,.int .i64 (a:Int)]⟩,some ⟨1,s⟩]) (H1:=[some ⟨1,[.slice false (.rw 1) 0 N,.int .i64 ((a+(fN (m:Int)).length+(B6 (G kp) m).length:Nat):Int)]⟩,some ⟨1,s⟩,some ⟨2,(I8 (xP (G kp)) (G kp) m)⟩]) key (by simp) (by simp [I1,A6,B0,us,Cw]) (by simp [B0,A6]) (by simp);exact k2.conv fun v H ⟨e1,e2⟩=>⟨_,⟨rfl,e2⟩,fun ρ cv hv=>by rw [e1] at hv;exact Wa (cv:=.undef) hv⟩
end
open IntKind renaming wrap → wS
open List renaming length → wW
open Int renaming toNat → wZ
def Tc (j:Nat) (q:List AV→Bool) (h0:Nat) (x:EV) (a2:EI) (news:List DBlk):DSum:=fun xs H=>match xs with
 | .ptr (.rw i) (.lit 0)::rest=>match H[i]? with
  | some (some ⟨1,.of [.slice false (.rw m) (.lit 0) n,.int .i64 a]⟩)=>match H[m]? with
   | some (some ⟨1,l⟩)=>match Nat.beq i m with
    | true=>none
    | false=>match Nat.beq H.length h0 with
     | true=>some (.chk (.uf j q [.agg l,.ptr (.rw 0) n,.int .i64 a,.agg (.of rest)]) (.one x (.set i ⟨1,.of [.slice false (.rw m) (.lit 0) n,.int .i64 a2]⟩::news.map .new)))
     | false=>none
   | _=>none
  | _=>none
 | _=>none
theorem t29o (G:Nat→List AV) (q1 q2 q3:List AV→Bool) (kb n m L:Nat) (x1 x2:Int) (f sc dl pl:List AV) (Q:Ex→List AV→Hp→Prop) (R:AV→Hp→Prop):vT G Q R (H4 (Dc Try.prog [59,42,60,61,85,62,65,69,68,70,87,92] ([(63,Tc 2562 q1 7 (.tup [.slice true (.rw 7) (.lit 0) (.var 3 n),.int .i64 (.lit 0)]) (.var 11 x1) (⟨4,.var 21 sc⟩ :: rB8 (.var 22 dl) [])),(66,Tc 2563 q2 16 (.tup [.slice true (.rw 16) (.lit 0) (.var 4 m),.int .i64 (.lit 0)]) (.var 12 x2) [⟨2,.var 7 pl⟩]),(28,Bl 2564 q3 (.one (.tup [.slice false (.rw 17) (.lit 0) (.len (.var 23 f)),.int .i64 (.lit 0)]) [.new ⟨1,.var 23 f⟩]))]++progR) [] 1) 400 30 1 (O4 (O4 (C3 Try.f29))) 55 [0,2,3] [.slice true (.ro (.var 26 kb)) (.lit 0) (.var 5 L),.ptr (.rw 1) (.lit 0),.ptr (.rw 2) (.lit 0)] [none,some ⟨1,.of [.int .i64 (.lit 0),.nils,.nils]⟩,some ⟨1,.of [.int .i64 (.lit 0)]⟩])=(
  decide ((0:Int)≤(if 0>wS .i64 ((L:Int) - 4) then 0 else wS .i64 ((L:Int) - 4)))=true∧decide (((if 0>wS .i64 ((L:Int) - 4) then 0 else wS .i64 ((L:Int) - 4)):Int)≤(L:Int))=true∧(decide ((((wZ ((if 0>wS .i64 ((L:Int) - 4) then 0 else wS .i64 ((L:Int) - 4))):Nat):Int):Int)≥4)=true→decide ((4:Int)≤((wZ ((if 0>wS .i64 ((L:Int) - 4) then 0 else wS .i64 ((L:Int) - 4))):Nat):Int))=true∧leB 4 (wW (G kb))=true∧u8s (A0 (G kb) 0 4)=true∧u8s ([.int .u8 83,.int .u8 84,.int .u8 68,.int .u8 1]:List AV)=true∧((((F8 (A0 (G kb) 0 4)):List UInt8)==(F8 ([.int .u8 83,.int .u8 84,.int .u8 68,.int .u8 1]:List AV)))=true→decide ((4:Int)≤(if 0>wS .i64 ((L:Int) - 4) then 0 else wS .i64 ((L:Int) - 4)))=true∧decide (((if 0>wS .i64 ((L:Int) - 4) then 0 else wS .i64 ((L:Int) - 4)):Int)≤(L:Int))=true∧decide ((0:Int)≤wS .i64 ((((wZ ((if 0>wS .i64 ((L:Int) - 4) then 0 else wS .i64 ((L:Int) - 4)))) - 4:Nat):Int)+1))=true∧decide ((Vq 1 [.int .i64 (wS .i64 ((((wZ ((if 0>wS .i64 ((L:Int) - 4) then 0 else wS .i64 ((L:Int) - 4)))) - 4:Nat):Int)+1))]:Int)≤140737488355328)=true∧decide ((wS .i64 ((((wZ ((if 0>wS .i64 ((L:Int) - 4) then 0 else wS .i64 ((L:Int) - 4)))) - 4:Nat):Int)+1):Int)≤140737488355328)=true∧leB (4+((wZ ((if 0>wS .i64 ((L:Int) - 4) then 0 else wS .i64 ((L:Int) - 4)))) - 4)) (wW (G kb))=true∧
 cellsB (A0 (G kb) 4 ((wZ ((if 0>wS .i64 ((L:Int) - 4) then 0 else wS .i64 ((L:Int) - 4)))) - 4))=true∧leB ((wZ ((if 0>wS .i64 ((L:Int) - 4) then 0 else wS .i64 ((L:Int) - 4)))) - 4) 140737488355328=true∧okRdU [.agg (A0 (G kb) 4 ((wZ ((if 0>wS .i64 ((L:Int) - 4) then 0 else wS .i64 ((L:Int) - 4)))) - 4)),.ptr (.rw 0) ((wZ ((if 0>wS .i64 ((L:Int) - 4) then 0 else wS .i64 ((L:Int) - 4)))) - 4),.int .i64 0]=true∧(((C0 [.agg (A0 (G kb) 4 ((wZ ((if 0>wS .i64 ((L:Int) - 4) then 0 else wS .i64 ((L:Int) - 4)))) - 4)),.int .i64 0]:Int)==0)=true→(decide ((A7 [.agg (A0 (G kb) 4 ((wZ ((if 0>wS .i64 ((L:Int) - 4) then 0 else wS .i64 ((L:Int) - 4)))) - 4)),.int .i64 0]:Int)>131072)=true→False)∧(decide ((A7 [.agg (A0 (G kb) 4 ((wZ ((if 0>wS .i64 ((L:Int) - 4) then 0 else wS .i64 ((L:Int) - 4)))) - 4)),.int .i64 0]:Int)>131072)=false→q1 [.agg (A0 (G kb) 4 ((wZ ((if 0>wS .i64 ((L:Int) - 4) then 0 else wS .i64 ((L:Int) - 4)))) - 4)),.ptr (.rw 0) ((wZ ((if 0>wS .i64 ((L:Int) - 4) then 0 else wS .i64 ((L:Int) - 4)))) - 4),.int .i64 (A3 [.agg (A0 (G kb) 4 ((wZ ((if 0>wS .i64 ((L:Int) - 4) then 0 else wS .i64 ((L:Int) - 4)))) - 4)),.int .i64 0]),.agg ([.int .i64 8,.func 64 []]:List AV)]=true∧
 q2 [.agg (A0 (G kb) 4 ((wZ ((if 0>wS .i64 ((L:Int) - 4) then 0 else wS .i64 ((L:Int) - 4)))) - 4)),.ptr (.rw 0) ((wZ ((if 0>wS .i64 ((L:Int) - 4) then 0 else wS .i64 ((L:Int) - 4)))) - 4),.int .i64 x1,.agg ([.int .i64 512,.func 67 []]:List AV)]=true∧(decide ((wS .i64 ((((wZ ((if 0>wS .i64 ((L:Int) - 4) then 0 else wS .i64 ((L:Int) - 4)))) - 4:Nat):Int) - x2):Int)>0)=true→False)∧(decide ((wS .i64 ((((wZ ((if 0>wS .i64 ((L:Int) - 4) then 0 else wS .i64 ((L:Int) - 4)))) - 4:Nat):Int) - x2):Int)>0)=false→
 q3 [.agg ([.agg ([.int .i64 (wS .i64 (A7 [.agg (A0 (G kb) 4 ((wZ ((if 0>wS .i64 ((L:Int) - 4) then 0 else wS .i64 ((L:Int) - 4)))) - 4)),.int .i64 0])),.slice true (.rw 7) 0 n,.slice true (.rw 16) 0 m]:List AV)]:List AV),.agg ((.undef :: .tup [.int .i64 1,.agg ([.int .i64 (wS .i64 (A7 [.agg (A0 (G kb) 4 ((wZ ((if 0>wS .i64 ((L:Int) - 4) then 0 else wS .i64 ((L:Int) - 4)))) - 4)),.int .i64 0])),.slice true (.rw 7) 0 n,.slice true (.rw 16) 0 m]:List AV)] :: .tup [.int .i64 1,.agg ([.int .i64 0]:List AV)] :: .tup [.int .i64 1,.agg ([.int .u8 83,.int .u8 84,.int .u8 68,.int .u8 1]:List AV)] :: .undef :: .tup [.int .i64 1,.agg (A0 (G kb) 4 ((wZ ((if 0>wS .i64 ((L:Int) - 4) then 0 else wS .i64 ((L:Int) - 4)))) - 4))] :: .tup [.int .i64 1,.agg ([.slice false (.rw 5) 0 ((wZ ((if 0>wS .i64 ((L:Int) - 4) then 0 else wS .i64 ((L:Int) - 4)))) - 4),.int .i64 x2]:List AV)] :: .tup [.int .i64 4,.agg sc] :: Sn dl [.tup [.int .i64 2,.agg pl]]):List AV)]=true∧leB (wW f) (wW f)=true∧u8s (A0 f 0 (wW f))=true∧leB L (wW (G kb))=true∧u8s (A0 (G kb) 0 L)=true∧((((F8 (A0 f 0 (wW f))):List UInt8)==(F8 (A0 (G kb) 0 L)))=true→
 Q .ret [.slice true (.ro kb) 0 L,.ptr (.rw 1) 0,.ptr (.rw 2) 0] [none,some ⟨1,([.int .i64 (wS .i64 (A7 [.agg (A0 (G kb) 4 ((wZ ((if 0>wS .i64 ((L:Int) - 4) then 0 else wS .i64 ((L:Int) - 4)))) - 4)),.int .i64 0])),.slice true (.rw 7) 0 n,.slice true (.rw 16) 0 m]:List AV)⟩,some ⟨1,([.int .i64 0]:List AV)⟩,some ⟨1,([.int .u8 83,.int .u8 84,.int .u8 68,.int .u8 1]:List AV)⟩,none,some ⟨1,(A0 (G kb) 4 ((wZ ((if 0>wS .i64 ((L:Int) - 4) then 0 else wS .i64 ((L:Int) - 4)))) - 4))⟩,some ⟨1,([.slice false (.rw 5) 0 ((wZ ((if 0>wS .i64 ((L:Int) - 4) then 0 else wS .i64 ((L:Int) - 4)))) - 4),.int .i64 x2]:List AV)⟩,some ⟨4,sc⟩,some ⟨1,(B1 dl 0)⟩,some ⟨1,(B1 dl 1)⟩,some ⟨1,(B1 dl 2)⟩,some ⟨1,(B1 dl 3)⟩,some ⟨1,(B1 dl 4)⟩,some ⟨1,(B1 dl 5)⟩,some ⟨1,(B1 dl 6)⟩,some ⟨1,(B1 dl 7)⟩,some ⟨2,pl⟩,some ⟨1,f⟩])∧((((F8 (A0 f 0 (wW f))):List UInt8)==(F8 (A0 (G kb) 0 L)))=false→False))))∧(((C0 [.agg (A0 (G kb) 4 ((wZ ((if 0>wS .i64 ((L:Int) - 4) then 0 else wS .i64 ((L:Int) - 4)))) - 4)),.int .i64 0]:Int)==0)=false→False))∧((((F8 (A0 (G kb) 0 4)):List UInt8)==(F8 ([.int .u8 83,.int .u8 84,.int .u8 68,.int .u8 1]:List AV)))=false→False))∧(decide ((((wZ ((if 0>wS .i64 ((L:Int) - 4) then 0 else wS .i64 ((L:Int) - 4))):Nat):Int):Int)≥4)=false→False)):=by kernel_rfl
theorem iY:∀ (l:List Blk) (H:Hp),acts H (l.map Hop.new)=H++l.map some
 | [],H=>by simp [acts]
 | b::l,H=>by
  show acts (H++[some b]) (l.map Hop.new)=_;rw [iY l,List.append_assoc];rfl
theorem aF4 {C:A1} {f:FuncId} {H:DHp} {i m:Nat} {n:EN} {a a':EI} {l:EL} {rest:List EV} {x:EV} {news:List DBlk} {v0:AV} {H1:Hp} (him:i≠m) (hi:H[i]?=some (some ⟨1,.of [.slice false (.rw m) (.lit 0) n,.int .i64 a]⟩)) (hm:H[m]?=some (some ⟨1,l⟩))
  (hf:∀ j,A6 j (vL C.G l)=true) (hr:A6 0 (vVs C.G rest)=true)
  (key:ACalls C f (.ptr (.rw 0) 0::vVs C.G rest) [some ⟨1,[.slice false (.rw 1) 0 (vN C.G n),.int .i64 (vI C.G a)]⟩,some ⟨1,vL C.G l⟩] fun v' H'=>v'=v0∧H'=[some ⟨1,[.slice false (.rw 1) 0 (vN C.G n),.int .i64 (vI C.G a')]⟩,some ⟨1,vL C.G l⟩]++H1)
  (b1:I1 (H1.length+2) H1=true) (b2:B0 (H1.length+2) v0=true) (e1:vV C.G x=C2 (J5 [i,m] H.length H1.length) v0) (e2:(news.map fun b=>some (C6 C.G b))=H1.map (P9 (J5 [i,m] H.length H1.length))) :
  E1 C f (.ptr (.rw i) (.lit 0)::rest) H x (.set i ⟨1,.of [.slice false (.rw m) (.lit 0) n,.int .i64 a']⟩::news.map .new):=by
 have ln:∀ (A:Option Blk) (B:Option Blk),(List.length ([A,B]++H1))=H1.length+2:=fun A B=>by simp
 refine E1.fr (θ:=[i,m]) (by simp [him]) rfl (fun k b hk=>?_) (by simp only [A6,B0,zO];exact ⟨by simp,G2 (zA8 _) _ hr⟩) (by simp only [vVs,vV,vR,vN,rens,C2,B4 _ _ hr];rfl) key (by rw [ln];simp) (by rw [ln];exact b2) (by rw [ln];simp [I1,hf,A6,B0,b1]) (by rw [ln];exact e1) ?_
 ·match k with
  | 0=>simp at hk;subst hk;exact ⟨_,rfl,by simp [A6,B0],by simpa [I7,C6,vL,vVs,vV,vR,vN,rens,C2] using G4 (G:=C.G) hi⟩
  | 1=>simp at hk;subst hk;exact ⟨_,rfl,hf _,by simpa [I7,C6,B4 _ _ (hf 0)] using G4 (G:=C.G) hm⟩
  | k+2=>simp at hk
 ·have hs:=Cp (G:=C.G) hm;simp only [C6] at hs;have hl:(B8 C.G H).length=H.length:=E2 H
  have a0:acts (B8 C.G H) (List.map (I6 C.G) (.set i ⟨1,.of [.slice false (.rw m) (.lit 0) n,.int .i64 a']⟩::news.map .new))=(B8 C.G H).set i (some (C6 C.G ⟨1,.of [.slice false (.rw m) (.lit 0) n,.int .i64 a']⟩))++news.map fun b=>some (C6 C.G b):=by
   have:List.map (I6 C.G) (news.map .new)=(news.map (C6 C.G)).map Hop.new:=by rw [List.map_map,List.map_map];rfl
   show acts ((B8 C.G H).set i (some (C6 C.G ⟨1,.of [.slice false (.rw m) (.lit 0) n,.int .i64 a']⟩))) (List.map (I6 C.G) (news.map .new))=_;rw [this,iY,List.map_map];rfl
  rw [a0,e2];unfold T6;rw [ln,hl];show _=lay (J5 [i,m] H.length (H1.length+2 - 2)) [i,m] ([some ⟨1,[.slice false (.rw 1) 0 (vN C.G n),.int .i64 (vI C.G a')]⟩,some ⟨1,vL C.G l⟩]++H1) (B8 C.G H)++H1.map (P9 (J5 [i,m] H.length (H1.length+2 - 2)));rw [Nat.add_sub_cancel];congr 1;simp only [lay,List.cons_append,P9,I7,Option.map_some,B4 _ _ (hf 0),C6,vL,vVs,vV,vR,vN,vI];rw [List.set_comm _ _ him,hs];simp [rens,C2,J5]
theorem qJ {C:A1} {f j h0:Nat} {q:List AV→Bool} {x:EV} {a2:EI} {s:List AV} {N:Nat} {a:Int} {rest0:List AV} {news:List DBlk} {v0:AV} {H1:Hp} (hq:q=Be s N a rest0) (h8:E4 s=true) (hr:A6 0 rest0=true)
  (key:ACalls C f (.ptr (.rw 0) 0::rest0) [some ⟨1,[.slice false (.rw 1) 0 N,.int .i64 a]⟩,some ⟨1,s⟩] fun v' H'=>v'=v0∧H'=[some ⟨1,[.slice false (.rw 1) 0 N,.int .i64 (vI C.G a2)]⟩,some ⟨1,s⟩]++H1)
  (b1:I1 (H1.length+2) H1=true) (b2:B0 (H1.length+2) v0=true) (e1:∀ i m,vV C.G x=C2 (J5 [i,m] h0 H1.length) v0) (e2:∀ i m,(news.map fun b=>some (C6 C.G b))=H1.map (P9 (J5 [i,m] h0 H1.length))):DSumOk C f (Tc j q h0 x a2 news):=by
 intro xs H o ho;simp only [Tc] at ho;split at ho
 ·rename_i i rest;split at ho
  ·rename_i m n a' hi;split at ho
   ·rename_i l hm;split at ho
    ·simp at ho
    ·rename_i him;have him:i≠m:=fun h=>by rw [h,zA9] at him;simp at him
     split at ho
     ·rename_i hh;have hh:=rG hh;simp only [zN] at ho;subst ho;intro h1;simp only [vB,vVs,vV,vR,vN,vL,hq,Be,qC,List.cons.injEq,AV.agg.injEq,AV.ptr.injEq,AV.int.injEq,true_and,and_true] at h1;obtain ⟨q1,q2,q3,q4⟩:=h1;refine aF4 (C:=C) (rest:=rest) (v0:=v0) (H1:=H1) him hi hm (fun j=>by rw [q1];exact B7 (G9 h8)) (by rw [q4];exact hr) ?_ b1 b2 (by rw [hh];exact e1 i m) (by rw [hh];exact e2 i m);rw [q1,q2,q3,q4];exact key
     ·simp at ho
   ·simp at ho
  ·simp at ho
 ·simp at ho
theorem cR {i m h k j:Nat} (hj:j<k):(J5 [i,m] h k).getD (2+j) 0=h+j:=by
 unfold J5;rw [Nat.add_comm 2 j];show ((List.range k).map (h+·)).getD j 0=h+j;exact Fk (g:=(h+·)) hj
structure Qi (G:Nat→List AV) (ks kp kd0 n:Nat):Prop where
 ne:ks≠kp
 nd:∀ j,j<n→kd0+j≠ks∧kd0+j≠kp
 kd:∀ j,j<n→G0 (G ks) (j*4+2)=kd0+j
 fl:∀ k,k≠ks→∀ v∈G k,E8 v=true∧∀ σ:Sig,(∀ q,q≠ks→q≠kp→(∀ j,j<n→q≠kd0+j)→σ q=(.ro q,0))→sb σ 0 v=v
def Xy (ks kp kd0 n a p b:Nat):Sig:=fun k=>if k=ks then (.rw a,0) else if k=kp then (.rw p,0) else if kd0≤k∧k<kd0+n then (.rw (b+(k - kd0)),0) else (.ro k,0)
section
variable {G:Nat→List AV} {ks kp kd0 n m:Nat}
theorem Qi.s (O:Qi G ks kp kd0 n) {a p b:Nat}:Xy ks kp kd0 n a p b ks=(.rw a,0)∧Xy ks kp kd0 n a p b kp=(.rw p,0)∧(∀ j,j<n→Xy ks kp kd0 n a p b (kd0+j)=(.rw (b+j),0))∧∀ q,q≠ks→q≠kp→(∀ j,j<n→q≠kd0+j)→Xy ks kp kd0 n a p b q=(.ro q,0):=by
 refine ⟨if_pos rfl,?_,fun j hj=>?_,fun q h1 h2 h3=>?_⟩
 ·unfold Xy;rw [if_neg fun h=>O.ne h.symm,if_pos rfl]
 ·unfold Xy;rw [if_neg (O.nd j hj).1,if_neg (O.nd j hj).2,if_pos (by omega),Nat.add_sub_cancel_left]
 ·unfold Xy;rw [if_neg h1,if_neg h2,if_neg fun h=>h3 (q - kd0) (by omega) (by omega)]
theorem Qi.sees {B:Nat} (O:Qi G ks kp kd0 n) (hb:Ad G ks kp n m) (hw:Z4 G ks kp n m) (h8:n≤8) {H:Hp} {a p b:Nat} (hS:H[a]?=some (some ⟨4,G7 (G ks) n (dW b (G ks))⟩)) (hP:H[p]?=some (some ⟨2,(I8 (xP (G kp)) (G kp) m)⟩)) (hD:∀ j,j<n→H[b+j]?=some (some ⟨1,F7 G (G ks) j⟩)) :
  Sees ⟨Try.prog,G,B⟩ H (Xy ks kp kd0 n a p b) G:=by
 obtain ⟨s1,s2,s3,s4⟩:=O.s (a:=a) (p:=p) (b:=b);intro k;refine .inr ?_;by_cases e:k=ks
 ·subst e;rw [s1];refine ⟨G7 (G k) n (dW b (G k)),by simp only [E5,hS];rfl,fun j v hv=>?_⟩;rw [hw.sec] at hv
  have hj:j<n*4:=by
   have:=(zP.1 hv).1
   rwa [Wh] at this
  obtain ⟨d1,d2,d3⟩:=bY hj;have e1:(G7 (G k) n (dR (G k)))[j / 4*4+j % 4]?=some (V0 (G k) (dR (G k)) (j / 4) (j % 4)):=P0 (f:=V0 (G k) (dR (G k))) d1 d2;have e2:(G7 (G k) n (dW b (G k)))[j / 4*4+j % 4]?=some (V0 (G k) (dW b (G k)) (j / 4) (j % 4)):=P0 (f:=V0 (G k) (dW b (G k))) d1 d2;rw [←d3] at e1 e2;rw [e1] at hv;obtain rfl:=Option.some.inj hv;rw [Nat.zero_add,e2];generalize j / 4=i at *;generalize j % 4=c at *
  match c,d2 with
  | 0,_=>exact ⟨rfl,by simp [V0,sb]⟩
  | 1,_=>exact ⟨rfl,by simp [V0,sb]⟩
  | 2,_=>
   refine ⟨rfl,?_⟩;show some (dW b (G k) i)=some (sb _ 0 (dR (G k) i));unfold dR dW;rw [O.kd i d1,hw.off i d1];simp only [sb,s3 i d1,Nat.zero_add]
  | 3,_=>exact ⟨rfl,by simp [V0,sb]⟩
 ·have fl:=O.fl k e
  have fin:∀ {cs:List AV},(cs=G k)→∀ (j:Nat) v,(G k)[j]?=some v→E8 v=true∧cs[0+j]?=some (sb (Xy ks kp kd0 n a p b) 0 v):=fun hc j v hv=>by
   obtain ⟨f1,f2⟩:=fl v (zA1 hv);rw [f2 _ s4,hc,Nat.zero_add];exact ⟨f1,hv⟩
  by_cases e2:k=kp
  ·rw [e2] at fin ⊢;rw [s2];exact ⟨(I8 (xP (G kp)) (G kp) m).map id,by simp only [E5,hP,List.map_id];rfl,fin (by rw [List.map_id];exact hw.pls.symm)⟩
  ·by_cases e3:∃ j,j<n∧k=kd0+j
   ·obtain ⟨j,hj,rfl⟩:=e3;rw [s3 j hj];refine ⟨F7 G (G ks) j,by simp only [E5,hD j hj];rfl,fin ?_⟩;rw [←hw.dat j hj,O.kd j hj]
   ·rw [s4 k e e2 fun j hj h=>e3 ⟨j,hj,h⟩];exact ⟨G k,rfl,fin rfl⟩
end
theorem own_63 (G:Nat→List AV) (B:Nat) (ks n N a:Nat) (s rest:List AV) (h:Ed G (G ks) n) (hB:oY (G ks) n) (hs:s.drop a=fN (n:Int)++(B9 G (G ks) n++rest)) (hl:s.length=N) (hN:N≤1000000) (h8:E4 s=true) (hp:a≤N) :
  DSumOk (za G B) 63 (Tc 2562 (Be s N (a:Int) [.int .i64 8,.func 64 []]) 7 (.tup [.slice true (.rw 7) (.lit 0) (.var 3 n),.int .i64 (.lit 0)]) (.var 11 ((a+(fN (n:Int)).length+(B9 G (G ks) n).length:Nat):Int)) (⟨4,.var 21 (G7 (G ks) n (dW 8 (G ks)))⟩ :: rB8 (.var 22 (K8 G (G ks) n)) [])):=by
 have h88:=h.le8;have key:=aV9 G B ks n a N s rest h hB hs hl hN h8 hp;have w0:∀ i m,(J5 [i,m] 7 9).getD 2 0=7:=fun i m=>cR (j:=0) (by omega);refine qJ (C:=(za G B)) (H1:=[some ⟨4,G7 (G ks) n (dW 3 (G ks))⟩]++N0 (K8 G (G ks) n)) (v0:=.tup [.slice true (.rw 2) 0 n,.int .i64 0]) rfl h8 rfl key ?_ (by simp [P3,B0,A6]) (fun i m=>?_) (fun i m=>?_)
 ·have:=rW (p0:=a+(fN (n:Int)).length) (N:=N) (B7 (k:=0) (G9 h8)) h
  have e:∀ {A B:Option Blk} {H:Hp} {k:Nat},I1 k (A::B::H)=true→I1 k H=true:=fun {A B H k} h=>by
   cases A<;>cases B<;>simp_all [I1]
  have:=e this
  simpa [P3] using this
 ·have l9:([some ⟨4,G7 (G ks) n (dW 3 (G ks))⟩]++N0 (K8 G (G ks) n):Hp).length=9:=by simp [P3]
  rw [l9];simp only [vV,vVs,vR,vN,vI,C2,rens,w0]
 ·have l9:([some ⟨4,G7 (G ks) n (dW 3 (G ks))⟩]++N0 (K8 G (G ks) n):Hp).length=9:=by simp [P3]
  rw [l9,List.map_append]
  have e1:rens (J5 [i,m] 7 9) (G7 (G ks) n (dW 3 (G ks)))=G7 (G ks) n (dW 8 (G ks)):=by
   rw [cX];refine Tk fun j hj=>?_
   have:(J5 [i,m] 7 9).getD (3+j) 0=8+j:=by
    have:=cR (i:=i) (m:=m) (h:=7) (k:=9) (j:=1+j) (by omega)
    rw [show 3+j=2+(1+j) by omega,this];omega
   simp only [dW,C2,this]
  have e3:(N0 (K8 G (G ks) n)).map (P9 (J5 [i,m] 7 9))=N0 (K8 G (G ks) n):=by
   unfold N0;rw [List.map_map];refine List.map_congr_left fun j hj=>?_;show some (⟨1,rens (J5 [i,m] 7 9) (B1 (K8 G (G ks) n) j)⟩:Blk)=some ⟨1,B1 (K8 G (G ks) n) j⟩;rw [B4];rw [Jr (List.mem_range.1 hj)];split
   ·rename_i hjn;exact B7 (h.u8 hjn)
   ·rfl
  show _=[some (⟨4,rens (J5 [i,m] 7 9) (G7 (G ks) n (dW 3 (G ks)))⟩:Blk)]++(N0 (K8 G (G ks) n)).map (P9 (J5 [i,m] 7 9));rw [e1,e3];rfl
theorem own_66 (G:Nat→List AV) (B:Nat) (kp m N a:Nat) (s rest:List AV) (h:Vv (G kp) m) (hB:wL (G kp) m) (hs:s.drop a=fN (m:Int)++(B6 (G kp) m++rest)) (hl:s.length=N) (hN:N≤1000000) (h8:E4 s=true) (hp:a≤N) :
  DSumOk (za G B) 66 (Tc 2563 (Be s N (a:Int) [.int .i64 512,.func 67 []]) 16 (.tup [.slice true (.rw 16) (.lit 0) (.var 4 m),.int .i64 (.lit 0)]) (.var 12 ((a+(fN (m:Int)).length+(B6 (G kp) m).length:Nat):Int)) [⟨2,.var 7 (I8 (xP (G kp)) (G kp) m)⟩]):=by
 have key:=aW0 G B kp m a N s rest h hB hs hl hN h8 hp;have w0:∀ i m,(J5 [i,m] 16 1).getD 2 0=16:=fun i m=>cR (j:=0) (by omega);refine qJ (C:=(za G B)) (H1:=[some ⟨2,(I8 (xP (G kp)) (G kp) m)⟩]) (v0:=.tup [.slice true (.rw 2) 0 m,.int .i64 0]) rfl h8 rfl key (by simp [I1,Cw]) (by simp [B0,A6]) (fun i m'=>?_) (fun i m'=>?_)
 ·show _=C2 (J5 [i,m'] 16 1) _;simp only [vV,vVs,vR,vN,vI,C2,rens,w0]
 ·show _=[some (⟨2,rens (J5 [i,m'] 16 1) (I8 (xP (G kp)) (G kp) m)⟩:Blk)];rw [B4 _ _ Cw];rfl
open Crc
theorem Nx {s:List AV} {N:Nat} {a:Int} {rest:List AV}:Be s N a rest [.agg s,.ptr (.rw 0) N,.int .i64 a,.agg rest]=true:=by simp [Be]
def L5 (G:Nat→List AV) (s:Int) (cs:List AV) (n:Nat) (ps:List AV) (m:Nat):List AV:=fN s++(fN (n:Int)++(B9 G cs n++(fN (m:Int)++B6 ps m)))
theorem iV {G:Nat→List AV} {s:Int} {cs ps:List AV} {n m:Nat}:Bg G s cs n ps m=magL++L5 G s cs n ps m:=by
 simp only [Bg,L5,List.append_assoc]
theorem Bh {a b:List AV}:E4 (a++b)=(E4 a&&E4 b):=by simp only [E4,List.all_append]
theorem Ob:∀ (a:List UInt8),E4 (A9 a)=true
 | []=>rfl
 | x::a=>by
  have:=Ob a
  have h:=x.toNat_lt;simp only [E4,A9,List.map_cons,List.all_cons,zO] at this ⊢;refine ⟨?_,this⟩;simp only [b8,zO,qC];omega
theorem bD9 {b:List Nat} (h:byO b):E4 (Gd b)=true:=by
 simp only [E4,Gd,List.all_map,qD];intro x hx
 have:=h x hx
 simp only [Function.comp,b8,zO,qC];omega
theorem qS {G:Nat→List AV} {cs:List AV}:∀ {n:Nat},(∀ j,j<n→E4 (F7 G cs j)=true)→E4 (B9 G cs n)=true
 | 0,_=>rfl
 | n+1,h=>by
  rw [B9,Bh,qS (n:=n) fun j hj=>h j (by omega),Fo,T5];simp only [Bh,fN,Ob,h n (by omega),Bool.and_self]
theorem mJ {ps:List AV}:∀ {n:Nat},E4 (B6 ps n)=true
 | 0=>rfl
 | n+1=>by
  rw [B6,Bh,mJ (n:=n),Ay,Ae,Bh,fN,Ob];cases hP ps n<;>decide
theorem qK {G:Nat→List AV} {s:Int} {ks kp n m:Nat} (hb:Ad G ks kp n m):E4 (L5 G s (G ks) n (G kp) m)=true:=by
 simp only [L5,Bh,fN,Ob,mJ,Bool.and_true,Bool.true_and];refine qS fun j hj=>?_;obtain ⟨b,h1,h2⟩:=hb.dat j hj;rw [h2];exact bD9 h1
theorem Zo {G:Nat→List AV} {s:Int} {cs ps:List AV} {n m:Nat}:E3 G s cs n ps m=magL++(L5 G s cs n ps m++tN (Vj (Bg G s cs n ps m))):=by
 rw [E3,iV,List.append_assoc]
def Up (G:Nat→List AV) (ks kp n m:Nat) (s:Int):DHp:=(none :: some ⟨1,.of [.int .i64 (.var 1 s),.slice true (.rw 7) (.lit 0) (.var 3 n),.slice true (.rw 16) (.lit 0) (.var 4 m)]⟩ :: some ⟨1,.of [.int .i64 (.lit 0)]⟩ :: some ⟨1,.of [.int .u8 (.lit 83),.int .u8 (.lit 84),.int .u8 (.lit 68),.int .u8 (.lit 1)]⟩ :: none :: some ⟨1,.var 30 (L5 G s (G ks) n (G kp) m)⟩ :: some ⟨1,.of [.slice false (.rw 5) (.lit 0) (.var 31 ((L5 G s (G ks) n (G kp) m)).length),.int .i64 (.var 12 (((fN s).length+(fN (n:Int)).length+(B9 G (G ks) n).length+(fN (m:Int)).length+(B6 (G kp) m).length:Nat):Int))]⟩ :: some ⟨4,.var 21 (G7 (G ks) n (dW 8 (G ks)))⟩ :: U7 (.var 22 (K8 G (G ks) n)) [some ⟨2,.var 7 (I8 (xP (G kp)) (G kp) m)⟩])
theorem bB6 {G:Nat→List AV} {ks kp n m:Nat} {s:Int}:(Up G ks kp n m s).length=17:=rfl
theorem own_28 (G:Nat→List AV) (B:Nat) (ks kp kd0 n m:Nat) (s:Int) (O:Qi G ks kp kd0 n) (hb:Ad G ks kp n m) (hw:Z4 G ks kp n m) (hn:n≤1000000) (hm:m≤1000000) (hy:K1 s (G ks) n (G kp) m=true) :
  DSumOk (za G B) 28 (Bl 2564 (D9 [.agg [.int .i64 s,.slice true (.rw 7) 0 n,.slice true (.rw 16) 0 m]] (B8 G (Up G ks kp n m s))) (.one (.tup [.slice false (.rw 17) (.lit 0) (.len (.var 23 (E3 G s (G ks) n (G kp) m))),.int .i64 (.lit 0)]) [.new ⟨1,.var 23 (E3 G s (G ks) n (G kp) m)⟩])):=by
 have hS:=Dl hb hw hy;have h8:=hS.le8;have uF:u8s (E3 G s (G ks) n (G kp) m)=true:=Dh hS;refine Mb (C:=(za G B)) rfl ?_
 refine E1.rnN (C:=(za G B)) (args:=[.agg (.of [.int .i64 (.var 1 s),.slice true (.rw 7) (.lit 0) (.var 3 n),.slice true (.rw 16) (.lit 0) (.var 4 m)])]) (H:=(Up G ks kp n m s)) (v:=.tup [.slice false (.rw 17) (.lit 0) (.len (.var 23 (E3 G s (G ks) n (G kp) m))),.int .i64 (.lit 0)]) (b:=⟨1,.var 23 (E3 G s (G ks) n (G kp) m)⟩) (σ:=Xy ks kp kd0 n 7 16 8) (G':=G) (args0:=[.agg [.int .i64 s,.slice true (.ro ks) 0 n,.slice true (.ro kp) 0 m]]) (v0:=.tup [.slice false (.rw 0) 0 ((E3 G s (G ks) n (G kp) m)).length,.int .i64 0]) ?_ rfl (fun ρ vs hv=>?_) (fun B'=>sV G B' ks kp n m s hb hw hn hm hy) rfl ⟨B7 uF,Fj uF⟩ (by rw [bB6];simp [vV,vVs,vR,vN,vI,vL,sh,sb,sbs])
 ·refine O.sees (B:=B) hb hw h8 rfl rfl fun j hj=>?_;have hj8:j<8:=by omega
  have:∀ q,q<8→(B8 G (Up G ks kp n m s))[8+q]?=some (some ⟨1,B1 (K8 G (G ks) n) q⟩):=fun q hq=>by
   match q,hq with
   | 0,_=>rfl
   | 1,_=>rfl
   | 2,_=>rfl
   | 3,_=>rfl
   | 4,_=>rfl
   | 5,_=>rfl
   | 6,_=>rfl
   | 7,_=>rfl
  rw [this j hj8,Jr hj8,if_pos hj]
 ·obtain ⟨s1,s2,_⟩:=O.s (a:=7) (p:=16) (b:=8);simp only [sbs,sb,s1,s2,Nat.zero_add];simpa only [vVs,vV,vR,vN,vI,vL] using hv
noncomputable def kFo (G:Nat→List AV) (ks kp n m:Nat) (s:Int):DCfg:=(Dc Try.prog [59,42,60,61,85,62,65,69,68,70,87,92] ([(63,Tc 2562 (Be (L5 G s (G ks) n (G kp) m) ((L5 G s (G ks) n (G kp) m)).length (((fN s).length:Nat):Int) [.int .i64 8,.func 64 []]) 7 (.tup [.slice true (.rw 7) (.lit 0) (.var 3 n),.int .i64 (.lit 0)]) (.var 11 (((fN s).length+(fN (n:Int)).length+(B9 G (G ks) n).length:Nat):Int)) (⟨4,.var 21 (G7 (G ks) n (dW 8 (G ks)))⟩ :: rB8 (.var 22 (K8 G (G ks) n)) [])),(66,Tc 2563 (Be (L5 G s (G ks) n (G kp) m) ((L5 G s (G ks) n (G kp) m)).length (((fN s).length+(fN (n:Int)).length+(B9 G (G ks) n).length:Nat):Int) [.int .i64 512,.func 67 []]) 16 (.tup [.slice true (.rw 16) (.lit 0) (.var 4 m),.int .i64 (.lit 0)]) (.var 12 (((fN s).length+(fN (n:Int)).length+(B9 G (G ks) n).length+(fN (m:Int)).length+(B6 (G kp) m).length:Nat):Int)) [⟨2,.var 7 (I8 (xP (G kp)) (G kp) m)⟩]),(28,Bl 2564 (D9 [.agg [.int .i64 s,.slice true (.rw 7) 0 n,.slice true (.rw 16) 0 m]] (B8 G (Up G ks kp n m s))) (.one (.tup [.slice false (.rw 17) (.lit 0) (.len (.var 23 (E3 G s (G ks) n (G kp) m))),.int .i64 (.lit 0)]) [.new ⟨1,.var 23 (E3 G s (G ks) n (G kp) m)⟩]))]++progR) [] 1)
theorem aL0 (G:Nat→List AV) (B:Nat) (ks kp kb kd0 n m:Nat) (s:Int) (hk:G kb=(E3 G s (G ks) n (G kp) m)) (O:Qi G ks kp kd0 n) (hb:Ad G ks kp n m) (hw:Z4 G ks kp n m) (hn:n≤1000000) (hm:m≤1000000) (hy:K1 s (G ks) n (G kp) m=true) :
  DGood (za G B) (kFo G ks kp n m s) []∧vT G (fun e vs H=>e=Ex.ret∧vs=[.slice true (.ro kb) 0 ((E3 G s (G ks) n (G kp) m)).length,.ptr (.rw 1) 0,.ptr (.rw 2) 0]∧H=B8 G (Up G ks kp n m s)++[some ⟨1,(E3 G s (G ks) n (G kp) m)⟩]) (fun _ _=>False) (H4 (kFo G ks kp n m s) 400 30 1 (O4 (O4 (C3 Try.f29))) 55 [0,2,3] [.slice true (.ro (.var 26 kb)) (.lit 0) (.var 5 ((E3 G s (G ks) n (G kp) m)).length),.ptr (.rw 1) (.lit 0),.ptr (.rw 2) (.lit 0)] [none,some ⟨1,.of [.int .i64 (.lit 0),.nils,.nils]⟩,some ⟨1,.of [.int .i64 (.lit 0)]⟩]):=by
 have hS:=Dl hb hw hy;have hP:=dS hb hy;obtain ⟨s0,s1⟩:=mX hy;have hs:=uY hy;have h8:=hS.le8;have h512:=hP.le;have h8T:E4 (L5 G s (G ks) n (G kp) m)=true:=qK hb;have lB:=Vl (G:=G) (s:=s) (ps:=(G kp)) hS hP.le;have eB:((Bg G s (G ks) n (G kp) m)).length=((L5 G s (G ks) n (G kp) m)).length+4:=by rw [iV,zA6];simp only [magL,List.length_cons,List.length_nil];omega
 have eF:((E3 G s (G ks) n (G kp) m)).length=((L5 G s (G ks) n (G kp) m)).length+8:=by rw [E3,zA6,eB];rfl
 have eT:((L5 G s (G ks) n (G kp) m)).length=(fN s).length+((fN (n:Int)).length+((B9 G (G ks) n).length+((fN (m:Int)).length+(B6 (G kp) m).length))):=by simp only [L5,zA6]
 have uF:u8s (E3 G s (G ks) n (G kp) m)=true:=Dh hS;have d0:((L5 G s (G ks) n (G kp) m)).drop 0=fN s++(fN (n:Int)++(B9 G (G ks) n++(fN (m:Int)++B6 (G kp) m))):=rfl;have d1:=T2 d0;rw [Nat.zero_add] at d1;have d2:=T2 (u:=fN (n:Int)++B9 G (G ks) n) (v:=fN (m:Int)++B6 (G kp) m) (by rw [d1];simp only [List.append_assoc]);rw [zA6,←Nat.add_assoc] at d2;have c63:=own_63 G B ks n ((L5 G s (G ks) n (G kp) m)).length (fN s).length (L5 G s (G ks) n (G kp) m) _ hS (aX6 hy) d1 rfl (by omega) h8T (by omega)
 have c66:=own_66 G B kp m ((L5 G s (G ks) n (G kp) m)).length ((fN s).length+(fN (n:Int)).length+(B9 G (G ks) n).length) (L5 G s (G ks) n (G kp) m) [] hP (fun j hj=>uX hy hb.pls j hj) (by rw [d2,List.append_nil]) rfl (by omega) h8T (by omega);have c28:=own_28 G B ks kp kd0 n m s O hb hw hn hm hy;refine ⟨C7 (mix G B) (by kernel_rfl) (.cons c63 (.cons c66 (.cons c28 (L8 G B)))) .nil,?_⟩;unfold kFo;rw [t29o,hk]
 have eE:(if 0>IntKind.wrap .i64 (((((E3 G s (G ks) n (G kp) m)).length:Nat):Int) - 4) then 0 else IntKind.wrap .i64 (((((E3 G s (G ks) n (G kp) m)).length:Nat):Int) - 4):Int)=((((L5 G s (G ks) n (G kp) m)).length+4:Nat):Int):=by
  rw [B5 (n:=((((E3 G s (G ks) n (G kp) m)).length:Nat):Int) - 4) (by omega),eF,if_neg (by omega)];omega
 rw [eE,Int.toNat_natCast,Nat.add_sub_cancel];have eM:A0 (E3 G s (G ks) n (G kp) m) 0 4=magL:=by rw [Zo];rfl
 have eS:A0 (E3 G s (G ks) n (G kp) m) 4 ((L5 G s (G ks) n (G kp) m)).length=(L5 G s (G ks) n (G kp) m):=by
  rw [Zo];show List.take ((L5 G s (G ks) n (G kp) m)).length ((L5 G s (G ks) n (G kp) m)++_)=(L5 G s (G ks) n (G kp) m);rw [List.take_left]
 have eA:A0 (E3 G s (G ks) n (G kp) m) 0 ((E3 G s (G ks) n (G kp) m)).length=(E3 G s (G ks) n (G kp) m):=L3 rfl;rw [eM,eS,eA];have z0:((0:Nat):Int)=0:=rfl;obtain ⟨r1e,r1v,r1a⟩:=Nj hs d0;rw [z0] at r1e r1v r1a;rw [Nat.zero_add] at r1a;rw [r1e,r1v,r1a,B5 (n:=s) (by omega),B5 (n:=((((L5 G s (G ks) n (G kp) m)).length:Nat):Int) - (((fN s).length+(fN (n:Int)).length+(B9 G (G ks) n).length+(fN (m:Int)).length+(B6 (G kp) m).length:Nat):Int)) (by omega),B5 (n:=((((L5 G s (G ks) n (G kp) m)).length:Nat):Int)+1) (by omega)]
 have bg:Vq 1 [.int .i64 (((((L5 G s (G ks) n (G kp) m)).length:Nat):Int)+1)]≤140737488355328:=by show (((((L5 G s (G ks) n (G kp) m)).length:Nat):Int)+1)*((1:Nat):Int)≤_;omega
 have q3:(D9 [.agg [.int .i64 s,.slice true (.rw 7) 0 n,.slice true (.rw 16) 0 m]] (B8 G (Up G ks kp n m s))) [.agg [.agg [.int .i64 s,.slice true (.rw 7) 0 n,.slice true (.rw 16) 0 m]],.agg (O9 (B8 G (Up G ks kp n m s)))]=true:=D2
 refine ⟨yI (by omega),yI (by omega),fun _=>⟨yI (by omega),A8.2 (by omega),rfl,rfl,fun _=>⟨yI (by omega),yI (by omega),yI (by omega),yI bg,yI (by omega),A8.2 (by omega),F9 (G9 h8T),A8.2 (by omega),mB h8T rfl (by omega) (zA8 _),fun _=>⟨fun hh=>absurd (zR hh) (by omega),fun _=>⟨Nx,Nx,fun hh=>absurd (zR hh) (by omega),fun _=>⟨q3,A8.2 (zA7 _),uF,A8.2 (zA7 _),uF,fun _=>⟨rfl,rfl,rfl⟩,fun hh=>absurd hh (by simp)⟩⟩⟩,fun hh=>absurd hh (by decide)⟩,fun hh=>absurd hh (by simp [magL])⟩,fun hh=>absurd (sJ hh) (by omega)⟩
open Go.RowKit
def o58 : Oper := { dst := some 5, op := .call { callee := .builtin .recover, args := #[], argTypes := #[] }, type := 20, pos := "image.go:125", after := #[], guard := none }
def q58 : Oper := { dst := some 7, op := .binOp .eql 20 (.tmp 5) (.const .nilIface) 20, type := 4, pos := "image.go:125", after := #[], guard := none }
def p58 : Oper := { dst := some 2, op := .assign (.tmp 5), type := 20, pos := "image.go:125", after := #[], guard := none }
noncomputable def z58:Code:=match C3 Try.f58 with | .seq _ (.block _ (.seq _ (.cond _ _ z)))=>z | _=>.skip
theorem aC7:C3 Try.f58=.seq (.region 0 #[o58] false) (.block 0 (.seq (.region 3 #[q58] false) (.cond (.tmp 7) (.region 4 #[p58] false) z58))):=by kernel_rfl
theorem yJ {a:Act} {w:World}:(execOp a.eval o58).run Try.prog w=.ok .recover w:=rfl
theorem idle58 (x y:Value) (w:World):CallsDIn Fence.wide 0 Try.prog 58 #[x,y] .returning w fun e u' w'=>e=.returned (.tuple #[])∧u'=.returning∧w'=w:=by
 refine callsDIn_of_wpSIn (fn:=Try.f58) (c:=C3 Try.f58) (by kernel_rfl) (by kernel_rfl) trivial fun c₀ cs hu=>?_;rw [aC7];have hnt:Try.f58.ntmps=12:=by kernel_rfl
 have hres:Try.f58.results=#[]:=by kernel_rfl
 rw [hnt];apply wpSIn_seq;apply wpSIn_region;have hr:recoverD (c₀::cs)=none:=by simp [recoverD,hu]
 have e0:List.range (#[o58]:Array Oper).size=[0]:=rfl;rw [e0];unfold wpOpsSIn;have e1:(#[o58]:Array Oper)[0]?=some o58:=rfl;rw [e1];refine ⟨fun _ _=>trivial,?_⟩;rw [if_pos (by rfl),yJ];simp only [hr];unfold wpOpsSIn;show Exit.thenS _ _ .normal _ _ _;unfold Exit.thenS;refine wpSIn_of_wpIn rfl (wpIn_block (wpIn_seq (wpIn_region_list ?_)));simp [wpListIn,Oper.wpIn,q58,o58,go_sem];refine wpIn_cond_true (by simp [Act.eval,Array.replicate]) (wpIn_region_list ?_);simp [wpListIn,Oper.wpIn,p58,go_sem,Exit.inBlock];cases c₀;simp_all [bodyPostS,results,hres]
def oA : Oper := { dst := some 2, op := .alloc 25, type := 0, pos := "image.go:123", after := #[], guard := none }
def Fv : Oper := { dst := some 3, op := .alloc 29, type := 0, pos := "image.go:123", after := #[], guard := none }
def oC : Oper := { dst := some 7, op := .makeFunc (.func 58) #[] #[.tmp 2, .tmp 3], type := 1, pos := "image.go:124", after := #[], guard := none }
def oD : Oper := { dst := none, op := .defer { callee := .value (.tmp 7), args := #[], argTypes := #[] }, type := 0, pos := "image.go:124", after := #[{ on := 0, ground := .data }], guard := none }
theorem aC8:C3 Try.f29=.seq (.region 0 #[oA,Fv] false) (.seq (.region 1 #[oC,oD] false) (O4 (O4 (C3 Try.f29)))):=by kernel_rfl
theorem strt29:Oe (O4 (O4 (C3 Try.f29)))=true:=by kernel_rfl
theorem wA (G:Nat→List AV) (B:Nat) {F:Fr} {H:Hp}:H7 (za G B) F H oA.op=some (true,.ptr (.rw H.length) 0,.new ⟨1,[.int .i64 0,.nils,.nils]⟩):=by kernel_rfl
theorem wB9 (G:Nat→List AV) (B:Nat) {F:Fr} {H:Hp}:H7 (za G B) F H Fv.op=some (true,.ptr (.rw H.length) 0,.new ⟨1,[.int .i64 0]⟩):=by kernel_rfl
theorem pC {F:Fr} {x y:AV} (hx:F.getD 2 .undef=x) (hy:F.getD 3 .undef=y):G5 Try.prog F oC.op=some (true,.func 58 [x,y]):=by
 subst hx hy;kernel_rfl
theorem AP.lvd {C:A1} {m:Nat} {ρ:Env} {w:World} {N:Nat} {live:List Nat} {Q:Ex→List AV→Hp→Prop} {Q':Post} {e:Exit} {a':Act} {w':World} (h:AP C m ρ w (lv N live Q) e a' w') (hq:∀ e vs H',Q e vs H'→Q' e (fl N live vs) H'):AP C m ρ w Q' e a' w':=by
 obtain ⟨ae,ρ',F',H',rfl,h2,h3,h4,h5,h6⟩:=h;obtain ⟨h7,h8⟩:=U6 h2;exact ⟨ae,ρ',_,H',rfl,hq _ _ _ h8,h3,h4,Mf h5 (rG h7),h6⟩
theorem idleD {cs:Array Value} (h:cs.size=2):wM Try.prog ⟨.fn (.func 58) cs,#[]⟩:=by
 have he:Qj Try.prog 58:=⟨Try.f58,C3 Try.f58,by kernel_rfl,by kernel_rfl,by kernel_rfl⟩;refine ⟨.func 58,cs,58,#[]++cs,rfl,fun w=>⟨?_,?_⟩⟩
 ·show (invoke (.fn (.func 58) cs) #[]).run Try.prog w=_;simp only [invoke];exact Ch he _ w
 ·have e:(#[]++cs:Array Value)=#[cs[0],cs[1]]:=by
   apply Array.ext (by simp [h]);intro i h1 h2;simp at h2
   match i,h2 with
   | 0,_=>simp
   | 1,_=>simp
  rw [e];exact idle58 _ _ w
def Nf (j:Nat) (q:List AV→Bool) (x:EL):DSum:=fun args H=>some (.chk (.uf j q [.agg (.of args),.agg (.of [])]) (.one (.slice false (.rw H.length) (.lit 0) (.len x)) [.new ⟨1,x⟩]))
theorem aI0 {C:A1} {f j:Nat} {vs0:List AV} {x:EL} {q:List AV→Bool} (hq:q=D9 vs0 []) (h:ACalls C f vs0 [] fun v H=>v=.slice false (.rw 0) 0 (vL C.G x).length∧H=[some ⟨1,vL C.G x⟩]) (ha:A6 0 vs0=true) (hu:u8s (vL C.G x)=true):DSumOk C f (Nf j q x):=by
 intro args H o ho;simp only [Nf,zN] at ho;subst ho;intro h1;have h1:q [.agg (vVs C.G args),.agg (O9 [])]=true:=h1;rw [hq] at h1;obtain ⟨e1,_⟩:=Ig h1;refine E1.new0 (C:=C) (args0:=vs0) (v0:=.slice false (.rw 0) 0 (vL C.G x).length) (by simp only [C6];exact h) (B7 hu) ha e1 (by simp [B0]) (by simp [vV,vR,vN,vI,C2])
theorem aI1 {C:A1} {f j:Nat} {x:EL}:DSumOk C f (Nf j (fun _=>false) x):=by
 intro args H o ho;simp only [Nf,zN] at ho;subst ho;intro h1;exact absurd h1 (by simp [vB])
end Go.Am
