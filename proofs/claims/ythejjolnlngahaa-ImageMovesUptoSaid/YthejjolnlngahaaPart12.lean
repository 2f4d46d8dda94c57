/-
  Images moved: the section in which a place lies, of an image in the he Images moved: a place's bytes read and laid anew: trees.
-/
import Derived.Test.YthejjolnlngahaaPart11
namespace Go.Am
open Go.Proofs
set_option maxRecDepth 100000
theorem Yg {l:List AV} {o b k f n:Nat} (h:l[o]?=some (.slice true (.rw (b+k)) f n)):O3 b l o=k∧Ay l o=f∧Ib l o=n:=by
 unfold O3 Ay Ib;rw [h];refine ⟨?_,rfl,rfl⟩;show b+k - b=k;omega
theorem Sl {l:List AV} {o b c k f n:Nat} (h:l[o]?=some (.slice true (.rw (b+k)) f n)) (hk:k<c):Kt b c l o=true:=by
 unfold Kt;rw [h];show (Nat.ble b (b+k)&&Nat.blt (b+k) (b+c))=true;rw [Bool.and_eq_true];exact ⟨Nat.ble_eq_true_of_le (by omega),Nat.ble_eq_true_of_le (by omega)⟩
theorem pG {cs:List AV} {n:Nat} {d:Nat→AV} {j:Nat} (h:j<n):isI .i64 (A7 cs n d) (j*4)=true∧A3 (A7 cs n d) (j*4)=sA cs j:=by
 have:(A7 cs n d)[j*4+0]?=some (.int .i64 (sA cs j)):=O7 (f:=Pu cs d) h (by omega)
 rw [Nat.add_zero] at this;unfold isI A3;rw [this];exact ⟨rfl,rfl⟩
def Q5 (b0 b1 sc pl dl b12 b13:List AV):Hp:=[some ⟨1,b0⟩,some ⟨1,b1⟩,some ⟨4,sc⟩,some ⟨2,pl⟩]++(L5 dl++[some ⟨1,b12⟩,some ⟨1,b13⟩])
theorem hL (G:Nat→List AV) (cs:List AV) (n:Nat) (b0 b1 pl dl b12 b13:List AV):B4 G [some ⟨1,.var 31 b0⟩,some ⟨1,.var 32 b1⟩,some ⟨4,.var 21 (A7 cs n (dW 4 cs))⟩,some ⟨2,.var 7 pl⟩,some ⟨1,.row (.var 22 dl) (.lit 0)⟩,some ⟨1,.row (.var 22 dl) (.lit 1)⟩,some ⟨1,.row (.var 22 dl) (.lit 2)⟩,some ⟨1,.row (.var 22 dl) (.lit 3)⟩,some ⟨1,.row (.var 22 dl) (.lit 4)⟩,some ⟨1,.row (.var 22 dl) (.lit 5)⟩,some ⟨1,.row (.var 22 dl) (.lit 6)⟩,some ⟨1,.row (.var 22 dl) (.lit 7)⟩,some ⟨1,.var 33 b12⟩,some ⟨1,.var 34 b13⟩]=Q5 b0 b1 (A7 cs n (dW 4 cs)) pl dl b12 b13:=rfl
theorem fA {b0 b1 sc pl dl b12 b13:List AV}:(Q5 b0 b1 sc pl dl b12 b13).length=14:=by simp [Q5,M0]
theorem rT (G:Nat→List AV) (B:Nat) (b0 b1 pl dl b12 b13:List AV) (cs:List AV) (n:Nat) (x:Int) (h:Bool) (h8:n≤8):AWp (⟨Try.prog,G,B⟩:A2) 14 (.loop (A4 Try.f34 0)) (fl 42 [0,3,4,8,9] [.slice true (.rw 2) 0 n,.ptr (.rw 14) 0,.nilp,.int .i64 (n:Int),.int .i64 0]) (B4 G [some ⟨1,.var 31 b0⟩,some ⟨1,.var 32 b1⟩,some ⟨4,.var 21 (A7 cs n (dW 4 cs))⟩,some ⟨2,.var 7 pl⟩,some ⟨1,.row (.var 22 dl) (.lit 0)⟩,some ⟨1,.row (.var 22 dl) (.lit 1)⟩,some ⟨1,.row (.var 22 dl) (.lit 2)⟩,some ⟨1,.row (.var 22 dl) (.lit 3)⟩,some ⟨1,.row (.var 22 dl) (.lit 4)⟩,some ⟨1,.row (.var 22 dl) (.lit 5)⟩,some ⟨1,.row (.var 22 dl) (.lit 6)⟩,some ⟨1,.row (.var 22 dl) (.lit 7)⟩,some ⟨1,.var 33 b12⟩,some ⟨1,.var 34 b13⟩,some ⟨1,.of [.int .i64 (.var 6 x),.bool (.var 9 h)]⟩]) (lv 42 [0,3,4,8,9] (LOut.post G 14 (.tst (.var 10 (decide ((B2 cs n x h)<n))) (.one .ret [.undef,.undef,.ptr (.rw 2) (.mul (.var 11 (B2 cs n x h)) 4),.undef,.undef] [some ⟨1,.var 31 b0⟩,some ⟨1,.var 32 b1⟩,some ⟨4,.var 21 (A7 cs n (dW 4 cs))⟩,some ⟨2,.var 7 pl⟩,some ⟨1,.row (.var 22 dl) (.lit 0)⟩,some ⟨1,.row (.var 22 dl) (.lit 1)⟩,some ⟨1,.row (.var 22 dl) (.lit 2)⟩,some ⟨1,.row (.var 22 dl) (.lit 3)⟩,some ⟨1,.row (.var 22 dl) (.lit 4)⟩,some ⟨1,.row (.var 22 dl) (.lit 5)⟩,some ⟨1,.row (.var 22 dl) (.lit 6)⟩,some ⟨1,.row (.var 22 dl) (.lit 7)⟩,some ⟨1,.var 33 b12⟩,some ⟨1,.var 34 b13⟩,some ⟨1,.of [.int .i64 (.var 6 x),.bool (.var 9 h)]⟩]) (.one (.exit 0) [.undef,.undef,.nilp,.undef,.undef] [some ⟨1,.var 31 b0⟩,some ⟨1,.var 32 b1⟩,some ⟨4,.var 21 (A7 cs n (dW 4 cs))⟩,some ⟨2,.var 7 pl⟩,some ⟨1,.row (.var 22 dl) (.lit 0)⟩,some ⟨1,.row (.var 22 dl) (.lit 1)⟩,some ⟨1,.row (.var 22 dl) (.lit 2)⟩,some ⟨1,.row (.var 22 dl) (.lit 3)⟩,some ⟨1,.row (.var 22 dl) (.lit 4)⟩,some ⟨1,.row (.var 22 dl) (.lit 5)⟩,some ⟨1,.row (.var 22 dl) (.lit 6)⟩,some ⟨1,.row (.var 22 dl) (.lit 7)⟩,some ⟨1,.var 33 b12⟩,some ⟨1,.var 34 b13⟩,some ⟨1,.of [.int .i64 (.var 6 x),.bool (.var 9 h)]⟩])))):=by
 have hle:(B2 cs n x h)≤n:=G9.1
 refine S0 (B2 cs n x h) (fun i=>[.slice true (.rw 2) 0 n,.ptr (.rw 14) 0,.nilp,.int .i64 (n:Int),.int .i64 (i:Int)]) (fun _=>B4 G [some ⟨1,.var 31 b0⟩,some ⟨1,.var 32 b1⟩,some ⟨4,.var 21 (A7 cs n (dW 4 cs))⟩,some ⟨2,.var 7 pl⟩,some ⟨1,.row (.var 22 dl) (.lit 0)⟩,some ⟨1,.row (.var 22 dl) (.lit 1)⟩,some ⟨1,.row (.var 22 dl) (.lit 2)⟩,some ⟨1,.row (.var 22 dl) (.lit 3)⟩,some ⟨1,.row (.var 22 dl) (.lit 4)⟩,some ⟨1,.row (.var 22 dl) (.lit 5)⟩,some ⟨1,.row (.var 22 dl) (.lit 6)⟩,some ⟨1,.row (.var 22 dl) (.lit 7)⟩,some ⟨1,.var 33 b12⟩,some ⟨1,.var 34 b13⟩,some ⟨1,.of [.int .i64 (.var 6 x),.bool (.var 9 h)]⟩]) fun i hi=>?_
 refine D3 (C:=(⟨Try.prog,G,B⟩:A2)) (K:=Df Try.prog [(37,4,8)] [] progIb [] 14) (by rw [show A8 (A4 Try.f34 0)=[] by kernel_rfl];exact K9 (E9 G B) (by kernel_rfl) (N7 G B) .nil) (fuel:=300) (n0:=20) (m:=14) (c:=A4 Try.f34 0) (vs:=[.slice true (.rw 2) (.lit 0) (.var 3 n),.ptr (.rw 14) (.lit 0),.nilp,.int .i64 (.ofN (.var 3 n)),.int .i64 (.ofN (.var 8 i))]) (H:=[some ⟨1,.var 31 b0⟩,some ⟨1,.var 32 b1⟩,some ⟨4,.var 21 (A7 cs n (dW 4 cs))⟩,some ⟨2,.var 7 pl⟩,some ⟨1,.row (.var 22 dl) (.lit 0)⟩,some ⟨1,.row (.var 22 dl) (.lit 1)⟩,some ⟨1,.row (.var 22 dl) (.lit 2)⟩,some ⟨1,.row (.var 22 dl) (.lit 3)⟩,some ⟨1,.row (.var 22 dl) (.lit 4)⟩,some ⟨1,.row (.var 22 dl) (.lit 5)⟩,some ⟨1,.row (.var 22 dl) (.lit 6)⟩,some ⟨1,.row (.var 22 dl) (.lit 7)⟩,some ⟨1,.var 33 b12⟩,some ⟨1,.var 34 b13⟩,some ⟨1,.of [.int .i64 (.var 6 x),.bool (.var 9 h)]⟩]) (by show 14≤15;decide) ?_
 rw [da_b];have key:i<n→Bj cs x h i=decide (i=(B2 cs n x h)):=fun h2=>Cq hi h2;simp only [Bj] at key
 have nx:Bj cs x h i=false→i<n→i<(B2 cs n x h):=fun h1 h2=>by
  have:=Cq hi h2
  rw [h1] at this
  have:=of_decide_eq_false this.symm
  unfold B2 at *;omega
 refine ⟨fun h1=>?_,fun h1=>?_⟩
 ·have hin:i<n:=by have:=of_decide_eq_true h1;omega
  obtain ⟨t1,t2⟩:=pG (cs:=cs) (d:=dW 4 cs) hin;have hat:(A7 cs n (dW 4 cs))[i*4+2]?=some (.slice true (.rw (4+i)) 0 (sN cs i)):=Jg hin;obtain ⟨f1,f2,f3⟩:=Yg hat;rw [B6 (n:=(i:Int)+1) (by omega),t2,f3];refine ⟨decide_eq_true (by omega),h1,t1,fun h2=>⟨t1,Sl hat (by omega),fun h3=>?_,fun h3=>?_⟩,fun h2=>?_⟩
  ·have e:i=(B2 cs n x h):=of_decide_eq_true (by rw [←key hin,Bool.and_eq_true];exact ⟨h2,h3⟩);refine .inl ⟨decide_eq_true (by omega),rfl,.inl ⟨?_,rfl⟩⟩;show wk [.undef,.undef,.ptr (.rw 2) ((B2 cs n x h)*4),.undef,.undef] _;rw [←e];simp [wk]
  ·exact ⟨nx (by unfold Bj;rw [Bool.and_eq_false_iff];exact .inr h3) hin,.inl ⟨rfl,rfl⟩⟩
  ·exact ⟨nx (by unfold Bj;rw [Bool.and_eq_false_iff];exact .inl h2) hin,.inl ⟨rfl,rfl⟩⟩
 ·have h1':=of_decide_eq_false h1;exact .inr ⟨decide_eq_false (by omega),rfl,.inl ⟨by simp [vVs,vV,wk],rfl⟩⟩
theorem rU (G:Nat→List AV) (B:Nat) (b0 b1 pl dl b12 b13:List AV) (cs:List AV) (n:Nat) (x:Int) (h:Bool) (h8:n≤8) (hb:L1 14 (Q5 b0 b1 (A7 cs n (dW 4 cs)) pl dl b12 b13)=true):ACalls (⟨Try.prog,G,B⟩:A2) 34 [.slice true (.rw 2) 0 n,.agg [.int .i64 x,.bool h]] (Q5 b0 b1 (A7 cs n (dW 4 cs)) pl dl b12 b13) fun v H=>v=(if (B2 cs n x h)<n then .ptr (.rw 2) ((B2 cs n x h)*4) else .nilp)∧H=Q5 b0 b1 (A7 cs n (dW 4 cs)) pl dl b12 b13:=by
 have key:=C9 (C:=(⟨Try.prog,G,B⟩:A2)) (K:=Dc Try.prog [] progIb [C3 1814 (G8 [.slice true (.rw 2) 0 n,.ptr (.rw 14) 0,.nilp,.int .i64 (n:Int),.int .i64 0] (B4 G [some ⟨1,.var 31 b0⟩,some ⟨1,.var 32 b1⟩,some ⟨4,.var 21 (A7 cs n (dW 4 cs))⟩,some ⟨2,.var 7 pl⟩,some ⟨1,.row (.var 22 dl) (.lit 0)⟩,some ⟨1,.row (.var 22 dl) (.lit 1)⟩,some ⟨1,.row (.var 22 dl) (.lit 2)⟩,some ⟨1,.row (.var 22 dl) (.lit 3)⟩,some ⟨1,.row (.var 22 dl) (.lit 4)⟩,some ⟨1,.row (.var 22 dl) (.lit 5)⟩,some ⟨1,.row (.var 22 dl) (.lit 6)⟩,some ⟨1,.row (.var 22 dl) (.lit 7)⟩,some ⟨1,.var 33 b12⟩,some ⟨1,.var 34 b13⟩,some ⟨1,.of [.int .i64 (.var 6 x),.bool (.var 9 h)]⟩])) 0 42 [0,3,4,8,9] (.tst (.var 10 (decide ((B2 cs n x h)<n))) (.one .ret [.undef,.undef,.ptr (.rw 2) (.mul (.var 11 (B2 cs n x h)) 4),.undef,.undef] [some ⟨1,.var 31 b0⟩,some ⟨1,.var 32 b1⟩,some ⟨4,.var 21 (A7 cs n (dW 4 cs))⟩,some ⟨2,.var 7 pl⟩,some ⟨1,.row (.var 22 dl) (.lit 0)⟩,some ⟨1,.row (.var 22 dl) (.lit 1)⟩,some ⟨1,.row (.var 22 dl) (.lit 2)⟩,some ⟨1,.row (.var 22 dl) (.lit 3)⟩,some ⟨1,.row (.var 22 dl) (.lit 4)⟩,some ⟨1,.row (.var 22 dl) (.lit 5)⟩,some ⟨1,.row (.var 22 dl) (.lit 6)⟩,some ⟨1,.row (.var 22 dl) (.lit 7)⟩,some ⟨1,.var 33 b12⟩,some ⟨1,.var 34 b13⟩,some ⟨1,.of [.int .i64 (.var 6 x),.bool (.var 9 h)]⟩]) (.one (.exit 0) [.undef,.undef,.nilp,.undef,.undef] [some ⟨1,.var 31 b0⟩,some ⟨1,.var 32 b1⟩,some ⟨4,.var 21 (A7 cs n (dW 4 cs))⟩,some ⟨2,.var 7 pl⟩,some ⟨1,.row (.var 22 dl) (.lit 0)⟩,some ⟨1,.row (.var 22 dl) (.lit 1)⟩,some ⟨1,.row (.var 22 dl) (.lit 2)⟩,some ⟨1,.row (.var 22 dl) (.lit 3)⟩,some ⟨1,.row (.var 22 dl) (.lit 4)⟩,some ⟨1,.row (.var 22 dl) (.lit 5)⟩,some ⟨1,.row (.var 22 dl) (.lit 6)⟩,some ⟨1,.row (.var 22 dl) (.lit 7)⟩,some ⟨1,.var 33 b12⟩,some ⟨1,.var 34 b13⟩,some ⟨1,.of [.int .i64 (.var 6 x),.bool (.var 9 h)]⟩]))] 14) (fuel:=300) (n0:=20) (f:=34) (fn:=Try.f34) (args:=[.slice true (.rw 2) (.lit 0) (.var 3 n),.agg (.of [.int .i64 (.var 6 x),.bool (.var 9 h)])]) (H:=[some ⟨1,.var 31 b0⟩,some ⟨1,.var 32 b1⟩,some ⟨4,.var 21 (A7 cs n (dW 4 cs))⟩,some ⟨2,.var 7 pl⟩,some ⟨1,.row (.var 22 dl) (.lit 0)⟩,some ⟨1,.row (.var 22 dl) (.lit 1)⟩,some ⟨1,.row (.var 22 dl) (.lit 2)⟩,some ⟨1,.row (.var 22 dl) (.lit 3)⟩,some ⟨1,.row (.var 22 dl) (.lit 4)⟩,some ⟨1,.row (.var 22 dl) (.lit 5)⟩,some ⟨1,.row (.var 22 dl) (.lit 6)⟩,some ⟨1,.row (.var 22 dl) (.lit 7)⟩,some ⟨1,.var 33 b12⟩,some ⟨1,.var 34 b13⟩]) (keep:=14)
  (R:=fun v H=>v=(if (B2 cs n x h)<n then .ptr (.rw 2) ((B2 cs n x h)*4) else .nilp)∧H=B4 G [some ⟨1,.var 31 b0⟩,some ⟨1,.var 32 b1⟩,some ⟨4,.var 21 (A7 cs n (dW 4 cs))⟩,some ⟨2,.var 7 pl⟩,some ⟨1,.row (.var 22 dl) (.lit 0)⟩,some ⟨1,.row (.var 22 dl) (.lit 1)⟩,some ⟨1,.row (.var 22 dl) (.lit 2)⟩,some ⟨1,.row (.var 22 dl) (.lit 3)⟩,some ⟨1,.row (.var 22 dl) (.lit 4)⟩,some ⟨1,.row (.var 22 dl) (.lit 5)⟩,some ⟨1,.row (.var 22 dl) (.lit 6)⟩,some ⟨1,.row (.var 22 dl) (.lit 7)⟩,some ⟨1,.var 33 b12⟩,some ⟨1,.var 34 b13⟩]) (I0 (E9 G B) (by kernel_rfl) (N7 G B) (.cast (.cons (i:=0) (by kernel_rfl) rfl (N2 rfl (rT G B b0 b1 pl dl b12 b13 cs n x h h8)) .nil) (by kernel_rfl))) (by kernel_rfl) (by kernel_rfl) (by kernel_rfl) (by
  rw [da_c];refine ⟨D4,fun e=>⟨?_,rfl⟩,fun e=>⟨?_,rfl⟩⟩
  ·exact (if_pos (of_decide_eq_true e)).symm
  ·exact (if_neg (of_decide_eq_false e)).symm)
 rw [hL] at key;refine ACalls.keep (k:=14) key (Nat.le_refl _) (by rw [fA];exact hb) ?_ ?_
 ·rw [fA];split<;>rfl
 ·split<;>simp
end Go.Am
namespace Go.Am
open Go.Proofs
set_option maxRecDepth 100000
theorem mv_r (G:Nat→List AV) (b0 b1 sc pl dl b12 b13:List AV) (j a w m i q:Nat) (by_ v:Int) (Q:Ex→List AV→Hp→Prop) (R:AV→Hp→Prop):vT G Q R (F8 (Df Try.prog [(37,4,8)] [] [] [] 14) 300 20 14 (A4 Try.f13 1) 108 [1,4,5,7,9,11,12,36,37,38,62,63] [.int .i64 (.var 1 by_),.ptr (.rw 1) (.lit 0),.int .i64 (.lit 0),.ptr (.rw 12) (.lit 0),.ptr (.rw 13) (.lit 0),.slice true (.fm 4 8 (.var 11 j)) (.var 12 a) (.var 13 w),.int .u32 (.var 14 v),.slice true (.rw 3) (.lit 0) (.var 4 m),.int .i64 (.ofN (.var 4 m)),.int .i64 (.ofN (.var 8 i)),.int .i64 (.ofN (.var 13 w)),.int .i64 (.ofN (.var 9 q))] [some ⟨1,.var 31 b0⟩,some ⟨1,.var 32 b1⟩,some ⟨4,.var 21 sc⟩,some ⟨2,.var 7 pl⟩,some ⟨1,.row (.var 22 dl) (.lit 0)⟩,some ⟨1,.row (.var 22 dl) (.lit 1)⟩,some ⟨1,.row (.var 22 dl) (.lit 2)⟩,some ⟨1,.row (.var 22 dl) (.lit 3)⟩,some ⟨1,.row (.var 22 dl) (.lit 4)⟩,some ⟨1,.row (.var 22 dl) (.lit 5)⟩,some ⟨1,.row (.var 22 dl) (.lit 6)⟩,some ⟨1,.row (.var 22 dl) (.lit 7)⟩,some ⟨1,.var 33 b12⟩,some ⟨1,.var 34 b13⟩])=(
  (decide ((((q:Nat):Int):Int)<((w:Nat):Int))=true→decide ((0:Int)≤((q:Nat):Int))=true∧decide ((((q:Nat):Int):Int)<((w:Nat):Int))=true∧leB (j+1) (8)=true∧Eh dl [.agg dl,.agg dl,.agg dl,.agg dl,.agg dl,.agg dl,.agg dl,.agg dl]=true∧isI .u8 (A0 dl (j)) (q+a)=true∧decide ((0:Int)≤IntKind.wrap .i64 (8*((q:Nat):Int)))=true∧Q .normal [.int .i64 (by_),.ptr (.rw 1) (0),.int .i64 (0),.ptr (.rw 12) (0),.ptr (.rw 13) (0),.slice true (.rw (4+(j))) (a) (w),.int .u32 (kOr .u32 (v) (Mu .u32 (IntKind.wrap .u32 (A3 (A0 dl (j)) (q+a))) (IntKind.wrap .i64 (8*((q:Nat):Int))))),.slice true (.rw 3) (0) (m),.int .i64 (((m:Nat):Int)),.int .i64 (((i:Nat):Int)),.int .i64 (((w:Nat):Int)),.int .i64 (IntKind.wrap .i64 (((q:Nat):Int)+1))] [some ⟨1,b0⟩,some ⟨1,b1⟩,some ⟨4,sc⟩,some ⟨2,pl⟩,some ⟨1,(A0 dl (0))⟩,some ⟨1,(A0 dl (1))⟩,some ⟨1,(A0 dl (2))⟩,some ⟨1,(A0 dl (3))⟩,some ⟨1,(A0 dl (4))⟩,some ⟨1,(A0 dl (5))⟩,some ⟨1,(A0 dl (6))⟩,some ⟨1,(A0 dl (7))⟩,some ⟨1,b12⟩,some ⟨1,b13⟩])∧(decide ((((q:Nat):Int):Int)<((w:Nat):Int))=false→Q (.exit 2) [.int .i64 (by_),.ptr (.rw 1) (0),.int .i64 (0),.ptr (.rw 12) (0),.ptr (.rw 13) (0),.slice true (.rw (4+(j))) (a) (w),.int .u32 (v),.slice true (.rw 3) (0) (m),.int .i64 (((m:Nat):Int)),.int .i64 (((i:Nat):Int)),.int .i64 (((w:Nat):Int)),.int .i64 (((q:Nat):Int))] [some ⟨1,b0⟩,some ⟨1,b1⟩,some ⟨4,sc⟩,some ⟨2,pl⟩,some ⟨1,(A0 dl (0))⟩,some ⟨1,(A0 dl (1))⟩,some ⟨1,(A0 dl (2))⟩,some ⟨1,(A0 dl (3))⟩,some ⟨1,(A0 dl (4))⟩,some ⟨1,(A0 dl (5))⟩,some ⟨1,(A0 dl (6))⟩,some ⟨1,(A0 dl (7))⟩,some ⟨1,b12⟩,some ⟨1,b13⟩])):=by kernel_rfl
theorem mv_w (G:Nat→List AV) (b0 b1 sc pl dl b12 b13:List AV) (j a w m i q:Nat) (by_ v:Int) (Q:Ex→List AV→Hp→Prop) (R:AV→Hp→Prop):vT G Q R (F8 (Df Try.prog [(37,4,8)] [] [] [] 14) 300 20 14 (A4 Try.f13 2) 108 [1,4,5,7,11,12,36,37,38,89,90] [.int .i64 (.var 1 by_),.ptr (.rw 1) (.lit 0),.int .i64 (.lit 0),.ptr (.rw 12) (.lit 0),.slice true (.fm 4 8 (.var 11 j)) (.var 12 a) (.var 13 w),.int .u32 (.var 14 v),.slice true (.rw 3) (.lit 0) (.var 4 m),.int .i64 (.ofN (.var 4 m)),.int .i64 (.ofN (.var 8 i)),.int .i64 (.ofN (.var 13 w)),.int .i64 (.ofN (.var 9 q))] [some ⟨1,.var 31 b0⟩,some ⟨1,.var 32 b1⟩,some ⟨4,.var 21 sc⟩,some ⟨2,.var 7 pl⟩,some ⟨1,.row (.var 22 dl) (.lit 0)⟩,some ⟨1,.row (.var 22 dl) (.lit 1)⟩,some ⟨1,.row (.var 22 dl) (.lit 2)⟩,some ⟨1,.row (.var 22 dl) (.lit 3)⟩,some ⟨1,.row (.var 22 dl) (.lit 4)⟩,some ⟨1,.row (.var 22 dl) (.lit 5)⟩,some ⟨1,.row (.var 22 dl) (.lit 6)⟩,some ⟨1,.row (.var 22 dl) (.lit 7)⟩,some ⟨1,.var 33 b12⟩,some ⟨1,.var 34 b13⟩])=(
  (decide ((((q:Nat):Int):Int)<((w:Nat):Int))=true→decide ((0:Int)≤IntKind.wrap .i64 (8*((q:Nat):Int)))=true∧decide ((0:Int)≤((q:Nat):Int))=true∧decide ((((q:Nat):Int):Int)<((w:Nat):Int))=true∧leB (j+1) (8)=true∧Eh dl [.agg dl,.agg dl,.agg dl,.agg dl,.agg dl,.agg dl,.agg dl,.agg dl]=true∧leB (j+1) (List.length dl)=true∧leB (q+a+1) (List.length (A0 dl (j)))=true∧
 Q .normal [.int .i64 (by_),.ptr (.rw 1) (0),.int .i64 (0),.ptr (.rw 12) (0),.slice true (.rw (4+(j))) (a) (w),.int .u32 (v),.slice true (.rw 3) (0) (m),.int .i64 (((m:Nat):Int)),.int .i64 (((i:Nat):Int)),.int .i64 (((w:Nat):Int)),.int .i64 (IntKind.wrap .i64 (((q:Nat):Int)+1))] [some ⟨1,b0⟩,some ⟨1,b1⟩,some ⟨4,sc⟩,some ⟨2,pl⟩,some ⟨1,(A0 (P5 dl (j) (B5 (A0 dl (j)) (q+a) (.int .u8 (IntKind.wrap .u8 (Cn .u32 (v) (IntKind.wrap .i64 (8*((q:Nat):Int)))))))) (0))⟩,some ⟨1,(A0 (P5 dl (j) (B5 (A0 dl (j)) (q+a) (.int .u8 (IntKind.wrap .u8 (Cn .u32 (v) (IntKind.wrap .i64 (8*((q:Nat):Int)))))))) (1))⟩,some ⟨1,(A0 (P5 dl (j) (B5 (A0 dl (j)) (q+a) (.int .u8 (IntKind.wrap .u8 (Cn .u32 (v) (IntKind.wrap .i64 (8*((q:Nat):Int)))))))) (2))⟩,some ⟨1,(A0 (P5 dl (j) (B5 (A0 dl (j)) (q+a) (.int .u8 (IntKind.wrap .u8 (Cn .u32 (v) (IntKind.wrap .i64 (8*((q:Nat):Int)))))))) (3))⟩,some ⟨1,(A0 (P5 dl (j) (B5 (A0 dl (j)) (q+a) (.int .u8 (IntKind.wrap .u8 (Cn .u32 (v) (IntKind.wrap .i64 (8*((q:Nat):Int)))))))) (4))⟩,some ⟨1,(A0 (P5 dl (j) (B5 (A0 dl (j)) (q+a) (.int .u8 (IntKind.wrap .u8 (Cn .u32 (v) (IntKind.wrap .i64 (8*((q:Nat):Int)))))))) (5))⟩,some ⟨1,(A0 (P5 dl (j) (B5 (A0 dl (j)) (q+a) (.int .u8 (IntKind.wrap .u8 (Cn .u32 (v) (IntKind.wrap .i64 (8*((q:Nat):Int)))))))) (6))⟩,some ⟨1,(A0 (P5 dl (j) (B5 (A0 dl (j)) (q+a) (.int .u8 (IntKind.wrap .u8 (Cn .u32 (v) (IntKind.wrap .i64 (8*((q:Nat):Int)))))))) (7))⟩,some ⟨1,b12⟩,some ⟨1,b13⟩])∧(decide ((((q:Nat):Int):Int)<((w:Nat):Int))=false→
 Q (.exit 4) [.int .i64 (by_),.ptr (.rw 1) (0),.int .i64 (0),.ptr (.rw 12) (0),.slice true (.rw (4+(j))) (a) (w),.int .u32 (v),.slice true (.rw 3) (0) (m),.int .i64 (((m:Nat):Int)),.int .i64 (((i:Nat):Int)),.int .i64 (((w:Nat):Int)),.int .i64 (((q:Nat):Int))] [some ⟨1,b0⟩,some ⟨1,b1⟩,some ⟨4,sc⟩,some ⟨2,pl⟩,some ⟨1,(A0 dl (0))⟩,some ⟨1,(A0 dl (1))⟩,some ⟨1,(A0 dl (2))⟩,some ⟨1,(A0 dl (3))⟩,some ⟨1,(A0 dl (4))⟩,some ⟨1,(A0 dl (5))⟩,some ⟨1,(A0 dl (6))⟩,some ⟨1,(A0 dl (7))⟩,some ⟨1,b12⟩,some ⟨1,b13⟩])):=by kernel_rfl
theorem rw_r (G:Nat→List AV) (b0 b1 sc pl dl:List AV) (k j a n m:Nat) (by_ s x y v:Int) (h:Bool) (Q:Ex→List AV→Hp→Prop) (R:AV→Hp→Prop):vT G Q R (F8 (Df Try.prog [(37,4,8)] [] progIb [] 14) 300 20 14 (A4 Try.f14 1) 150 [1,2,4,5,6,7,8,9,10,11,12] [.int .i64 (.var 2 by_),.ptr (.rw 0) (.lit 0),.ptr (.rw 1) (.lit 0),.int .i64 (.lit 0),.ptr (.rw 12) (.lit 0),.int .i64 (.ofN (.var 8 k)),.ptr (.rw 13) (.lit 0),.int .i64 (.ofN (.var 11 j)),.int .i64 (.ofN (.var 12 a)),.int .u32 (.var 14 v),.int .i64 (.var 15 y)] [some ⟨1,.var 31 b0⟩,some ⟨1,.var 32 b1⟩,some ⟨4,.var 21 sc⟩,some ⟨2,.var 7 pl⟩,some ⟨1,.row (.var 22 dl) (.lit 0)⟩,some ⟨1,.row (.var 22 dl) (.lit 1)⟩,some ⟨1,.row (.var 22 dl) (.lit 2)⟩,some ⟨1,.row (.var 22 dl) (.lit 3)⟩,some ⟨1,.row (.var 22 dl) (.lit 4)⟩,some ⟨1,.row (.var 22 dl) (.lit 5)⟩,some ⟨1,.row (.var 22 dl) (.lit 6)⟩,some ⟨1,.row (.var 22 dl) (.lit 7)⟩,some ⟨1,.of [.int .i64 (.var 1 s),.slice true (.rw 2) (.lit 0) (.var 3 n),.slice true (.rw 3) (.lit 0) (.var 4 m)]⟩,some ⟨1,.of [.int .i64 (.var 6 x),.bool (.var 9 h)]⟩])=(
  (decide ((y:Int)≥0)=true→decide ((0:Int)≤((j:Nat):Int))=true∧decide ((((j:Nat):Int):Int)<((n:Nat):Int))=true∧Kt 4 8 sc ((j)*4+2)=true∧decide ((0:Int)≤IntKind.wrap .i64 (((a:Nat):Int)+y))=true∧decide ((IntKind.wrap .i64 (((a:Nat):Int)+y):Int)<((Ib sc ((j)*4+2):Nat):Int))=true∧leB (O3 4 sc ((j)*4+2)+1) (8)=true∧Eh dl [.agg dl,.agg dl,.agg dl,.agg dl,.agg dl,.agg dl,.agg dl,.agg dl]=true∧isI .u8 (A0 dl (O3 4 sc ((j)*4+2))) (Int.toNat (IntKind.wrap .i64 (((a:Nat):Int)+y))+Ay sc ((j)*4+2))=true∧Q .normal [.int .i64 (by_),.ptr (.rw 0) (0),.ptr (.rw 1) (0),.int .i64 (0),.ptr (.rw 12) (0),.int .i64 (((k:Nat):Int)),.ptr (.rw 13) (0),.int .i64 (((j:Nat):Int)),.int .i64 (((a:Nat):Int)),.int .u32 (IntKind.wrap .u32 (IntKind.wrap .u32 (v*256)+IntKind.wrap .u32 (A3 (A0 dl (O3 4 sc ((j)*4+2))) (Int.toNat (IntKind.wrap .i64 (((a:Nat):Int)+y))+Ay sc ((j)*4+2))))),.int .i64 (IntKind.wrap .i64 (y - 1))] [some ⟨1,b0⟩,some ⟨1,b1⟩,some ⟨4,sc⟩,some ⟨2,pl⟩,some ⟨1,(A0 dl (0))⟩,some ⟨1,(A0 dl (1))⟩,some ⟨1,(A0 dl (2))⟩,some ⟨1,(A0 dl (3))⟩,some ⟨1,(A0 dl (4))⟩,some ⟨1,(A0 dl (5))⟩,some ⟨1,(A0 dl (6))⟩,some ⟨1,(A0 dl (7))⟩,some ⟨1,([.int .i64 (s),.slice true (.rw 2) (0) (n),.slice true (.rw 3) (0) (m)]:List AV)⟩,some ⟨1,([.int .i64 (x),.bool (h)]:List AV)⟩])∧(decide ((y:Int)≥0)=false→
 Q (.exit 2) [.int .i64 (by_),.ptr (.rw 0) (0),.ptr (.rw 1) (0),.int .i64 (0),.ptr (.rw 12) (0),.int .i64 (((k:Nat):Int)),.ptr (.rw 13) (0),.int .i64 (((j:Nat):Int)),.int .i64 (((a:Nat):Int)),.int .u32 (v),.int .i64 (y)] [some ⟨1,b0⟩,some ⟨1,b1⟩,some ⟨4,sc⟩,some ⟨2,pl⟩,some ⟨1,(A0 dl (0))⟩,some ⟨1,(A0 dl (1))⟩,some ⟨1,(A0 dl (2))⟩,some ⟨1,(A0 dl (3))⟩,some ⟨1,(A0 dl (4))⟩,some ⟨1,(A0 dl (5))⟩,some ⟨1,(A0 dl (6))⟩,some ⟨1,(A0 dl (7))⟩,some ⟨1,([.int .i64 (s),.slice true (.rw 2) (0) (n),.slice true (.rw 3) (0) (m)]:List AV)⟩,some ⟨1,([.int .i64 (x),.bool (h)]:List AV)⟩])):=by kernel_rfl
theorem rw_w (G:Nat→List AV) (b0 b1 sc pl dl:List AV) (k j a n m q:Nat) (by_ s x v:Int) (h:Bool) (Q:Ex→List AV→Hp→Prop) (R:AV→Hp→Prop):vT G Q R (F8 (Df Try.prog [(37,4,8)] [] progIb [] 14) 300 20 14 (A4 Try.f14 2) 150 [1,2,4,5,6,7,8,9,10,11,13] [.int .i64 (.var 2 by_),.ptr (.rw 0) (.lit 0),.ptr (.rw 1) (.lit 0),.int .i64 (.lit 0),.ptr (.rw 12) (.lit 0),.int .i64 (.ofN (.var 8 k)),.ptr (.rw 13) (.lit 0),.int .i64 (.ofN (.var 11 j)),.int .i64 (.ofN (.var 12 a)),.int .u32 (.var 14 v),.int .i64 (.ofN (.var 13 q))] [some ⟨1,.var 31 b0⟩,some ⟨1,.var 32 b1⟩,some ⟨4,.var 21 sc⟩,some ⟨2,.var 7 pl⟩,some ⟨1,.row (.var 22 dl) (.lit 0)⟩,some ⟨1,.row (.var 22 dl) (.lit 1)⟩,some ⟨1,.row (.var 22 dl) (.lit 2)⟩,some ⟨1,.row (.var 22 dl) (.lit 3)⟩,some ⟨1,.row (.var 22 dl) (.lit 4)⟩,some ⟨1,.row (.var 22 dl) (.lit 5)⟩,some ⟨1,.row (.var 22 dl) (.lit 6)⟩,some ⟨1,.row (.var 22 dl) (.lit 7)⟩,some ⟨1,.of [.int .i64 (.var 1 s),.slice true (.rw 2) (.lit 0) (.var 3 n),.slice true (.rw 3) (.lit 0) (.var 4 m)]⟩,some ⟨1,.of [.int .i64 (.var 6 x),.bool (.var 9 h)]⟩])=(
  (decide ((((q:Nat):Int):Int)<Y0 [.bool (h)])=true→decide ((0:Int)≤((j:Nat):Int))=true∧decide ((((j:Nat):Int):Int)<((n:Nat):Int))=true∧Kt 4 8 sc ((j)*4+2)=true∧decide ((0:Int)≤IntKind.wrap .i64 (((a:Nat):Int)+((q:Nat):Int)))=true∧decide ((IntKind.wrap .i64 (((a:Nat):Int)+((q:Nat):Int)):Int)<((Ib sc ((j)*4+2):Nat):Int))=true∧leB (O3 4 sc ((j)*4+2)+1) (8)=true∧Eh dl [.agg dl,.agg dl,.agg dl,.agg dl,.agg dl,.agg dl,.agg dl,.agg dl]=true∧leB (O3 4 sc ((j)*4+2)+1) (List.length dl)=true∧leB (Int.toNat (IntKind.wrap .i64 (((a:Nat):Int)+((q:Nat):Int)))+Ay sc ((j)*4+2)+1) (List.length (A0 dl (O3 4 sc ((j)*4+2))))=true∧
 Q .normal [.int .i64 (by_),.ptr (.rw 0) (0),.ptr (.rw 1) (0),.int .i64 (0),.ptr (.rw 12) (0),.int .i64 (((k:Nat):Int)),.ptr (.rw 13) (0),.int .i64 (((j:Nat):Int)),.int .i64 (((a:Nat):Int)),.int .u32 (IntKind.wrap .u32 (Int.tdiv (v) (256))),.int .i64 (IntKind.wrap .i64 (((q:Nat):Int)+1))] [some ⟨1,b0⟩,some ⟨1,b1⟩,some ⟨4,sc⟩,some ⟨2,pl⟩,some ⟨1,(A0 (P5 dl (O3 4 sc ((j)*4+2)) (B5 (A0 dl (O3 4 sc ((j)*4+2))) (Int.toNat (IntKind.wrap .i64 (((a:Nat):Int)+((q:Nat):Int)))+Ay sc ((j)*4+2)) (.int .u8 (IntKind.wrap .u8 (v))))) (0))⟩,some ⟨1,(A0 (P5 dl (O3 4 sc ((j)*4+2)) (B5 (A0 dl (O3 4 sc ((j)*4+2))) (Int.toNat (IntKind.wrap .i64 (((a:Nat):Int)+((q:Nat):Int)))+Ay sc ((j)*4+2)) (.int .u8 (IntKind.wrap .u8 (v))))) (1))⟩,some ⟨1,(A0 (P5 dl (O3 4 sc ((j)*4+2)) (B5 (A0 dl (O3 4 sc ((j)*4+2))) (Int.toNat (IntKind.wrap .i64 (((a:Nat):Int)+((q:Nat):Int)))+Ay sc ((j)*4+2)) (.int .u8 (IntKind.wrap .u8 (v))))) (2))⟩,some ⟨1,(A0 (P5 dl (O3 4 sc ((j)*4+2)) (B5 (A0 dl (O3 4 sc ((j)*4+2))) (Int.toNat (IntKind.wrap .i64 (((a:Nat):Int)+((q:Nat):Int)))+Ay sc ((j)*4+2)) (.int .u8 (IntKind.wrap .u8 (v))))) (3))⟩,some ⟨1,(A0 (P5 dl (O3 4 sc ((j)*4+2)) (B5 (A0 dl (O3 4 sc ((j)*4+2))) (Int.toNat (IntKind.wrap .i64 (((a:Nat):Int)+((q:Nat):Int)))+Ay sc ((j)*4+2)) (.int .u8 (IntKind.wrap .u8 (v))))) (4))⟩,some ⟨1,(A0 (P5 dl (O3 4 sc ((j)*4+2)) (B5 (A0 dl (O3 4 sc ((j)*4+2))) (Int.toNat (IntKind.wrap .i64 (((a:Nat):Int)+((q:Nat):Int)))+Ay sc ((j)*4+2)) (.int .u8 (IntKind.wrap .u8 (v))))) (5))⟩,some ⟨1,(A0 (P5 dl (O3 4 sc ((j)*4+2)) (B5 (A0 dl (O3 4 sc ((j)*4+2))) (Int.toNat (IntKind.wrap .i64 (((a:Nat):Int)+((q:Nat):Int)))+Ay sc ((j)*4+2)) (.int .u8 (IntKind.wrap .u8 (v))))) (6))⟩,some ⟨1,(A0 (P5 dl (O3 4 sc ((j)*4+2)) (B5 (A0 dl (O3 4 sc ((j)*4+2))) (Int.toNat (IntKind.wrap .i64 (((a:Nat):Int)+((q:Nat):Int)))+Ay sc ((j)*4+2)) (.int .u8 (IntKind.wrap .u8 (v))))) (7))⟩,some ⟨1,([.int .i64 (s),.slice true (.rw 2) (0) (n),.slice true (.rw 3) (0) (m)]:List AV)⟩,some ⟨1,([.int .i64 (x),.bool (h)]:List AV)⟩])∧
 (decide ((((q:Nat):Int):Int)<Y0 [.bool (h)])=false→Q (.exit 4) [.int .i64 (by_),.ptr (.rw 0) (0),.ptr (.rw 1) (0),.int .i64 (0),.ptr (.rw 12) (0),.int .i64 (((k:Nat):Int)),.ptr (.rw 13) (0),.int .i64 (((j:Nat):Int)),.int .i64 (((a:Nat):Int)),.int .u32 (v),.int .i64 (((q:Nat):Int))] [some ⟨1,b0⟩,some ⟨1,b1⟩,some ⟨4,sc⟩,some ⟨2,pl⟩,some ⟨1,(A0 dl (0))⟩,some ⟨1,(A0 dl (1))⟩,some ⟨1,(A0 dl (2))⟩,some ⟨1,(A0 dl (3))⟩,some ⟨1,(A0 dl (4))⟩,some ⟨1,(A0 dl (5))⟩,some ⟨1,(A0 dl (6))⟩,some ⟨1,(A0 dl (7))⟩,some ⟨1,([.int .i64 (s),.slice true (.rw 2) (0) (n),.slice true (.rw 3) (0) (m)]:List AV)⟩,some ⟨1,([.int .i64 (x),.bool (h)]:List AV)⟩])):=by kernel_rfl
end Go.Am
namespace Go.Am
open Go.Proofs
set_option maxRecDepth 100000
def K5 (b:List Nat):List AV:=b.map fun (x:Nat)=>.int .u8 (x:Int)
def V3 (b:List Nat):Prop:=∀ x∈b,x<256
def bN (b:List Nat) (o:Nat):Nat:=b.getD o 0
theorem iP {b:List Nat} {o:Nat} (h:V3 b):bN b o<256:=by
 unfold bN;rw [List.getD_eq_getElem?_getD]
 match e:b[o]? with
 | none=>exact Nat.zero_lt_succ _
 | some x=>exact h x (List.mem_of_getElem? e)
theorem Jr {b:List Nat}:(K5 b).length=b.length:=by simp [K5]
theorem fR {b:List Nat} {o:Nat} (h:o<b.length):(K5 b)[o]?=some (.int .u8 (bN b o:Int)):=by
 unfold K5 bN;rw [List.getElem?_map,List.getD_eq_getElem?_getD,List.getElem?_eq_getElem h];rfl
theorem fQ {b:List Nat} {o:Nat} (h:o<b.length):isI .u8 (K5 b) o=true:=by unfold isI;rw [fR h];rfl
theorem cH {b:List Nat} {o:Nat} (h:o<b.length):A3 (K5 b) o=(bN b o:Int):=by unfold A3;rw [fR h]
theorem fP {b:List Nat} {o x:Nat}:B5 (K5 b) o (.int .u8 (x:Int))=K5 (b.set o x):=by
 show (K5 b).set o _=_;unfold K5;rw [List.map_set]
theorem Le {n:Nat} {b:List Nat}:A5 n (K5 b)=true:=by
 rw [J5,List.all_eq_true];intro v hv;obtain ⟨x,_,rfl⟩:=List.mem_map.1 hv;rfl
theorem cG {b:List Nat}:∀ v∈K5 b,E6 v=true:=fun v hv=>by
 obtain ⟨x,_,rfl⟩:=List.mem_map.1 hv;rfl
theorem sG {b:List Nat} {o x:Nat} (h:V3 b) (hx:x<256):V3 (b.set o x):=fun y hy=>by
 rcases List.mem_or_eq_of_mem_set hy with h1 | rfl
 ·exact h y h1
 ·exact hx
def leN (b:List Nat) (a:Nat):Nat→Nat
 | 0=>0
 | q+1=>leN b a q+bN b (a+q)*256^q
theorem aP {b:List Nat} {a:Nat} (h:V3 b):∀ q,leN b a q<256^q
 | 0=>Nat.zero_lt_one
 | q+1=>by
  have h1:=aP (a:=a) h q;have h2:=iP (o:=a+q) h;have h3:bN b (a+q)*256^q≤255*256^q:=Nat.mul_le_mul_right _ (by omega);rw [leN,Nat.pow_succ];omega
theorem eY {b:List Nat}:∀ (q a:Nat),leN b a (q+1)=bN b a+256*leN b (a+1) q
 | 0,a=>by simp [leN]
 | q+1,a=>by
  rw [leN,eY q a,leN,Nat.mul_add,Nat.add_assoc,show a+1+q=a+(q+1) by omega,Nat.pow_succ,Nat.mul_comm (256^q) 256,Nat.mul_left_comm]
def M4 (b:List Nat) (a v:Nat):Nat→List Nat
 | 0=>b
 | q+1=>(M4 b a v q).set (a+q) (v / 256^q % 256)
theorem Nu {b:List Nat} {a v:Nat}:∀ q,(M4 b a v q).length=b.length
 | 0=>rfl
 | q+1=>by rw [M4,List.length_set,Nu q]
theorem jA {b:List Nat} {a v:Nat} (h:V3 b):∀ q,V3 (M4 b a v q)
 | 0=>h
 | q+1=>sG (jA h q) (Nat.mod_lt _ (by omega))
def updD (D:Nat→List Nat) (j:Nat) (b:List Nat):Nat→List Nat:=fun i=>if i=j then b else D i
theorem Tw {D:Nat→List Nat} {j:Nat} {b:List Nat}:updD D j b j=b:=if_pos rfl
theorem Yv {D:Nat→List Nat} {j:Nat} {b c:List Nat}:updD (updD D j b) j c=updD D j c:=by
 funext i;unfold updD;by_cases h:i=j
 ·rw [if_pos h,if_pos h]
 ·rw [if_neg h,if_neg h,if_neg h]
theorem Vv {D:Nat→List Nat} {j:Nat}:updD D j (D j)=D:=by
 funext i;unfold updD;by_cases h:i=j
 ·rw [if_pos h,h]
 ·rw [if_neg h]
def A1 (D:Nat→List Nat):List AV:=(List.range 8).map fun j=>.agg (K5 (D j))
theorem Wd {D:Nat→List Nat}:(A1 D).length=8:=by simp [A1]
theorem Z4 {D:Nat→List Nat} {j:Nat} (h:j<8):A0 (A1 D) j=K5 (D j):=by
 unfold A0 A1;rw [List.getElem?_map,List.getElem?_range h];rfl
theorem Wc {D:Nat→List Nat} {j:Nat} {b:List Nat} (h:j<8):P5 (A1 D) j (K5 b)=A1 (updD D j b):=by
 unfold P5 A1;refine List.ext_getElem? fun i=>?_;rw [List.getElem?_set];by_cases e:j=i
 ·subst e;rw [if_pos rfl,if_pos (by simpa using h),List.getElem?_map,List.getElem?_range h];simp only [Option.map_some,Tw]
 ·rw [if_neg e,List.getElem?_map,List.getElem?_map];by_cases f:i<8
  ·rw [List.getElem?_range f];simp only [Option.map_some,updD,if_neg (fun h:i=j=>e h.symm)]
  ·rw [List.getElem?_eq_none (by simpa using f)];rfl
theorem Fs {D:Nat→List Nat}:Eh (A1 D) [.agg (A1 D),.agg (A1 D),.agg (A1 D),.agg (A1 D),.agg (A1 D),.agg (A1 D),.agg (A1 D),.agg (A1 D)]=true:=by
 refine Wf.2 fun v hv=>?_;simp only [List.mem_cons,List.not_mem_nil,or_false,or_self] at hv;exact hv
theorem Yx (n:Int):IntKind.u32.wrap n=n % 4294967296:=by
 simp only [IntKind.wrap,IntKind.signed,IntKind.bits,Bool.false_and,Bool.false_eq_true,if_false];omega
theorem Er {n:Int} (h:0≤n∧n≤4294967295):IntKind.u32.wrap n=n:=by rw [Yx];omega
theorem pC (n:Int):IntKind.u8.wrap n=n % 256:=by
 simp only [IntKind.wrap,IntKind.signed,IntKind.bits,Bool.false_and,Bool.false_eq_true,if_false];omega
theorem nG {q:Nat} (h:q≤3):256^q≤16777216:=by
 match q,h with
 | 0,_=>decide
 | 1,_=>decide
 | 2,_=>decide
 | 3,_=>decide
theorem dN (k:Nat):(2:Int)^(8*k)=((256^k:Nat):Int):=by
 rw [Int.pow_mul]
 have:(2:Int)^8=256:=by decide
 rw [this];simp
theorem tB {q d:Nat} (h:q≤3) (hd:d<256):Mu .u32 (d:Int) ((8*q:Nat):Int)=((d*256^q:Nat):Int):=by
 unfold Mu
 have:min ((8*q:Nat):Int).toNat IntKind.u32.bits=8*q:=by
  show min ((8*q:Nat):Int).toNat 32=8*q;omega
 rw [this,dN,←Int.natCast_mul,Er];have h1:=nG h;have h2:d*256^q≤255*16777216:=Nat.mul_le_mul (by omega) h1;omega
theorem or_by {q d acc:Nat} (h:q≤3) (hd:d<256) (ha:acc<256^q):kOr .u32 (acc:Int) ((d*256^q:Nat):Int)=((acc+d*256^q:Nat):Int):=by
 have h1:=nG h;have h2:d*256^q≤255*256^q:=Nat.mul_le_mul_right _ (by omega);show IntKind.u32.wrap (((BitVec.ofInt 32 (acc:Int) ||| BitVec.ofInt 32 ((d*256^q:Nat):Int)).toNat:Nat):Int)=_;have e1:(BitVec.ofInt 32 (acc:Int)).toNat=acc:=by rw [BitVec.toNat_ofInt];omega
 have e2:(BitVec.ofInt 32 ((d*256^q:Nat):Int)).toNat=d*256^q:=by rw [BitVec.toNat_ofInt];omega
 rw [BitVec.toNat_or,e1,e2];have e3:(256:Nat)^q=2^(8*q):=by rw [Nat.pow_mul]
 have e4:=Nat.two_pow_add_eq_or_of_lt (i:=8*q) (b:=acc) (by rw [←e3];exact ha) d;rw [←e3] at e4
 have e5:acc ||| d*256^q=acc+d*256^q:=by
  rw [Nat.or_comm,Nat.mul_comm,←e4,Nat.add_comm]
 rw [e5,Er (by omega)]
theorem tA {q v:Nat} (h:q≤3):IntKind.wrap .u8 (Cn .u32 (v:Int) ((8*q:Nat):Int))=((v / 256^q % 256:Nat):Int):=by
 unfold Cn
 have:min ((8*q:Nat):Int).toNat IntKind.u32.bits=8*q:=by
  show min ((8*q:Nat):Int).toNat 32=8*q;omega
 rw [this,dN,Int.fdiv_eq_ediv_of_nonneg _ (Int.natCast_nonneg _),pC]
 norm_cast
theorem rG {b:List Nat} {a q:Nat} (h:q≤3) (hb:V3 b):kOr .u32 (leN b a q:Int) (Mu .u32 (IntKind.wrap .u32 (bN b (a+q):Int)) (IntKind.wrap .i64 (8*((q:Nat):Int))))=(leN b a (q+1):Int):=by
 have hx:=iP (o:=a+q) hb;rw [show (8:Int)*(q:Int)=((8*q:Nat):Int) by omega,B6 (by omega),Er (by omega),tB h hx,or_by h hx (aP hb q)];rfl
theorem sI {b:List Nat} {a q:Nat} (h:q≤3) (hb:V3 b):IntKind.wrap .u32 (IntKind.wrap .u32 ((leN b (a+1) q:Int)*256)+IntKind.wrap .u32 (bN b a:Int))=(leN b a (q+1):Int):=by
 have hx:=iP (o:=a) hb;have h1:=aP (a:=a+1) hb q;have h2:=nG h;rw [eY,Er (n:=(bN b a:Int)) (by omega),Er (n:=(leN b (a+1) q:Int)*256) (by omega),Er (by omega)];omega
theorem oI {v:Nat} (h:v≤4294967295):IntKind.wrap .u32 (Int.tdiv (v:Int) 256)=((v / 256:Nat):Int):=by
 have:Int.tdiv (v:Int) 256=((v / 256:Nat):Int):=by rw [Int.tdiv_eq_ediv_of_nonneg (by omega)];omega
 rw [this,Er (by omega)]
end Go.Am
namespace Go.Am
open Go.Proofs
set_option maxRecDepth 100000
theorem mv_rd (G:Nat→List AV) (B:Nat) (b0 b1 sc pl b12 b13:List AV) (D:Nat→List Nat) (j a w m i:Nat) (by_:Int) (hj:j<8) (hw:w≤4) (hb:V3 (D j)) (ha:a+w≤(D j).length):AWp (⟨Try.prog,G,B⟩:A2) 14 (.loop (A4 Try.f13 1)) (fl 108 [1,4,5,7,9,11,12,36,37,38,62,63] [.int .i64 by_,.ptr (.rw 1) 0,.int .i64 0,.ptr (.rw 12) 0,.ptr (.rw 13) 0,.slice true (.rw (4+j)) a w,.int .u32 0,.slice true (.rw 3) 0 m,.int .i64 (m:Int),.int .i64 (i:Int),.int .i64 (w:Int),.int .i64 0]) (Q5 b0 b1 sc pl (A1 D) b12 b13) (lv 108 [1,4,5,7,9,11,12,36,37,38,62,63] fun e vs H=>e=.exit 2∧wk [.int .i64 by_,.ptr (.rw 1) 0,.int .i64 0,.ptr (.rw 12) 0,.ptr (.rw 13) 0,.slice true (.rw (4+j)) a w,.int .u32 (leN (D j) a w:Int),.slice true (.rw 3) 0 m,.int .i64 (m:Int),.int .i64 (i:Int),.undef,.undef] vs∧H=Q5 b0 b1 sc pl (A1 D) b12 b13):=by
 refine S0 w (fun q=>[.int .i64 by_,.ptr (.rw 1) 0,.int .i64 0,.ptr (.rw 12) 0,.ptr (.rw 13) 0,.slice true (.rw (4+j)) a w,.int .u32 (leN (D j) a q:Int),.slice true (.rw 3) 0 m,.int .i64 (m:Int),.int .i64 (i:Int),.int .i64 (w:Int),.int .i64 (q:Int)]) (fun _=>Q5 b0 b1 sc pl (A1 D) b12 b13) fun q hq=>?_
 refine D3 (C:=(⟨Try.prog,G,B⟩:A2)) (K:=Df Try.prog [(37,4,8)] [] [] [] 14) (by rw [show A8 (A4 Try.f13 1)=[] by kernel_rfl];exact K9 (E9 G B) (by kernel_rfl) .nil .nil) (fuel:=300) (n0:=20) (m:=14) (c:=A4 Try.f13 1) (vs:=[.int .i64 (.var 1 by_),.ptr (.rw 1) (.lit 0),.int .i64 (.lit 0),.ptr (.rw 12) (.lit 0),.ptr (.rw 13) (.lit 0),.slice true (.fm 4 8 (.var 11 j)) (.var 12 a) (.var 13 w),.int .u32 (.var 14 (leN (D j) a q:Int)),.slice true (.rw 3) (.lit 0) (.var 4 m),.int .i64 (.ofN (.var 4 m)),.int .i64 (.ofN (.var 8 i)),.int .i64 (.ofN (.var 13 w)),.int .i64 (.ofN (.var 9 q))]) (H:=[some ⟨1,.var 31 b0⟩,some ⟨1,.var 32 b1⟩,some ⟨4,.var 21 sc⟩,some ⟨2,.var 7 pl⟩,some ⟨1,.row (.var 22 (A1 D)) (.lit 0)⟩,some ⟨1,.row (.var 22 (A1 D)) (.lit 1)⟩,some ⟨1,.row (.var 22 (A1 D)) (.lit 2)⟩,some ⟨1,.row (.var 22 (A1 D)) (.lit 3)⟩,some ⟨1,.row (.var 22 (A1 D)) (.lit 4)⟩,some ⟨1,.row (.var 22 (A1 D)) (.lit 5)⟩,some ⟨1,.row (.var 22 (A1 D)) (.lit 6)⟩,some ⟨1,.row (.var 22 (A1 D)) (.lit 7)⟩,some ⟨1,.var 33 b12⟩,some ⟨1,.var 34 b13⟩]) (Nat.le_refl _) ?_
 rw [mv_r];refine ⟨fun h1=>?_,fun h1=>?_⟩
 ·have hqw:q<w:=by have:=of_decide_eq_true h1;omega
  have lt:q+a<(D j).length:=by omega
  rw [Z4 hj,cH lt,Nat.add_comm q a,rG (by omega) hb,B6 (n:=(q:Int)+1) (by omega)];refine ⟨decide_eq_true (by omega),h1,C6.2 (by omega),Fs,fQ (by omega),?_,hqw,.inl ⟨rfl,rfl⟩⟩;exact decide_eq_true (by rw [B6 (by omega)];omega)
 ·have:q=w:=by have:=of_decide_eq_false h1;omega
  subst this;exact ⟨rfl,by simp [wk],rfl⟩
theorem mv_wr (G:Nat→List AV) (B:Nat) (b0 b1 sc pl b12 b13:List AV) (D:Nat→List Nat) (j a w m i v:Nat) (by_:Int) (hj:j<8) (hw:w≤4) (ha:a+w≤(D j).length):AWp (⟨Try.prog,G,B⟩:A2) 14 (.loop (A4 Try.f13 2)) (fl 108 [1,4,5,7,11,12,36,37,38,89,90] [.int .i64 by_,.ptr (.rw 1) 0,.int .i64 0,.ptr (.rw 12) 0,.slice true (.rw (4+j)) a w,.int .u32 (v:Int),.slice true (.rw 3) 0 m,.int .i64 (m:Int),.int .i64 (i:Int),.int .i64 (w:Int),.int .i64 0]) (Q5 b0 b1 sc pl (A1 D) b12 b13) (lv 108 [1,4,5,7,11,12,36,37,38,89,90] fun e vs H=>e=.exit 4∧wk [.int .i64 by_,.ptr (.rw 1) 0,.int .i64 0,.ptr (.rw 12) 0,.undef,.undef,.slice true (.rw 3) 0 m,.int .i64 (m:Int),.int .i64 (i:Int),.undef,.undef] vs∧H=Q5 b0 b1 sc pl (A1 (updD D j (M4 (D j) a v w))) b12 b13):=by
 have e0:Q5 b0 b1 sc pl (A1 D) b12 b13=Q5 b0 b1 sc pl (A1 (updD D j (M4 (D j) a v 0))) b12 b13:=by rw [M4,Vv]
 rw [e0];refine S0 w (fun q=>[.int .i64 by_,.ptr (.rw 1) 0,.int .i64 0,.ptr (.rw 12) 0,.slice true (.rw (4+j)) a w,.int .u32 (v:Int),.slice true (.rw 3) 0 m,.int .i64 (m:Int),.int .i64 (i:Int),.int .i64 (w:Int),.int .i64 (q:Int)]) (fun q=>Q5 b0 b1 sc pl (A1 (updD D j (M4 (D j) a v q))) b12 b13) fun q hq=>?_;generalize hE:updD D j (M4 (D j) a v q)=E
 refine D3 (C:=(⟨Try.prog,G,B⟩:A2)) (K:=Df Try.prog [(37,4,8)] [] [] [] 14) (by rw [show A8 (A4 Try.f13 2)=[] by kernel_rfl];exact K9 (E9 G B) (by kernel_rfl) .nil .nil) (fuel:=300) (n0:=20) (m:=14) (c:=A4 Try.f13 2) (vs:=[.int .i64 (.var 1 by_),.ptr (.rw 1) (.lit 0),.int .i64 (.lit 0),.ptr (.rw 12) (.lit 0),.slice true (.fm 4 8 (.var 11 j)) (.var 12 a) (.var 13 w),.int .u32 (.var 14 (v:Int)),.slice true (.rw 3) (.lit 0) (.var 4 m),.int .i64 (.ofN (.var 4 m)),.int .i64 (.ofN (.var 8 i)),.int .i64 (.ofN (.var 13 w)),.int .i64 (.ofN (.var 9 q))]) (H:=[some ⟨1,.var 31 b0⟩,some ⟨1,.var 32 b1⟩,some ⟨4,.var 21 sc⟩,some ⟨2,.var 7 pl⟩,some ⟨1,.row (.var 22 (A1 E)) (.lit 0)⟩,some ⟨1,.row (.var 22 (A1 E)) (.lit 1)⟩,some ⟨1,.row (.var 22 (A1 E)) (.lit 2)⟩,some ⟨1,.row (.var 22 (A1 E)) (.lit 3)⟩,some ⟨1,.row (.var 22 (A1 E)) (.lit 4)⟩,some ⟨1,.row (.var 22 (A1 E)) (.lit 5)⟩,some ⟨1,.row (.var 22 (A1 E)) (.lit 6)⟩,some ⟨1,.row (.var 22 (A1 E)) (.lit 7)⟩,some ⟨1,.var 33 b12⟩,some ⟨1,.var 34 b13⟩]) (Nat.le_refl _) ?_
 rw [mv_w];have hEj:E j=M4 (D j) a v q:=by rw [←hE];exact Tw
 refine ⟨fun h1=>?_,fun h1=>?_⟩
 ·have hqw:q<w:=by have:=of_decide_eq_true h1;omega
  have e1:IntKind.wrap .i64 (8*((q:Nat):Int))=((8*q:Nat):Int):=by rw [B6 (by omega)];omega
  rw [Z4 hj,e1,tA (by omega),fP,Wc hj,B6 (n:=(q:Int)+1) (by omega)];refine ⟨decide_eq_true (by omega),decide_eq_true (by omega),h1,C6.2 (by omega),Fs,C6.2 (by rw [Wd];omega),C6.2 (by rw [Jr,hEj,Nu];omega),hqw,.inl ⟨rfl,?_⟩⟩
  have e2:updD E j ((E j).set (q+a) (v / 256^q % 256))=updD D j (M4 (D j) a v (q+1)):=by
   rw [hEj,←hE,Yv,M4,Nat.add_comm q a]
  rw [e2];rfl
 ·have:q=w:=by have:=of_decide_eq_false h1;omega
  subst this;exact ⟨rfl,by simp [wk],by rw [hE];rfl⟩
end Go.Am
