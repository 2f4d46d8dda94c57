/-
  Images: the document's Same: a round over the sections. Images: which are the same: the loops.
-/
import Derived.Test.YthejjolnlngahaaPart11
import Derived.Test.YthejjolnlngahaaBase5
import Derived.Test.YthejjolnlngahaaBase6
namespace Go.Am
open Go.Proofs
set_option maxRecDepth 100000
def H9 (G:Nat→List AV) (cs:List AV) (k:Nat):List AV:=A7 (G (C9 cs (k*4+2))) (E5 cs (k*4+2)) (B9 cs (k*4+2))
def Bh (G:Nat→List AV) (cs:List AV) (k:Nat):Bool:=leB (E5 cs (k*4+2)+B9 cs (k*4+2)) (List.length (G (C9 cs (k*4+2))))&&u8s (H9 G cs k)
def S6 (G:Nat→List AV) (cs cs2:List AV) (k:Nat):Bool:=(sA cs k==sA cs2 k)&&((sR cs k==sR cs2 k)&&((O4 (H9 G cs k)==O4 (H9 G cs2 k))&&(sZ cs k==sZ cs2 k)))
def Gn (G:Nat→List AV) (cs:List AV) (k:Nat):Blk:=⟨1,[.int .i64 (A0 cs (k*4)),.int .i64 (A0 cs (k*4+1)),.slice true (.ro (C9 cs (k*4+2))) (E5 cs (k*4+2)) (B9 cs (k*4+2)),.int .i64 (A0 cs (k*4+3))]⟩
theorem dgR (G:Nat→List AV) (B:Nat) {c:Code} (h:loopsOf c=[]):DGood (⟨Try.prog,G,B⟩:A2) (Dc Try.prog [] [] [] 2) (loopsOf c):=by rw [h];exact D3 (O1 G B) (by kernel_rfl) .nil .nil
theorem rest_1 (G:Nat→List AV) (B:Nat) (s s2:Int) (k k2 n n2 kp kp2 m m2 i:Nat) (cs cs2:List AV) (d1:Bh G cs i=true) (d2:Bh G cs2 i=true):AWp (⟨Try.prog,G,B⟩:A2) 2 (I2 (Tw (Dl (I2 (A5 Try.f15 0))))) (fl 95 [2,3,4,5,6,7] [.ptr (.rw 0) 0,.ptr (.rw 1) 0,.bool false,.int .i64 (i:Int),.ptr (.rw 2) 0,.ptr (.rw 3) 0]) [some ⟨1,[.int .i64 s,.slice true (.ro k) 0 n,.slice true (.ro kp) 0 m]⟩,some ⟨1,[.int .i64 s2,.slice true (.ro k2) 0 n2,.slice true (.ro kp2) 0 m2]⟩,some (Gn G cs i),some (Gn G cs2 i)] (lv 95 [2,3,4,5,6,7] fun e vs H=>((e=.normal∧S6 G cs cs2 i=true)∨(e=.ret∧S6 G cs cs2 i=false))∧(∃ x y,vs=[.ptr (.rw 0) 0,.ptr (.rw 1) 0,.bool false,.int .i64 (i:Int),x,y])∧∃ X,H=[some ⟨1,[.int .i64 s,.slice true (.ro k) 0 n,.slice true (.ro kp) 0 m]⟩,some ⟨1,[.int .i64 s2,.slice true (.ro k2) 0 n2,.slice true (.ro kp2) 0 m2]⟩]++X):=by
 unfold Bh at d1 d2;rw [Bool.and_eq_true] at d1 d2
 refine D4 (C:=(⟨Try.prog,G,B⟩:A2)) (dgR G B (by kernel_rfl)) (fuel:=300) (n0:=20) (m:=2) (vs:=[.ptr (.rw 0) (.lit 0),.ptr (.rw 1) (.lit 0),.bool (.lit false),.int .i64 (.ofN (.var 8 i)),.ptr (.rw 2) (.lit 0),.ptr (.rw 3) (.lit 0)]) (H:=[some ⟨1,.of [.int .i64 (.var 4 s),.slice true (.ro (.var 1 k)) (.lit 0) (.var 2 n),.slice true (.ro (.var 5 kp)) (.lit 0) (.var 6 m)]⟩,some ⟨1,.of [.int .i64 (.var 10 s2),.slice true (.ro (.var 3 k2)) (.lit 0) (.var 9 n2),.slice true (.ro (.var 7 kp2)) (.lit 0) (.var 31 m2)]⟩,some ⟨1,.of [.int .i64 (.var 11 (A0 cs (i*4))),.int .i64 (.var 12 (A0 cs (i*4+1))),.slice true (.ro (.var 13 (C9 cs (i*4+2)))) (.var 14 (E5 cs (i*4+2))) (.var 15 (B9 cs (i*4+2))),.int .i64 (.var 16 (A0 cs (i*4+3)))]⟩,some ⟨1,.of [.int .i64 (.var 21 (A0 cs2 (i*4))),.int .i64 (.var 22 (A0 cs2 (i*4+1))),.slice true (.ro (.var 23 (C9 cs2 (i*4+2)))) (.var 24 (E5 cs2 (i*4+2))) (.var 25 (B9 cs2 (i*4+2))),.int .i64 (.var 26 (A0 cs2 (i*4+3)))]⟩]) (by simp) ?_
 rw [ry_1];have tl:(∃ x y,([.ptr (.rw 0) 0,.ptr (.rw 1) 0,.bool false,.int .i64 (i:Int),.ptr (.rw 2) 0,.ptr (.rw 3) 0]:List AV)=[.ptr (.rw 0) 0,.ptr (.rw 1) 0,.bool false,.int .i64 (i:Int),x,y])∧∃ X,([some ⟨1,[.int .i64 s,.slice true (.ro k) 0 n,.slice true (.ro kp) 0 m]⟩,some ⟨1,[.int .i64 s2,.slice true (.ro k2) 0 n2,.slice true (.ro kp2) 0 m2]⟩,some (Gn G cs i),some (Gn G cs2 i)]:Hp)=[some ⟨1,[.int .i64 s,.slice true (.ro k) 0 n,.slice true (.ro kp) 0 m]⟩,some ⟨1,[.int .i64 s2,.slice true (.ro k2) 0 n2,.slice true (.ro kp2) 0 m2]⟩]++X:=⟨⟨_,_,rfl⟩,_,rfl⟩
 refine ⟨fun h1=>⟨fun h2=>⟨d1.1,d1.2,d2.1,d2.2,fun h3=>⟨fun h4=>⟨.inl ⟨rfl,?_⟩,tl⟩,fun h4=>⟨.inr ⟨rfl,?_⟩,tl⟩⟩,fun h3=>⟨.inr ⟨rfl,?_⟩,tl⟩⟩,fun h2=>⟨.inr ⟨rfl,?_⟩,tl⟩⟩,fun h1=>⟨.inr ⟨rfl,?_⟩,tl⟩⟩
 all_goals unfold S6 sA sR sZ H9
 ·rw [h1,h2,h3,h4];rfl
 ·rw [h1,h2,h3,h4];rfl
 ·rw [h1,h2,h3];rfl
 ·rw [h1,h2];rfl
 ·rw [h1];rfl
theorem rest_2 (G:Nat→List AV) (B:Nat) (s s2:Int) (k k2 n n2 kp kp2 m m2 i:Nat) (cs cs2:List AV) (d1:Bh G cs i=true) (d2:Bh G cs2 i=true):AWp (⟨Try.prog,G,B⟩:A2) 2 (I2 (Tw (Dl (I2 (A5 Try.f15 0))))) (fl 95 [2,3,4,5,6,7] [.ptr (.rw 0) 0,.ptr (.rw 1) 0,.bool false,.int .i64 (i:Int),.ptr (.rw 3) 0,.ptr (.rw 2) 0]) [some ⟨1,[.int .i64 s,.slice true (.ro k) 0 n,.slice true (.ro kp) 0 m]⟩,some ⟨1,[.int .i64 s2,.slice true (.ro k2) 0 n2,.slice true (.ro kp2) 0 m2]⟩,some (Gn G cs2 i),some (Gn G cs i)] (lv 95 [2,3,4,5,6,7] fun e vs H=>((e=.normal∧S6 G cs cs2 i=true)∨(e=.ret∧S6 G cs cs2 i=false))∧(∃ x y,vs=[.ptr (.rw 0) 0,.ptr (.rw 1) 0,.bool false,.int .i64 (i:Int),x,y])∧∃ X,H=[some ⟨1,[.int .i64 s,.slice true (.ro k) 0 n,.slice true (.ro kp) 0 m]⟩,some ⟨1,[.int .i64 s2,.slice true (.ro k2) 0 n2,.slice true (.ro kp2) 0 m2]⟩]++X):=by
 unfold Bh at d1 d2;rw [Bool.and_eq_true] at d1 d2
 refine D4 (C:=(⟨Try.prog,G,B⟩:A2)) (dgR G B (by kernel_rfl)) (fuel:=300) (n0:=20) (m:=2) (vs:=[.ptr (.rw 0) (.lit 0),.ptr (.rw 1) (.lit 0),.bool (.lit false),.int .i64 (.ofN (.var 8 i)),.ptr (.rw 3) (.lit 0),.ptr (.rw 2) (.lit 0)]) (H:=[some ⟨1,.of [.int .i64 (.var 4 s),.slice true (.ro (.var 1 k)) (.lit 0) (.var 2 n),.slice true (.ro (.var 5 kp)) (.lit 0) (.var 6 m)]⟩,some ⟨1,.of [.int .i64 (.var 10 s2),.slice true (.ro (.var 3 k2)) (.lit 0) (.var 9 n2),.slice true (.ro (.var 7 kp2)) (.lit 0) (.var 31 m2)]⟩,some ⟨1,.of [.int .i64 (.var 21 (A0 cs2 (i*4))),.int .i64 (.var 22 (A0 cs2 (i*4+1))),.slice true (.ro (.var 23 (C9 cs2 (i*4+2)))) (.var 24 (E5 cs2 (i*4+2))) (.var 25 (B9 cs2 (i*4+2))),.int .i64 (.var 26 (A0 cs2 (i*4+3)))]⟩,some ⟨1,.of [.int .i64 (.var 11 (A0 cs (i*4))),.int .i64 (.var 12 (A0 cs (i*4+1))),.slice true (.ro (.var 13 (C9 cs (i*4+2)))) (.var 14 (E5 cs (i*4+2))) (.var 15 (B9 cs (i*4+2))),.int .i64 (.var 16 (A0 cs (i*4+3)))]⟩]) (by simp) ?_
 rw [ry_2];have tl:(∃ x y,([.ptr (.rw 0) 0,.ptr (.rw 1) 0,.bool false,.int .i64 (i:Int),.ptr (.rw 3) 0,.ptr (.rw 2) 0]:List AV)=[.ptr (.rw 0) 0,.ptr (.rw 1) 0,.bool false,.int .i64 (i:Int),x,y])∧∃ X,([some ⟨1,[.int .i64 s,.slice true (.ro k) 0 n,.slice true (.ro kp) 0 m]⟩,some ⟨1,[.int .i64 s2,.slice true (.ro k2) 0 n2,.slice true (.ro kp2) 0 m2]⟩,some (Gn G cs2 i),some (Gn G cs i)]:Hp)=[some ⟨1,[.int .i64 s,.slice true (.ro k) 0 n,.slice true (.ro kp) 0 m]⟩,some ⟨1,[.int .i64 s2,.slice true (.ro k2) 0 n2,.slice true (.ro kp2) 0 m2]⟩]++X:=⟨⟨_,_,rfl⟩,_,rfl⟩
 refine ⟨fun h1=>⟨fun h2=>⟨d1.1,d1.2,d2.1,d2.2,fun h3=>⟨fun h4=>⟨.inl ⟨rfl,?_⟩,tl⟩,fun h4=>⟨.inr ⟨rfl,?_⟩,tl⟩⟩,fun h3=>⟨.inr ⟨rfl,?_⟩,tl⟩⟩,fun h2=>⟨.inr ⟨rfl,?_⟩,tl⟩⟩,fun h1=>⟨.inr ⟨rfl,?_⟩,tl⟩⟩
 all_goals unfold S6 sA sR sZ H9
 ·rw [h1,h2,h3,h4];rfl
 ·rw [h1,h2,h3,h4];rfl
 ·rw [h1,h2,h3];rfl
 ·rw [h1,h2];rfl
 ·rw [h1];rfl
theorem xJ:A5 Try.f15 0=.seq (Dl (A5 Try.f15 0)) (.seq (.block 1 (.seq (.region 6 (cT (A5 Try.f15 0)) true) (I2 (Tw (Dl (I2 (A5 Try.f15 0))))))) (I2 (I2 (A5 Try.f15 0)))):=by kernel_rfl
theorem rO (G:Nat→List AV) (B:Nat) (s s2:Int) (k k2 n n2 kp kp2 m m2 i:Nat) {Q:Ex→List AV→Hp→Prop} (hnn:n=n2) (hn:n≤1000000) (hk:K1 (G k) n=true) (hk2:K1 (G k2) n=true) (hd:i<n→Bh G (G k) i=true) (hd2:i<n→Bh G (G k2) i=true)
  (hA:i<n→S6 G (G k) (G k2) i=true→Q .normal [.ptr (.rw 0) 0,.ptr (.rw 1) 0,.bool false,.int .i64 ((i+1:Nat):Int)] [some ⟨1,[.int .i64 s,.slice true (.ro k) 0 n,.slice true (.ro kp) 0 m]⟩,some ⟨1,[.int .i64 s2,.slice true (.ro k2) 0 n2,.slice true (.ro kp2) 0 m2]⟩]) (hB:i<n→S6 G (G k) (G k2) i=false→∀ X,Q .ret [.ptr (.rw 0) 0,.ptr (.rw 1) 0,.bool false,.int .i64 (i:Int)] ([some ⟨1,[.int .i64 s,.slice true (.ro k) 0 n,.slice true (.ro kp) 0 m]⟩,some ⟨1,[.int .i64 s2,.slice true (.ro k2) 0 n2,.slice true (.ro kp2) 0 m2]⟩]++X)) (hC:¬i<n→Q (.exit 0) [.ptr (.rw 0) 0,.ptr (.rw 1) 0,.bool false,.int .i64 (i:Int)] [some ⟨1,[.int .i64 s,.slice true (.ro k) 0 n,.slice true (.ro kp) 0 m]⟩,some ⟨1,[.int .i64 s2,.slice true (.ro k2) 0 n2,.slice true (.ro kp2) 0 m2]⟩]) :
  AWp (⟨Try.prog,G,B⟩:A2) 2 (A5 Try.f15 0) (fl 95 [2,3,4,5] [.ptr (.rw 0) 0,.ptr (.rw 1) 0,.bool false,.int .i64 (i:Int)]) [some ⟨1,[.int .i64 s,.slice true (.ro k) 0 n,.slice true (.ro kp) 0 m]⟩,some ⟨1,[.int .i64 s2,.slice true (.ro k2) 0 n2,.slice true (.ro kp2) 0 m2]⟩] (lv 95 [2,3,4,5] Q):=by
 rw [xJ];refine AWp.seq (by simp) ?_;refine AWp.lvd (live:=[2,3,4,5]) (N:=95) (Q:=fun e vs H=>((e=.normal∧i<n)∨(e=.exit 0∧¬i<n))∧vs=[.ptr (.rw 0) 0,.ptr (.rw 1) 0,.bool false,.int .i64 (i:Int)]∧H=[some ⟨1,[.int .i64 s,.slice true (.ro k) 0 n,.slice true (.ro kp) 0 m]⟩,some ⟨1,[.int .i64 s2,.slice true (.ro k2) 0 n2,.slice true (.ro kp2) 0 m2]⟩]) ?_ ?_
 ·refine D4 (C:=(⟨Try.prog,G,B⟩:A2)) (dgR G B (by kernel_rfl)) (fuel:=300) (n0:=20) (m:=2) (vs:=[.ptr (.rw 0) (.lit 0),.ptr (.rw 1) (.lit 0),.bool (.lit false),.int .i64 (.ofN (.var 8 i))]) (H:=[some ⟨1,.of [.int .i64 (.var 4 s),.slice true (.ro (.var 1 k)) (.lit 0) (.var 2 n),.slice true (.ro (.var 5 kp)) (.lit 0) (.var 6 m)]⟩,some ⟨1,.of [.int .i64 (.var 10 s2),.slice true (.ro (.var 3 k2)) (.lit 0) (.var 9 n2),.slice true (.ro (.var 7 kp2)) (.lit 0) (.var 31 m2)]⟩]) (by simp) ?_;rw [rx_a]
  exact ⟨fun h=>⟨.inl ⟨rfl,by have:=of_decide_eq_true h;omega⟩,rfl,rfl⟩,fun h=>⟨.inr ⟨rfl,by have:=of_decide_eq_false h;omega⟩,rfl,rfl⟩⟩
 ·rintro e vs H ⟨h1,rfl,rfl⟩;rcases h1 with ⟨rfl,hin⟩ | ⟨rfl,hin⟩
  ·have d1:=hd hin;have d2:=hd2 hin;show AWp (⟨Try.prog,G,B⟩:A2) 2 (.seq (.block 1 (.seq (.region 6 (cT (A5 Try.f15 0)) true) (I2 (Tw (Dl (I2 (A5 Try.f15 0))))))) (I2 (I2 (A5 Try.f15 0)))) (fl 95 [2,3,4,5] [.ptr (.rw 0) 0,.ptr (.rw 1) 0,.bool false,.int .i64 (i:Int)]) [some ⟨1,[.int .i64 s,.slice true (.ro k) 0 n,.slice true (.ro kp) 0 m]⟩,some ⟨1,[.int .i64 s2,.slice true (.ro k2) 0 n2,.slice true (.ro kp2) 0 m2]⟩] (lv 95 [2,3,4,5] Q)
   have fin:∀ e vs H,((e=Ex.normal∧S6 G (G k) (G k2) i=true)∨(e=.ret∧S6 G (G k) (G k2) i=false))∧(∃ x y,vs=[.ptr (.rw 0) 0,.ptr (.rw 1) 0,.bool false,.int .i64 (i:Int),x,y])∧(∃ X,H=([some ⟨1,[.int .i64 s,.slice true (.ro k) 0 n,.slice true (.ro kp) 0 m]⟩,some ⟨1,[.int .i64 s2,.slice true (.ro k2) 0 n2,.slice true (.ro kp2) 0 m2]⟩]:Hp)++X)→Aw 1 (Iz (recW (⟨Try.prog,G,B⟩:A2)) 2 (I2 (I2 (A5 Try.f15 0))) (lv 95 [2,3,4,5] Q)) e (fl 95 [2,3,4,5,6,7] vs) H:=by
    rintro e vs H ⟨h1,⟨x,y,rfl⟩,X,rfl⟩;rcases h1 with ⟨rfl,he⟩ | ⟨rfl,he⟩
    ·show AWp (⟨Try.prog,G,B⟩:A2) 2 (I2 (I2 (A5 Try.f15 0))) (fl 95 [2,3,4,5,6,7] _) _ (lv 95 [2,3,4,5] Q);refine AWp.rd [2,3,4,5] Df ?_;show AWp (⟨Try.prog,G,B⟩:A2) 2 (I2 (I2 (A5 Try.f15 0))) (fl 95 [2,3,4,5] [.ptr (.rw 0) 0,.ptr (.rw 1) 0,.bool false,.int .i64 (i:Int)]) _ (lv 95 [2,3,4,5] Q);refine AWp.forget (by simp) (by simp [J5,A4,A8]) (by simp [A4,A8]) ?_
     refine D4 (C:=(⟨Try.prog,G,B⟩:A2)) (dgR G B (by kernel_rfl)) (fuel:=300) (n0:=20) (m:=2) (vs:=[.ptr (.rw 0) (.lit 0),.ptr (.rw 1) (.lit 0),.bool (.lit false),.int .i64 (.ofN (.var 8 i))]) (H:=[some ⟨1,.of [.int .i64 (.var 4 s),.slice true (.ro (.var 1 k)) (.lit 0) (.var 2 n),.slice true (.ro (.var 5 kp)) (.lit 0) (.var 6 m)]⟩,some ⟨1,.of [.int .i64 (.var 10 s2),.slice true (.ro (.var 3 k2)) (.lit 0) (.var 9 n2),.slice true (.ro (.var 7 kp2)) (.lit 0) (.var 31 m2)]⟩]) (by simp) ?_;rw [rz_1,C4 (by omega)];exact hA hin he
    ·exact hB hin he X
   refine AWp.seq (by simp) (AWp.block (AWp.seq (by simp) ?_));show AWp (⟨Try.prog,G,B⟩:A2) 2 (.region 6 (cT (A5 Try.f15 0)) true) (fl 95 [2,3,4,5,6,7] [.ptr (.rw 0) 0,.ptr (.rw 1) 0,.bool false,.int .i64 (i:Int),.undef,.undef]) [some ⟨1,[.int .i64 s,.slice true (.ro k) 0 n,.slice true (.ro kp) 0 m]⟩,some ⟨1,[.int .i64 s2,.slice true (.ro k2) 0 n2,.slice true (.ro kp2) 0 m2]⟩] _
   refine AWp.lvd (live:=[2,3,4,5,6,7]) (N:=95) (Q:=fun e vs H=>e=.normal∧((vs=[.ptr (.rw 0) 0,.ptr (.rw 1) 0,.bool false,.int .i64 (i:Int),.ptr (.rw 2) 0,.ptr (.rw 3) 0]∧H=[some ⟨1,[.int .i64 s,.slice true (.ro k) 0 n,.slice true (.ro kp) 0 m]⟩,some ⟨1,[.int .i64 s2,.slice true (.ro k2) 0 n2,.slice true (.ro kp2) 0 m2]⟩,some (Gn G (G k) i),some (Gn G (G k2) i)])∨(vs=[.ptr (.rw 0) 0,.ptr (.rw 1) 0,.bool false,.int .i64 (i:Int),.ptr (.rw 3) 0,.ptr (.rw 2) 0]∧H=[some ⟨1,[.int .i64 s,.slice true (.ro k) 0 n,.slice true (.ro kp) 0 m]⟩,some ⟨1,[.int .i64 s2,.slice true (.ro k2) 0 n2,.slice true (.ro kp2) 0 m2]⟩,some (Gn G (G k2) i),some (Gn G (G k) i)]))) ?_ ?_
   ·refine dtwo (C:=(⟨Try.prog,G,B⟩:A2)) (K:=Dc Try.prog [] [] [] 2) (D3 (inl:=[]) (ls:=[]) (M:=2) (O1 G B) (by kernel_rfl) .nil .nil) (fuel:=300) (n0:=20) (m:=2) (i:=10) (j:=11) (vs:=[.ptr (.rw 0) (.lit 0),.ptr (.rw 1) (.lit 0),.bool (.lit false),.int .i64 (.ofN (.var 8 i)),.undef,.undef]) (H:=[some ⟨1,.of [.int .i64 (.var 4 s),.slice true (.ro (.var 1 k)) (.lit 0) (.var 2 n),.slice true (.ro (.var 5 kp)) (.lit 0) (.var 6 m)]⟩,some ⟨1,.of [.int .i64 (.var 10 s2),.slice true (.ro (.var 3 k2)) (.lit 0) (.var 9 n2),.slice true (.ro (.var 7 kp2)) (.lit 0) (.var 31 m2)]⟩]) (by simp) rfl (by kernel_rfl) (by kernel_rfl) ?_ ?_
    ·rw [rx_1];exact ⟨decide_eq_true (by omega),decide_eq_true (by omega),M7 hk hin,decide_eq_true (by omega),decide_eq_true (by omega),M7 hk2 hin,rfl,.inl ⟨rfl,rfl⟩⟩
    ·rw [rx_2];exact ⟨decide_eq_true (by omega),decide_eq_true (by omega),M7 hk hin,decide_eq_true (by omega),decide_eq_true (by omega),M7 hk2 hin,rfl,.inr ⟨rfl,rfl⟩⟩
   ·rintro e vs H ⟨rfl,h⟩;rcases h with ⟨rfl,rfl⟩ | ⟨rfl,rfl⟩
    ·exact AWp.lvd (rest_1 G B s s2 k k2 n n2 kp kp2 m m2 i (G k) (G k2) d1 d2) fin
    ·exact AWp.lvd (rest_2 G B s s2 k k2 n n2 kp kp2 m m2 i (G k) (G k2) d1 d2) fin
  ·exact hC hin
end Go.Am
namespace Go.Am
open Go.Proofs
set_option maxRecDepth 100000
def Gi (G:Nat→List AV) (cs:List AV) (n:Nat):Bool:=G9 (Bh G cs) n
def Bo (ps ps2:List AV) (j:Nat):Bool:=(xP ps j==xP ps2 j)&&(hP ps j==hP ps2 j)
def Ml (G:Nat→List AV):List AV→Bool:=fun xs=>match xs with
 | [.agg cs,.agg cs2,.int _ n]=>G9 (S6 G cs cs2) n.toNat
 | _=>false
def Tb:List AV→Bool:=fun xs=>match xs with
 | [.agg ps,.agg ps2,.int _ m]=>G9 (Bo ps ps2) m.toNat
 | _=>false
theorem Sy {G:Nat→List AV} {cs cs2:List AV} {n:Nat}:Ml G [.agg cs,.agg cs2,.int .i64 (n:Int)]=G9 (S6 G cs cs2) n:=by simp only [Ml,G5]
theorem Xq {cs cs2:List AV} {n:Nat}:Tb [.agg cs,.agg cs2,.int .i64 (n:Int)]=G9 (Bo cs cs2) n:=by simp only [Tb,G5]
def lW (G:Nat→List AV) (cs cs2:List AV) (n nv:Nat):Bool:=Nat.beq n nv&&(Nat.ble n 1000000&&((K1 cs n&&K1 cs2 n)&&(Gi G cs n&&Gi G cs2 n)))
def lX (ps ps2:List AV) (m m2:Nat):Bool:=Nat.beq m m2&&(Nat.ble m 1000000&&(V6 ps m&&V6 ps2 m))
theorem aC {G:Nat→List AV} {cs cs2:List AV} {n nv:Nat}:lW G cs cs2 n nv=true↔n=nv∧n≤1000000∧(K1 cs n=true∧K1 cs2 n=true)∧(Gi G cs n=true∧Gi G cs2 n=true):=by
 unfold lW;simp only [Bool.and_eq_true];exact ⟨fun ⟨h1,h2,h3⟩=>⟨Nat.eq_of_beq_eq_true h1,Nat.le_of_ble_eq_true h2,h3⟩,fun ⟨h1,h2,h3⟩=>⟨by rw [h1];exact Nat.beq_refl _,Nat.ble_eq_true_of_le h2,h3⟩⟩
theorem aD {ps ps2:List AV} {m m2:Nat}:lX ps ps2 m m2=true↔m=m2∧m≤1000000∧(V6 ps m=true∧V6 ps2 m=true):=by
 unfold lX;simp only [Bool.and_eq_true];exact ⟨fun ⟨h1,h2,h3⟩=>⟨Nat.eq_of_beq_eq_true h1,Nat.le_of_ble_eq_true h2,h3⟩,fun ⟨h1,h2,h3⟩=>⟨by rw [h1];exact Nat.beq_refl _,Nat.ble_eq_true_of_le h2,h3⟩⟩
def rsQ (G:Nat→List AV) (s sv:Int) (k k2 n nv kp kp2 m m2:Nat):List AV→Bool:=Ky (lW G (G k) (G k2) n nv) [.ptr (.rw 0) 0,.ptr (.rw 1) 0,.bool false,.int .i64 0] [some ⟨1,[.int .i64 s,.slice true (.ro k) 0 n,.slice true (.ro kp) 0 m]⟩,some ⟨1,[.int .i64 sv,.slice true (.ro k2) 0 nv,.slice true (.ro kp2) 0 m2]⟩]
def rsO (G:Nat→List AV) (s sv:Int) (k k2 n nv kp kp2 m m2:Nat):LOut:=.tst (.uf 1722 (Ml G) [.agg (.ro (.var 1 k)),.agg (.ro (.var 3 k2)),.int .i64 (.ofN (.var 2 n))]) (.one (.exit 0) [.ptr (.rw 0) (.lit 0),.ptr (.rw 1) (.lit 0),.undef,.undef] [some ⟨1,.of [.int .i64 (.var 4 s),.slice true (.ro (.var 1 k)) (.lit 0) (.var 2 n),.slice true (.ro (.var 5 kp)) (.lit 0) (.var 6 m)]⟩,some ⟨1,.of [.int .i64 (.var 10 sv),.slice true (.ro (.var 3 k2)) (.lit 0) (.var 9 nv),.slice true (.ro (.var 7 kp2)) (.lit 0) (.var 31 m2)]⟩]) (.one .ret [.undef,.undef,.bool (.lit false),.undef] [some ⟨1,.of [.int .i64 (.var 4 s),.slice true (.ro (.var 1 k)) (.lit 0) (.var 2 n),.slice true (.ro (.var 5 kp)) (.lit 0) (.var 6 m)]⟩,some ⟨1,.of [.int .i64 (.var 10 sv),.slice true (.ro (.var 3 k2)) (.lit 0) (.var 9 nv),.slice true (.ro (.var 7 kp2)) (.lit 0) (.var 31 m2)]⟩])
def rdQ (G:Nat→List AV) (s sv:Int) (k k2 n nv kp kp2 m m2:Nat):List AV→Bool:=Ky (lX (G kp) (G kp2) m m2) [.ptr (.rw 0) 0,.ptr (.rw 1) 0,.undef,.int .i64 0] [some ⟨1,[.int .i64 s,.slice true (.ro k) 0 n,.slice true (.ro kp) 0 m]⟩,some ⟨1,[.int .i64 sv,.slice true (.ro k2) 0 nv,.slice true (.ro kp2) 0 m2]⟩]
def rdO (s sv:Int) (k k2 n nv kp kp2 m m2:Nat):LOut:=.tst (.uf 1721 Tb [.agg (.ro (.var 5 kp)),.agg (.ro (.var 7 kp2)),.int .i64 (.ofN (.var 6 m))]) (.one (.exit 2) [.undef,.undef,.undef,.undef] [some ⟨1,.of [.int .i64 (.var 4 s),.slice true (.ro (.var 1 k)) (.lit 0) (.var 2 n),.slice true (.ro (.var 5 kp)) (.lit 0) (.var 6 m)]⟩,some ⟨1,.of [.int .i64 (.var 10 sv),.slice true (.ro (.var 3 k2)) (.lit 0) (.var 9 nv),.slice true (.ro (.var 7 kp2)) (.lit 0) (.var 31 m2)]⟩]) (.one .ret [.undef,.undef,.bool (.lit false),.undef] [some ⟨1,.of [.int .i64 (.var 4 s),.slice true (.ro (.var 1 k)) (.lit 0) (.var 2 n),.slice true (.ro (.var 5 kp)) (.lit 0) (.var 6 m)]⟩,some ⟨1,.of [.int .i64 (.var 10 sv),.slice true (.ro (.var 3 k2)) (.lit 0) (.var 9 nv),.slice true (.ro (.var 7 kp2)) (.lit 0) (.var 31 m2)]⟩])
theorem t15 (G:Nat→List AV) (s sv:Int) (k k2 n nv kp kp2 m m2:Nat) (Q:Ex→List AV→Hp→Prop) (R:AV→Hp→Prop):vT G Q R (G6 (Dc Try.prog [] [] [(F9 1723 (rsQ G s sv k k2 n nv kp kp2 m m2) 0 95 [2,3,4,5] (rsO G s sv k k2 n nv kp kp2 m m2)),(F9 1724 (rdQ G s sv k k2 n nv kp kp2 m m2) 2 95 [2,3,4,8] (rdO s sv k k2 n nv kp kp2 m m2))] 2) 300 20 Try.f15 [.agg (.of [.int .i64 (.var 4 s),.slice true (.ro (.var 1 k)) (.lit 0) (.var 2 n),.slice true (.ro (.var 5 kp)) (.lit 0) (.var 6 m)]),.agg (.of [.int .i64 (.var 10 sv),.slice true (.ro (.var 3 k2)) (.lit 0) (.var 9 nv),.slice true (.ro (.var 7 kp2)) (.lit 0) (.var 31 m2)])] [] 0)=(
  (((s:Int)==sv)=true→(((((n:Nat):Int):Int)==((nv:Nat):Int))=true→(((((m:Nat):Int):Int)==((m2:Nat):Int))=true→(rsQ G s sv k k2 n nv kp kp2 m m2) [.agg ([.ptr (.rw 0) (0),.ptr (.rw 1) (0),.bool (false),.int .i64 (0)]:List AV),.agg ([.tup [.int .i64 (1),.agg ([.int .i64 (s),.slice true (.ro (k)) (0) (n),.slice true (.ro (kp)) (0) (m)]:List AV)],.tup [.int .i64 (1),.agg ([.int .i64 (sv),.slice true (.ro (k2)) (0) (nv),.slice true (.ro (kp2)) (0) (m2)]:List AV)]]:List AV)]=true∧((Ml G) [.agg (G (k)),.agg (G (k2)),.int .i64 (((n:Nat):Int))]=true→(rdQ G s sv k k2 n nv kp kp2 m m2) [.agg ([.ptr (.rw 0) (0),.ptr (.rw 1) (0),.undef,.int .i64 (0)]:List AV),.agg ([.tup [.int .i64 (1),.agg ([.int .i64 (s),.slice true (.ro (k)) (0) (n),.slice true (.ro (kp)) (0) (m)]:List AV)],.tup [.int .i64 (1),.agg ([.int .i64 (sv),.slice true (.ro (k2)) (0) (nv),.slice true (.ro (kp2)) (0) (m2)]:List AV)]]:List AV)]=true∧(Tb [.agg (G (kp)),.agg (G (kp2)),.int .i64 (((m:Nat):Int))]=true→R (.bool (true)) [])∧(Tb [.agg (G (kp)),.agg (G (kp2)),.int .i64 (((m:Nat):Int))]=false→R (.bool (false)) []))∧((Ml G) [.agg (G (k)),.agg (G (k2)),.int .i64 (((n:Nat):Int))]=false→R (.bool (false)) []))∧(((((m:Nat):Int):Int)==((m2:Nat):Int))=false→R (.bool (false)) []))∧(((((n:Nat):Int):Int)==((nv:Nat):Int))=false→R (.bool (false)) []))∧(((s:Int)==sv)=false→R (.bool (false)) [])):=by kernel_rfl
end Go.Am
namespace Go.Am
open Go.Proofs
set_option maxRecDepth 100000
theorem rs_e (G:Nat→List AV) (s sv:Int) (k k2 n nv kp kp2 m m2 i:Nat) (Q:Ex→List AV→Hp→Prop) (R:AV→Hp→Prop):vT G Q R (E8 (Dc Try.prog [] [] [] 2) 300 20 2 (A5 Try.f15 1) 95 [2,3,4,8] [.ptr (.rw 0) (.lit 0),.ptr (.rw 1) (.lit 0),.undef,.int .i64 (.ofN (.var 8 i))] [some ⟨1,.of [.int .i64 (.var 4 s),.slice true (.ro (.var 1 k)) (.lit 0) (.var 2 n),.slice true (.ro (.var 5 kp)) (.lit 0) (.var 6 m)]⟩,some ⟨1,.of [.int .i64 (.var 10 sv),.slice true (.ro (.var 3 k2)) (.lit 0) (.var 9 nv),.slice true (.ro (.var 7 kp2)) (.lit 0) (.var 31 m2)]⟩])=(
  (decide ((((i:Nat):Int):Int)<((m:Nat):Int))=true→decide ((0:Int)≤((i:Nat):Int))=true∧decide ((((i:Nat):Int):Int)<((m:Nat):Int))=true∧E2 (G (kp)) ((i)*2) [.int .i64,.bool]=true∧decide ((0:Int)≤((i:Nat):Int))=true∧decide ((((i:Nat):Int):Int)<((m2:Nat):Int))=true∧E2 (G (kp2)) ((i)*2) [.int .i64,.bool]=true∧(((A0 (G (kp)) ((i)*2):Int)==A0 (G (kp2)) ((i)*2))=true→(E7 (G (kp)) ((i)*2+1)=true→(E7 (G (kp2)) ((i)*2+1)=true→Q .normal [.ptr (.rw 0) (0),.ptr (.rw 1) (0),.undef,.int .i64 (IntKind.wrap .i64 (((i:Nat):Int)+1))] [some ⟨1,([.int .i64 (s),.slice true (.ro (k)) (0) (n),.slice true (.ro (kp)) (0) (m)]:List AV)⟩,some ⟨1,([.int .i64 (sv),.slice true (.ro (k2)) (0) (nv),.slice true (.ro (kp2)) (0) (m2)]:List AV)⟩])∧(E7 (G (kp2)) ((i)*2+1)=false→Q .ret [.ptr (.rw 0) (0),.ptr (.rw 1) (0),.bool (false),.int .i64 (((i:Nat):Int))] [some ⟨1,([.int .i64 (s),.slice true (.ro (k)) (0) (n),.slice true (.ro (kp)) (0) (m)]:List AV)⟩,some ⟨1,([.int .i64 (sv),.slice true (.ro (k2)) (0) (nv),.slice true (.ro (kp2)) (0) (m2)]:List AV)⟩]))∧(E7 (G (kp)) ((i)*2+1)=false→(E7 (G (kp2)) ((i)*2+1)=true→Q .ret [.ptr (.rw 0) (0),.ptr (.rw 1) (0),.bool (false),.int .i64 (((i:Nat):Int))] [some ⟨1,([.int .i64 (s),.slice true (.ro (k)) (0) (n),.slice true (.ro (kp)) (0) (m)]:List AV)⟩,some ⟨1,([.int .i64 (sv),.slice true (.ro (k2)) (0) (nv),.slice true (.ro (kp2)) (0) (m2)]:List AV)⟩])∧(E7 (G (kp2)) ((i)*2+1)=false→Q .normal [.ptr (.rw 0) (0),.ptr (.rw 1) (0),.undef,.int .i64 (IntKind.wrap .i64 (((i:Nat):Int)+1))] [some ⟨1,([.int .i64 (s),.slice true (.ro (k)) (0) (n),.slice true (.ro (kp)) (0) (m)]:List AV)⟩,some ⟨1,([.int .i64 (sv),.slice true (.ro (k2)) (0) (nv),.slice true (.ro (kp2)) (0) (m2)]:List AV)⟩])))∧(((A0 (G (kp)) ((i)*2):Int)==A0 (G (kp2)) ((i)*2))=false→
 Q .ret [.ptr (.rw 0) (0),.ptr (.rw 1) (0),.bool (false),.int .i64 (((i:Nat):Int))] [some ⟨1,([.int .i64 (s),.slice true (.ro (k)) (0) (n),.slice true (.ro (kp)) (0) (m)]:List AV)⟩,some ⟨1,([.int .i64 (sv),.slice true (.ro (k2)) (0) (nv),.slice true (.ro (kp2)) (0) (m2)]:List AV)⟩]))∧(decide ((((i:Nat):Int):Int)<((m:Nat):Int))=false→Q (.exit 2) [.ptr (.rw 0) (0),.ptr (.rw 1) (0),.undef,.int .i64 (((i:Nat):Int))] [some ⟨1,([.int .i64 (s),.slice true (.ro (k)) (0) (n),.slice true (.ro (kp)) (0) (m)]:List AV)⟩,some ⟨1,([.int .i64 (sv),.slice true (.ro (k2)) (0) (nv),.slice true (.ro (kp2)) (0) (m2)]:List AV)⟩])):=by kernel_rfl
theorem oJ {ps ps2:List AV} {j:Nat} (h1:(A0 ps (j*2)==A0 ps2 (j*2))=true) (h2:E7 ps (j*2+1)=E7 ps2 (j*2+1)):Bo ps ps2 j=true:=by unfold Bo xP hP;rw [h1,h2];simp
theorem oI {ps ps2:List AV} {j:Nat} (h2:E7 ps (j*2+1)≠E7 ps2 (j*2+1)):Bo ps ps2 j=false:=by unfold Bo xP hP;rw [beq_eq_false_iff_ne.2 h2,Bool.and_false]
theorem plEq_3 {ps ps2:List AV} {j:Nat} (h1:(A0 ps (j*2)==A0 ps2 (j*2))=false):Bo ps ps2 j=false:=by unfold Bo xP hP;rw [h1,Bool.false_and]
theorem fO {G:Nat→List AV} {cs:List AV} {n i:Nat} (h:Gi G cs n=true) (hi:i<n):Bh G cs i=true:=K7.1 h i hi
theorem rsL_ok (G:Nat→List AV) (B:Nat) (s sv:Int) (k k2 n nv kp kp2 m m2:Nat):H5 (⟨Try.prog,G,B⟩:A2) 2 (A5 Try.f15 0) (F9 1723 (rsQ G s sv k k2 n nv kp kp2 m m2) 0 95 [2,3,4,5] (rsO G s sv k k2 n nv kp kp2 m m2)):=by
 refine Bj rfl fun hc=>?_;obtain ⟨hnn,hn,⟨hs,hs2⟩,hd,hd2⟩:=aC.1 hc;refine Bl (K5 (fun j=>!S6 G (G k) (G k2) j) n) (fun i=>[.ptr (.rw 0) 0,.ptr (.rw 1) 0,.bool false,.int .i64 (i:Int)]) (fun _=>[some ⟨1,[.int .i64 s,.slice true (.ro k) 0 n,.slice true (.ro kp) 0 m]⟩,some ⟨1,[.int .i64 sv,.slice true (.ro k2) 0 nv,.slice true (.ro kp2) 0 m2]⟩]) fun i hi=>?_;have hle:K5 (fun j=>!S6 G (G k) (G k2) j) n≤n:=L1.1;refine rO G B s sv k k2 n nv kp kp2 m m2 i hnn hn hs hs2 (fun h=>fO hd h) (fun h=>fO hd2 h) (fun hin he=>?_) (fun hin he X=>?_) fun hin=>?_
 ·exact ⟨Ge hi hin he,.inl ⟨rfl,rfl⟩⟩
 ·refine .inr ⟨?_,rfl,.inr (C2.same (H:=[some ⟨1,[.int .i64 s,.slice true (.ro k) 0 n,.slice true (.ro kp) 0 m]⟩,some ⟨1,[.int .i64 sv,.slice true (.ro k2) 0 nv,.slice true (.ro kp2) 0 m2]⟩]) (by simp) (by simp [J5,A4,A8]) (by simp [fv,A8,vVs,vV,vB]))⟩;show Ml G [.agg (G k),.agg (G k2),.int .i64 (n:Int)]=false;rw [Sy,U9 hin he]
 ·refine .inl ⟨?_,rfl,.inl ⟨by simp [vVs,vV,vR,vN,wk],rfl⟩⟩;show Ml G [.agg (G k),.agg (G k2),.int .i64 (n:Int)]=true;rw [Sy];exact Hr hi (by omega)
theorem rdL_ok (G:Nat→List AV) (B:Nat) (s sv:Int) (k k2 n nv kp kp2 m m2:Nat):H5 (⟨Try.prog,G,B⟩:A2) 2 (A5 Try.f15 1) (F9 1724 (rdQ G s sv k k2 n nv kp kp2 m m2) 2 95 [2,3,4,8] (rdO s sv k k2 n nv kp kp2 m m2)):=by
 refine Bj rfl fun hc=>?_;obtain ⟨rfl,hn,hp,hp2⟩:=aD.1 hc;refine Bl (K5 (fun j=>!Bo (G kp) (G kp2) j) m) (fun i=>[.ptr (.rw 0) 0,.ptr (.rw 1) 0,.undef,.int .i64 (i:Int)]) (fun _=>[some ⟨1,[.int .i64 s,.slice true (.ro k) 0 n,.slice true (.ro kp) 0 m]⟩,some ⟨1,[.int .i64 sv,.slice true (.ro k2) 0 nv,.slice true (.ro kp2) 0 m]⟩]) fun i hi=>?_
 refine D4 (C:=(⟨Try.prog,G,B⟩:A2)) (dgR G B (by kernel_rfl)) (fuel:=300) (n0:=20) (m:=2) (c:=A5 Try.f15 1) (vs:=[.ptr (.rw 0) (.lit 0),.ptr (.rw 1) (.lit 0),.undef,.int .i64 (.ofN (.var 8 i))]) (H:=[some ⟨1,.of [.int .i64 (.var 4 s),.slice true (.ro (.var 1 k)) (.lit 0) (.var 2 n),.slice true (.ro (.var 5 kp)) (.lit 0) (.var 6 m)]⟩,some ⟨1,.of [.int .i64 (.var 10 sv),.slice true (.ro (.var 3 k2)) (.lit 0) (.var 9 nv),.slice true (.ro (.var 7 kp2)) (.lit 0) (.var 31 m)]⟩]) (by simp) ?_;rw [rs_e];have hle:K5 (fun j=>!Bo (G kp) (G kp2) j) m≤m:=L1.1
 have fb:J5 2 [some ⟨1,[.int .i64 s,.slice true (.ro k) 0 n,.slice true (.ro kp) 0 m]⟩,some ⟨1,[.int .i64 sv,.slice true (.ro k2) 0 nv,.slice true (.ro kp2) 0 m]⟩]=true:=by simp [J5,A4,A8]
 refine ⟨fun h1=>?_,fun h1=>?_⟩
 ·have h1':=of_decide_eq_true h1;have hin:i<m:=by omega
  rw [C4 (n:=(i:Int)+1) (by omega)];have no:Bo (G kp) (G kp2) i=false→Tb [.agg (G kp),.agg (G kp2),.int .i64 (m:Int)]=false:=fun h=>by rw [Xq,U9 hin h]
  have yes:Bo (G kp) (G kp2) i=true→i<K5 (fun j=>!Bo (G kp) (G kp2) j) m:=fun h=>Ge hi hin h;refine ⟨decide_eq_true (by omega),h1,(N9 hp hin).1,decide_eq_true (by omega),h1,(N9 hp2 hin).1,fun h2=>⟨fun h3=>⟨fun h4=>?_,fun h4=>?_⟩,fun h3=>⟨fun h4=>?_,fun h4=>?_⟩⟩,fun h2=>?_⟩
  ·exact ⟨yes (oJ h2 (h3.trans h4.symm)),.inl ⟨rfl,rfl⟩⟩
  ·exact .inr ⟨no (oI fun e=>by have:=h3.symm.trans (e.trans h4);simp at this),rfl,.inr (C2.refl (H:=[some ⟨1,[.int .i64 s,.slice true (.ro k) 0 n,.slice true (.ro kp) 0 m]⟩,some ⟨1,[.int .i64 sv,.slice true (.ro k2) 0 nv,.slice true (.ro kp2) 0 m]⟩]) (by simp) fb (by simp [fv,A8,vVs,vV,vB]))⟩
  ·exact .inr ⟨no (oI fun e=>by have:=h3.symm.trans (e.trans h4);simp at this),rfl,.inr (C2.refl (H:=[some ⟨1,[.int .i64 s,.slice true (.ro k) 0 n,.slice true (.ro kp) 0 m]⟩,some ⟨1,[.int .i64 sv,.slice true (.ro k2) 0 nv,.slice true (.ro kp2) 0 m]⟩]) (by simp) fb (by simp [fv,A8,vVs,vV,vB]))⟩
  ·exact ⟨yes (oJ h2 (h3.trans h4.symm)),.inl ⟨rfl,rfl⟩⟩
  ·exact .inr ⟨no (plEq_3 h2),rfl,.inr (C2.refl (H:=[some ⟨1,[.int .i64 s,.slice true (.ro k) 0 n,.slice true (.ro kp) 0 m]⟩,some ⟨1,[.int .i64 sv,.slice true (.ro k2) 0 nv,.slice true (.ro kp2) 0 m]⟩]) (by simp) fb (by simp [fv,A8,vVs,vV,vB]))⟩
 ·have h1':=of_decide_eq_false h1;refine .inl ⟨?_,rfl,.inl ⟨by simp [vVs,vV,wk],rfl⟩⟩;show Tb [.agg (G kp),.agg (G kp2),.int .i64 (m:Int)]=true;rw [Xq];exact Hr hi (by omega)
def kU (ps:List AV) (m:Nat) (ps2:List AV) (m2:Nat):Bool:=Nat.beq m m2&&G9 (Bo ps ps2) m
def kH (G:Nat→List AV) (cs:List AV) (n:Nat) (cs2:List AV) (n2:Nat):Bool:=Nat.beq n n2&&G9 (S6 G cs cs2) n
def Y4 (ps:List AV) (m:Nat):Bool:=V6 ps m&&Nat.ble m 1000000
def W2 (G:Nat→List AV) (cs:List AV) (n:Nat):Bool:=K1 cs n&&(Gi G cs n&&Nat.ble n 1000000)
theorem ieq {n m:Nat}:(((n:Nat):Int)==(m:Int))=Nat.beq n m:=by
 rw [Bool.eq_iff_iff,beq_iff_eq];exact ⟨fun h=>by rw [Int.ofNat_inj.1 h];exact Nat.beq_refl _,fun h=>by rw [Nat.eq_of_beq_eq_true h]⟩
def Dn (G:Nat→List AV) (s:Int) (cs:List AV) (n:Nat) (ps:List AV) (m:Nat) (s2:Int) (cs2:List AV) (n2:Nat) (ps2:List AV) (m2:Nat):Bool:=(s==s2)&&(kU ps m ps2 m2&&kH G cs n cs2 n2)
theorem Mm (G:Nat→List AV) (B:Nat) (s sv:Int) (k k2 n nv kp kp2 m m2:Nat) (h1:W2 G (G k) n=true) (h2:W2 G (G k2) nv=true) (h3:Y4 (G kp) m=true) (h4:Y4 (G kp2) m2=true):ACalls (⟨Try.prog,G,B⟩:A2) 15 [.agg [.int .i64 s,.slice true (.ro k) 0 n,.slice true (.ro kp) 0 m],.agg [.int .i64 sv,.slice true (.ro k2) 0 nv,.slice true (.ro kp2) 0 m2]] [] fun v _=>v=.bool (Dn G s (G k) n (G kp) m sv (G k2) nv (G kp2) m2):=by
 unfold W2 at h1 h2;unfold Y4 at h3 h4;rw [Bool.and_eq_true,Bool.and_eq_true] at h1 h2;rw [Bool.and_eq_true] at h3 h4
 have:=C7 (C:=(⟨Try.prog,G,B⟩:A2)) (fuel:=300) (n0:=20) (f:=15) (fn:=Try.f15) (args:=[.agg (.of [.int .i64 (.var 4 s),.slice true (.ro (.var 1 k)) (.lit 0) (.var 2 n),.slice true (.ro (.var 5 kp)) (.lit 0) (.var 6 m)]),.agg (.of [.int .i64 (.var 10 sv),.slice true (.ro (.var 3 k2)) (.lit 0) (.var 9 nv),.slice true (.ro (.var 7 kp2)) (.lit 0) (.var 31 m2)])]) (H:=[]) (keep:=0)
  (R:=fun v _=>v=.bool (Dn G s (G k) n (G kp) m sv (G k2) nv (G kp2) m2)) (D3 (inl:=[]) (ls:=[(F9 1723 (rsQ G s sv k k2 n nv kp kp2 m m2) 0 95 [2,3,4,5] (rsO G s sv k k2 n nv kp kp2 m m2)),(F9 1724 (rdQ G s sv k k2 n nv kp kp2 m m2) 2 95 [2,3,4,8] (rdO s sv k k2 n nv kp kp2 m m2))]) (M:=2) (O1 G B) (by kernel_rfl) .nil (.cast (.cons (i:=0) (by kernel_rfl) rfl (rsL_ok G B s sv k k2 n nv kp kp2 m m2) (.cons (i:=2) (by kernel_rfl) rfl (rdL_ok G B s sv k k2 n nv kp kp2 m m2) .nil)) (by kernel_rfl))) (by kernel_rfl) (by kernel_rfl) (by kernel_rfl) (by
  rw [t15,Sy,Xq,ieq,ieq];refine ⟨fun e1=>⟨fun e2=>⟨fun e3=>⟨X2 (aC.2 ⟨Nat.eq_of_beq_eq_true e2,Nat.le_of_ble_eq_true h1.2.2,⟨h1.1,by rw [Nat.eq_of_beq_eq_true e2];exact h2.1⟩,h1.2.1,by rw [Nat.eq_of_beq_eq_true e2];exact h2.2.1⟩) rfl rfl,fun e4=>⟨X2 (aD.2 ⟨Nat.eq_of_beq_eq_true e3,Nat.le_of_ble_eq_true h3.2,h3.1,by rw [Nat.eq_of_beq_eq_true e3];exact h4.1⟩) rfl rfl,fun e5=>?_,fun e5=>?_⟩,fun e4=>?_⟩,fun e3=>?_⟩,fun e2=>?_⟩,fun e1=>?_⟩
  all_goals unfold Dn kU kH
  ·rw [e1,e2,e3,e4,e5];rfl
  ·rw [e3,e5];simp
  ·rw [e2,e4];simp
  ·rw [e3];simp
  ·rw [e2];simp
  ·rw [e1];simp)
 exact this.monoK fun v H h=>h
end Go.Am
namespace Go.Am
open Go.Proofs
set_option maxRecDepth 100000
end Go.Am
namespace Go.Am
open Go.Proofs
set_option maxRecDepth 100000
end Go.Am
namespace Go.Am
open Go.Proofs
set_option maxRecDepth 100000
end Go.Am
namespace Go.Am
open Go.Proofs
set_option maxRecDepth 100000
end Go.Am
namespace Go.Am
open Go.Proofs
set_option maxRecDepth 100000
end Go.Am
namespace Go.Am
open Go.Proofs
set_option maxRecDepth 100000
end Go.Am
namespace Go.Am
open Go.Proofs
set_option maxRecDepth 100000
theorem mu_b (G:Nat→List AV) (s:Int) (k n kp m i:Nat) (x:Int) (Q:Ex→List AV→Hp→Prop) (R:AV→Hp→Prop):vT G Q R (E8 (Dc Try.prog [] [] [] 1) 300 20 1 (A5 Try.f10 0) 40 [1,2,3,4] [.ptr (.rw 0) (.lit 0),.bool (.lit false),.int .i64 (.var 8 x),.int .i64 (.ofN (.var 9 i))] [some ⟨1,.of [.int .i64 (.var 4 s),.slice true (.ro (.var 1 k)) (.lit 0) (.var 2 n),.slice true (.ro (.var 5 kp)) (.lit 0) (.var 6 m)]⟩])=(
  (decide ((((i:Nat):Int):Int)<((n:Nat):Int))=true→(decide ((((i:Nat):Int):Int)<20)=true→decide ((0:Int)≤((i:Nat):Int))=true∧decide ((((i:Nat):Int):Int)<((n:Nat):Int))=true∧Gt (G (k)) ((i)*4+2)=true∧Q .normal [.ptr (.rw 0) (0),.bool (false),.int .i64 (IntKind.wrap .i64 (x+(if 99999<((B9 (G (k)) ((i)*4+2):Nat):Int) then 99999 else ((B9 (G (k)) ((i)*4+2):Nat):Int)))),.int .i64 (IntKind.wrap .i64 (((i:Nat):Int)+1))] [some ⟨1,([.int .i64 (s),.slice true (.ro (k)) (0) (n),.slice true (.ro (kp)) (0) (m)]:List AV)⟩])∧(decide ((((i:Nat):Int):Int)<20)=false→Q (.exit 0) [.ptr (.rw 0) (0),.bool (false),.int .i64 (x),.int .i64 (((i:Nat):Int))] [some ⟨1,([.int .i64 (s),.slice true (.ro (k)) (0) (n),.slice true (.ro (kp)) (0) (m)]:List AV)⟩]))∧(decide ((((i:Nat):Int):Int)<((n:Nat):Int))=false→Q (.exit 0) [.ptr (.rw 0) (0),.bool (false),.int .i64 (x),.int .i64 (((i:Nat):Int))] [some ⟨1,([.int .i64 (s),.slice true (.ro (k)) (0) (n),.slice true (.ro (kp)) (0) (m)]:List AV)⟩])):=by kernel_rfl
def Jo (cs:List AV):Nat→Int
 | 0=>0
 | i+1=>IntKind.wrap .i64 (Jo cs i+(if 99999<((B9 cs (i*4+2):Nat):Int) then 99999 else ((B9 cs (i*4+2):Nat):Int)))
def muU:List AV→Int:=fun xs=>match xs with
 | [.agg cs,.int _ n]=>Jo cs (min n.toNat 20)
 | _=>0
def muQ (G:Nat→List AV) (s:Int) (k n kp m:Nat):List AV→Bool:=Ky (K1 (G k) n) [.ptr (.rw 0) 0,.bool false,.int .i64 0,.int .i64 0] [some ⟨1,[.int .i64 s,.slice true (.ro k) 0 n,.slice true (.ro kp) 0 m]⟩]
def muO (s:Int) (k n kp m:Nat):LOut:=.one (.exit 0) [.ptr (.rw 0) (.lit 0),.undef,.int .i64 (.uf 1750 muU [.agg (.ro (.var 1 k)),.int .i64 (.ofN (.var 2 n))]),.undef] [some ⟨1,.of [.int .i64 (.var 4 s),.slice true (.ro (.var 1 k)) (.lit 0) (.var 2 n),.slice true (.ro (.var 5 kp)) (.lit 0) (.var 6 m)]⟩]
theorem t10 (G:Nat→List AV) (s:Int) (k n kp m:Nat) (Q:Ex→List AV→Hp→Prop) (R:AV→Hp→Prop):vT G Q R (G6 (Dc Try.prog [] [] [(F9 1751 (muQ G s k n kp m) 0 40 [1,2,3,4] (muO s k n kp m))] 1) 300 20 Try.f10 [.agg (.of [.int .i64 (.var 4 s),.slice true (.ro (.var 1 k)) (.lit 0) (.var 2 n),.slice true (.ro (.var 5 kp)) (.lit 0) (.var 6 m)])] [] 0)=(
  (muQ G s k n kp m) [.agg ([.ptr (.rw 0) (0),.bool (false),.int .i64 (0),.int .i64 (0)]:List AV),.agg ([.tup [.int .i64 (1),.agg ([.int .i64 (s),.slice true (.ro (k)) (0) (n),.slice true (.ro (kp)) (0) (m)]:List AV)]]:List AV)]=true∧(decide ((((n:Nat):Int):Int)>20)=true→R (.bool (true)) [])∧(decide ((((n:Nat):Int):Int)>20)=false→(decide ((((m:Nat):Int):Int)>1000)=true→R (.bool (true)) [])∧(decide ((((m:Nat):Int):Int)>1000)=false→R (.bool (decide ((muU [.agg (G (k)),.int .i64 (((n:Nat):Int))]:Int)>60000))) []))):=by kernel_rfl
theorem oT {cs:List AV} {n:Nat}:muU [.agg cs,.int .i64 (n:Int)]=Jo cs (min n 20):=by simp only [muU,G5]
theorem muL_ok (G:Nat→List AV) (B:Nat) (s:Int) (k n kp m:Nat):H5 (⟨Try.prog,G,B⟩:A2) 1 (A5 Try.f10 0) (F9 1751 (muQ G s k n kp m) 0 40 [1,2,3,4] (muO s k n kp m)):=by
 refine Bj rfl fun hk=>?_;refine Bl (min n 20) (fun i=>[.ptr (.rw 0) 0,.bool false,.int .i64 (Jo (G k) i),.int .i64 (i:Int)]) (fun _=>[some ⟨1,[.int .i64 s,.slice true (.ro k) 0 n,.slice true (.ro kp) 0 m]⟩]) fun i hi=>?_
 refine D4 (C:=(⟨Try.prog,G,B⟩:A2)) (by rw [show loopsOf (A5 Try.f10 0)=[] by kernel_rfl];exact D3 (inl:=[]) (ls:=[]) (M:=1) (O1 G B) (by kernel_rfl) .nil .nil) (fuel:=300) (n0:=20) (m:=1) (c:=A5 Try.f10 0) (vs:=[.ptr (.rw 0) (.lit 0),.bool (.lit false),.int .i64 (.var 8 (Jo (G k) i)),.int .i64 (.ofN (.var 9 i))]) (H:=[some ⟨1,.of [.int .i64 (.var 4 s),.slice true (.ro (.var 1 k)) (.lit 0) (.var 2 n),.slice true (.ro (.var 5 kp)) (.lit 0) (.var 6 m)]⟩]) (by simp) ?_;rw [mu_b]
 have fin:¬(i<n∧i<20)→(muO s k n kp m).post G 1 (.exit 0) [.ptr (.rw 0) 0,.bool false,.int .i64 (Jo (G k) i),.int .i64 (i:Int)] [some ⟨1,[.int .i64 s,.slice true (.ro k) 0 n,.slice true (.ro kp) 0 m]⟩]:=fun h=>by
  refine ⟨rfl,.inl ⟨?_,rfl⟩⟩;show wk [.ptr (.rw 0) 0,.undef,.int .i64 (muU [.agg (G k),.int .i64 (n:Int)]),.undef] _;rw [oT,show min n 20=i by omega];simp [wk]
 refine ⟨fun h1=>⟨fun h2=>?_,fun h2=>?_⟩,fun h1=>?_⟩
 ·have h1':=of_decide_eq_true h1;have h2':(i:Int)<20:=of_decide_eq_true h2;rw [C4 (n:=(i:Int)+1) (by omega)];exact ⟨decide_eq_true (by omega),h1,(Ze hk (by omega)).2,by omega,.inl ⟨rfl,rfl⟩⟩
 ·have h2':¬(i:Int)<20:=of_decide_eq_false h2;exact fin (by omega)
 ·have h1':=of_decide_eq_false h1;exact fin (by omega)
def Z8 (cs:List AV) (n m:Nat):Bool:=decide (n>20)||(decide (m>1000)||decide (Jo cs (min n 20)>60000))
def Mw:List AV→Bool:=fun xs=>match xs with
 | [.agg cs,.int _ n,.int _ m]=>Z8 cs n.toNat m.toNat
 | _=>false
theorem Mv {cs:List AV} {n m:Nat}:Mw [.agg cs,.int .i64 (n:Int),.int .i64 (m:Int)]=Z8 cs n m:=by simp only [Mw,G5]
def secOkU:List AV→Bool:=fun xs=>match xs with
 | [.agg cs,.int _ n]=>K1 cs n.toNat
 | _=>false
theorem oR (G:Nat→List AV) (B:Nat) (s:Int) (k n kp m:Nat) (hk:K1 (G k) n=true):ACalls (⟨Try.prog,G,B⟩:A2) 10 [.agg [.int .i64 s,.slice true (.ro k) 0 n,.slice true (.ro kp) 0 m]] [] fun v _=>v=.bool (Z8 (G k) n m):=by
 have:=C7 (C:=(⟨Try.prog,G,B⟩:A2)) (fuel:=300) (n0:=20) (f:=10) (fn:=Try.f10) (args:=[.agg (.of [.int .i64 (.var 4 s),.slice true (.ro (.var 1 k)) (.lit 0) (.var 2 n),.slice true (.ro (.var 5 kp)) (.lit 0) (.var 6 m)])]) (H:=[]) (keep:=0)
  (R:=fun v _=>v=.bool (Z8 (G k) n m)) (D3 (inl:=[]) (ls:=[(F9 1751 (muQ G s k n kp m) 0 40 [1,2,3,4] (muO s k n kp m))]) (M:=1) (O1 G B) (by kernel_rfl) .nil (.cast (.cons (i:=0) (by kernel_rfl) rfl (muL_ok G B s k n kp m) .nil) (by kernel_rfl))) (by kernel_rfl) (by kernel_rfl) (by kernel_rfl) (by
  rw [t10,oT];refine ⟨X2 hk rfl rfl,fun h1=>?_,fun h1=>⟨fun h2=>?_,fun h2=>?_⟩⟩
  ·have h1:(n:Int)>20:=of_decide_eq_true h1;unfold Z8;rw [decide_eq_true (p:=n>20) (by omega)];rfl
  ·have h2:(m:Int)>1000:=of_decide_eq_true h2;unfold Z8;rw [decide_eq_true (p:=m>1000) (by omega),Bool.true_or,Bool.or_true]
  ·have h1:¬(n:Int)>20:=of_decide_eq_false h1;have h2:¬(m:Int)>1000:=of_decide_eq_false h2
   unfold Z8;rw [decide_eq_false (p:=n>20) (by omega),decide_eq_false (p:=m>1000) (by omega)];rfl)
 exact this.monoK fun v H h=>h
def muchS:DSum:=fun args _=>match args with
 | [.agg (.of [.int .i64 _,.slice _ (.ro k) (.lit 0) n,.slice _ (.ro _) (.lit 0) m])]=>some (.chk (.uf 1753 secOkU [.agg (.ro k),.int .i64 (.ofN n)]) (.one (.bool (.uf 1752 Mw [.agg (.ro k),.int .i64 (.ofN n),.int .i64 (.ofN m)])) []))
 | _=>none
theorem Tf (G:Nat→List AV) (B:Nat):C5 (⟨Try.prog,G,B⟩:A2) 10 muchS:=by
 intro args H o ho;unfold muchS at ho;split at ho
 ·rename_i s mb k n mb' k' m;simp only [Option.some.injEq] at ho;subst ho;intro hk
  have hk:K1 (G (vN G k)) (vN G n)=true:=by
   have hk:secOkU [.agg (G (vN G k)),.int .i64 (vN G n:Int)]=true:=hk;simpa only [secOkU,G5] using hk
  have key:=ACalls.drop0 (oR G B (vI G s) (vN G k) (vN G n) (vN G k') (vN G m) hk) rfl (by simp);rw [←Mv] at key;refine E0.ro0 (C:=(⟨Try.prog,G,B⟩:A2)) (key.weaken fun ρ vs hv=>?_) (by simp [vVs,vV,vL,vR,A4,A8]) (by simp [vV,A8]);simp only [vVs,vV,vL,vR,vN,VRs,VR] at hv ⊢;obtain ⟨v,vs',e,⟨ws,e2,w1,t1,e3,q1,w2,t2,e4,q2,w3,t3,e5,q3,q4⟩,q6⟩:=hv
  exact ⟨v,vs',e,⟨ws,e2,w1,t1,e3,q1,w2,t2,e4,(by have:=N3 (show VR ρ (.slice mb (.ro (vN G k)) 0 (vN G n)) w2 by simpa only [VR] using q2);simpa only [VR] using this),w3,t3,e5,(by have:=N3 (show VR ρ (.slice mb' (.ro (vN G k')) 0 (vN G m)) w3 by simpa only [VR] using q3);simpa only [VR] using this),q4⟩,q6⟩
 ·simp at ho
end Go.Am
namespace Go.Am
open Go.Proofs
set_option maxRecDepth 100000
end Go.Am
namespace Go.Am
open Go.Proofs
set_option maxRecDepth 100000
end Go.Am
namespace Go.Am
open Go.Proofs
set_option maxRecDepth 100000
def Jc (G:Nat→List AV):List AV→Bool:=fun xs=>match xs with
 | [.int _ s,.agg cs,.int _ n,.agg ps,.int _ m,.int _ sv,.agg cs2,.int _ nv,.agg ps2,.int _ m2]=>Dn G s cs n.toNat ps m.toNat sv cs2 nv.toNat ps2 m2.toNat
 | _=>false
def Le (G:Nat→List AV):List AV→Bool:=fun xs=>match xs with
 | [.int _ _,.agg cs,.int _ n,.agg ps,.int _ m,.int _ _,.agg cs2,.int _ nv,.agg ps2,.int _ m2]=>(W2 G cs n.toNat&&W2 G cs2 nv.toNat)&&(Y4 ps m.toNat&&Y4 ps2 m2.toNat)
 | _=>false
theorem Sz {G:Nat→List AV} {s sv:Int} {cs cs2 ps ps2:List AV} {n m nv m2:Nat}:Jc G [.int .i64 s,.agg cs,.int .i64 (n:Int),.agg ps,.int .i64 (m:Int),.int .i64 sv,.agg cs2,.int .i64 (nv:Int),.agg ps2,.int .i64 (m2:Int)]=Dn G s cs n ps m sv cs2 nv ps2 m2:=by simp only [Jc,G5]
theorem Uq {G:Nat→List AV} {s sv:Int} {cs cs2 ps ps2:List AV} {n m nv m2:Nat}:Le G [.int .i64 s,.agg cs,.int .i64 (n:Int),.agg ps,.int .i64 (m:Int),.int .i64 sv,.agg cs2,.int .i64 (nv:Int),.agg ps2,.int .i64 (m2:Int)]=true↔(W2 G cs n=true∧W2 G cs2 nv=true)∧(Y4 ps m=true∧Y4 ps2 m2=true):=by simp only [Le,G5,Bool.and_eq_true]
def aZ (G:Nat→List AV):DSum:=fun args _=>match args with
 | [.agg (.of [.int .i64 s,.slice _ (.ro k) (.lit 0) n,.slice _ (.ro kp) (.lit 0) m]),.agg (.of [.int .i64 sv,.slice _ (.ro k2) (.lit 0) nv,.slice _ (.ro kp2) (.lit 0) m2])]=>some (.chk (.uf 1760 (Le G) [.int .i64 s,.agg (.ro k),.int .i64 (.ofN n),.agg (.ro kp),.int .i64 (.ofN m),.int .i64 sv,.agg (.ro k2),.int .i64 (.ofN nv),.agg (.ro kp2),.int .i64 (.ofN m2)]) (.one (.bool (.uf 1761 (Jc G) [.int .i64 s,.agg (.ro k),.int .i64 (.ofN n),.agg (.ro kp),.int .i64 (.ofN m),.int .i64 sv,.agg (.ro k2),.int .i64 (.ofN nv),.agg (.ro kp2),.int .i64 (.ofN m2)])) []))
 | _=>none
theorem rE (G:Nat→List AV) (B:Nat) {f:Nat} (hf:∀ (s sv:Int) (k k2 n nv kp kp2 m m2:Nat) (_:W2 G (G k) n=true) (_:W2 G (G k2) nv=true) (_:Y4 (G kp) m=true) (_:Y4 (G kp2) m2=true),ACalls (⟨Try.prog,G,B⟩:A2) f [.agg [.int .i64 s,.slice true (.ro k) 0 n,.slice true (.ro kp) 0 m],.agg [.int .i64 sv,.slice true (.ro k2) 0 nv,.slice true (.ro kp2) 0 m2]] [] fun v _=>v=.bool (Dn G s (G k) n (G kp) m sv (G k2) nv (G kp2) m2)):C5 (⟨Try.prog,G,B⟩:A2) f (aZ G):=by
 intro args H o ho;unfold aZ at ho;split at ho
 ·rename_i s mb k n mb2 kp m sv mb3 k2 nv mb4 kp2 m2;simp only [Option.some.injEq] at ho;subst ho;intro hk;obtain ⟨⟨h1,h2⟩,h3,h4⟩:=Uq.1 hk;have key:=ACalls.drop0 (hf (vI G s) (vI G sv) (vN G k) (vN G k2) (vN G n) (vN G nv) (vN G kp) (vN G kp2) (vN G m) (vN G m2) h1 h2 h3 h4) rfl (by simp);rw [←Sz] at key;refine E0.ro0 (C:=(⟨Try.prog,G,B⟩:A2)) (key.weaken fun ρ vs hv=>?_) (by simp [vVs,vV,vL,vR,A4,A8]) (by simp [vV,A8]);simp only [vVs,vV,vL,vR,vN,VRs,VR] at hv ⊢
  obtain ⟨v,vs',e,⟨ws,e2,w1,t1,e3,q1,w2,t2,e4,q2,w3,t3,e5,q3,q4⟩,v',vs2,e6,⟨us,e7,u1,y1,e8,r1,u2,y2,e9,r2,u3,y3,e10,r3,r4⟩,q6⟩:=hv
  have may:∀ {b:Bool} {r:Ref} {n:Nat} {w:Value},N4 ρ b r 0 n w→N4 ρ true r 0 n w:=fun {b r n w} h=>by
   have:=N3 (show VR ρ (.slice b r 0 n) w by simpa only [VR] using h)
   simpa only [VR] using this
  exact ⟨v,vs',e,⟨ws,e2,w1,t1,e3,q1,w2,t2,e4,may q2,w3,t3,e5,may q3,q4⟩,v',vs2,e6,⟨us,e7,u1,y1,e8,r1,u2,y2,e9,may r2,u3,y3,e10,may r3,r4⟩,q6⟩
 ·simp at ho
theorem nR (G:Nat→List AV) (B:Nat):C5 (⟨Try.prog,G,B⟩:A2) 15 (aZ G):=rE G B fun s sv k k2 n nv kp kp2 m m2 h1 h2 h3 h4=>Mm G B s sv k k2 n nv kp kp2 m m2 h1 h2 h3 h4
def fM (d:Nat) (n:Nat) (X:AV):Prop:=(∃ mb,X=.slice mb (.ro d) 0 n)∨(X=.nils∧n=0)
end Go.Am
namespace Go.Am
open Go.Proofs
set_option maxRecDepth 100000
def aE (z:Nat) (cs:List AV) (o n:Nat):Bool:=(leB (o+n*z) cs.length&&cellsB (A7 cs o (n*z)))&&(Nat.ble n 1000000&&A4 0 (A7 cs o (n*z)))
theorem Dh {z:Nat} {cs:List AV} {o n:Nat}:aE z cs o n=true↔(leB (o+n*z) cs.length=true∧cellsB (A7 cs o (n*z))=true)∧n≤1000000∧A4 0 (A7 cs o (n*z))=true:=by
 simp only [aE,Bool.and_eq_true];exact ⟨fun ⟨h1,h2,h3⟩=>⟨h1,Nat.le_of_ble_eq_true h2,h3⟩,fun ⟨h1,h2,h3⟩=>⟨h1,Nat.ble_eq_true_of_le h2,h3⟩⟩
end Go.Am
namespace Go.Am
open Go.Proofs
set_option maxRecDepth 100000
end Go.Am
namespace Go.Am
open Go.Proofs
set_option maxRecDepth 100000
theorem aH {N m z:Nat} {f:Nat→Nat→AV} (h:∀ a b,a<m→b<z→A8 N (f a b)=true):A4 N (Z5 m z f)=true:=by
 rw [J8,List.all_eq_true];intro v hv;unfold Z5 at hv;obtain ⟨j,hj,rfl⟩:=List.mem_map.1 hv;obtain ⟨h1,h2,_⟩:=bO (List.mem_range.1 hj);exact h _ _ h1 h2
def rC (cs:List AV) (d:Nat→AV) (j:Nat):Nat→AV
 | 0=>.int .i64 (sA cs j)
 | 1=>.int .i64 (sR cs j)
 | 2=>d j
 | _=>.int .i64 (sZ cs j)
def dR (cs:List AV) (j:Nat):AV:=.slice true (.ro (C9 cs (j*4+2))) (E5 cs (j*4+2)) (sN cs j)
def R0 (cs:List AV) (n:Nat) (d:Nat→AV):List AV:=Z5 n 4 (rC cs d)
theorem Qt {cs:List AV} {n:Nat} {d:Nat→AV}:(R0 cs n d).length=n*4:=cG
theorem iH {N:Nat} {cs:List AV} {n:Nat} {d:Nat→AV} (h:∀ j,j<n→A8 N (d j)=true):A4 N (R0 cs n d)=true:=by
 unfold R0;refine aH fun a b ha hb=>?_
 match b,hb with
 | 0,_=>rfl
 | 1,_=>rfl
 | 2,_=>exact h a ha
 | 3,_=>rfl
end Go.Am
