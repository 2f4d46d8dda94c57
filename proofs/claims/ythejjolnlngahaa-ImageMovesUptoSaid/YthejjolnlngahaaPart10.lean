/-
  Images: the document's Same: a round over the sections. Images: which are the same: the loops.
-/
import Derived.Test.YthejjolnlngahaaPart9
namespace Go.Am
open Go.Proofs
set_option maxRecDepth 100000
def N8 (G:Nat→List AV) (cs:List AV) (k:Nat):List AV:=B9 (G (E7 cs (k*4+2))) (G1 cs (k*4+2)) (C2 cs (k*4+2))
def Y4 (G:Nat→List AV) (cs:List AV) (k:Nat):Bool:=leB (G1 cs (k*4+2)+C2 cs (k*4+2)) (List.length (G (E7 cs (k*4+2))))&&u8s (N8 G cs k)
def R6 (G:Nat→List AV) (cs cs2:List AV) (k:Nat):Bool:=(sA cs k==sA cs2 k)&&((sR cs k==sR cs2 k)&&((Ca (N8 G cs k)==Ca (N8 G cs2 k))&&(sZ cs k==sZ cs2 k)))
def Ff (G:Nat→List AV) (cs:List AV) (k:Nat):Blk:=⟨1,[.int .i64 (A3 cs (k*4)),.int .i64 (A3 cs (k*4+1)),.slice true (.ro (E7 cs (k*4+2))) (G1 cs (k*4+2)) (C2 cs (k*4+2)),.int .i64 (A3 cs (k*4+3))]⟩
theorem dgR (G:Nat→List AV) (B:Nat) {c:Code} (h:A8 c=[]):O6 (⟨Try.prog,G,B⟩:A2) (Dc Try.prog [] [] [] 2) (A8 c):=by rw [h];exact I0 (E9 G B) (by kernel_rfl) .nil .nil
theorem tN (G:Nat→List AV) (B:Nat) (s s2:Int) (k k2 n n2 kp kp2 m m2 i:Nat) (cs cs2:List AV) (d1:Y4 G cs i=true) (d2:Y4 G cs2 i=true):AWp (⟨Try.prog,G,B⟩:A2) 2 (I2 (Qx (Cc (I2 (A4 Try.f15 0))))) (fl 95 [2,3,4,5,6,7] [.ptr (.rw 0) 0,.ptr (.rw 1) 0,.bool false,.int .i64 (i:Int),.ptr (.rw 2) 0,.ptr (.rw 3) 0]) [some ⟨1,[.int .i64 s,.slice true (.ro k) 0 n,.slice true (.ro kp) 0 m]⟩,some ⟨1,[.int .i64 s2,.slice true (.ro k2) 0 n2,.slice true (.ro kp2) 0 m2]⟩,some (Ff G cs i),some (Ff G cs2 i)] (lv 95 [2,3,4,5,6,7] fun e vs H=>((e=.normal∧R6 G cs cs2 i=true)∨(e=.ret∧R6 G cs cs2 i=false))∧(∃ x y,vs=[.ptr (.rw 0) 0,.ptr (.rw 1) 0,.bool false,.int .i64 (i:Int),x,y])∧∃ X,H=[some ⟨1,[.int .i64 s,.slice true (.ro k) 0 n,.slice true (.ro kp) 0 m]⟩,some ⟨1,[.int .i64 s2,.slice true (.ro k2) 0 n2,.slice true (.ro kp2) 0 m2]⟩]++X):=by
 unfold Y4 at d1 d2;rw [Bool.and_eq_true] at d1 d2
 refine D3 (C:=(⟨Try.prog,G,B⟩:A2)) (dgR G B (by kernel_rfl)) (fuel:=300) (n0:=20) (m:=2) (vs:=[.ptr (.rw 0) (.lit 0),.ptr (.rw 1) (.lit 0),.bool (.lit false),.int .i64 (.ofN (.var 8 i)),.ptr (.rw 2) (.lit 0),.ptr (.rw 3) (.lit 0)]) (H:=[some ⟨1,.of [.int .i64 (.var 4 s),.slice true (.ro (.var 1 k)) (.lit 0) (.var 2 n),.slice true (.ro (.var 5 kp)) (.lit 0) (.var 6 m)]⟩,some ⟨1,.of [.int .i64 (.var 10 s2),.slice true (.ro (.var 3 k2)) (.lit 0) (.var 9 n2),.slice true (.ro (.var 7 kp2)) (.lit 0) (.var 31 m2)]⟩,some ⟨1,.of [.int .i64 (.var 11 (A3 cs (i*4))),.int .i64 (.var 12 (A3 cs (i*4+1))),.slice true (.ro (.var 13 (E7 cs (i*4+2)))) (.var 14 (G1 cs (i*4+2))) (.var 15 (C2 cs (i*4+2))),.int .i64 (.var 16 (A3 cs (i*4+3)))]⟩,some ⟨1,.of [.int .i64 (.var 21 (A3 cs2 (i*4))),.int .i64 (.var 22 (A3 cs2 (i*4+1))),.slice true (.ro (.var 23 (E7 cs2 (i*4+2)))) (.var 24 (G1 cs2 (i*4+2))) (.var 25 (C2 cs2 (i*4+2))),.int .i64 (.var 26 (A3 cs2 (i*4+3)))]⟩]) (by simp) ?_
 rw [ry_1];have tl:(∃ x y,([.ptr (.rw 0) 0,.ptr (.rw 1) 0,.bool false,.int .i64 (i:Int),.ptr (.rw 2) 0,.ptr (.rw 3) 0]:List AV)=[.ptr (.rw 0) 0,.ptr (.rw 1) 0,.bool false,.int .i64 (i:Int),x,y])∧∃ X,([some ⟨1,[.int .i64 s,.slice true (.ro k) 0 n,.slice true (.ro kp) 0 m]⟩,some ⟨1,[.int .i64 s2,.slice true (.ro k2) 0 n2,.slice true (.ro kp2) 0 m2]⟩,some (Ff G cs i),some (Ff G cs2 i)]:Hp)=[some ⟨1,[.int .i64 s,.slice true (.ro k) 0 n,.slice true (.ro kp) 0 m]⟩,some ⟨1,[.int .i64 s2,.slice true (.ro k2) 0 n2,.slice true (.ro kp2) 0 m2]⟩]++X:=⟨⟨_,_,rfl⟩,_,rfl⟩
 refine ⟨fun h1=>⟨fun h2=>⟨d1.1,d1.2,d2.1,d2.2,fun h3=>⟨fun h4=>⟨.inl ⟨rfl,?_⟩,tl⟩,fun h4=>⟨.inr ⟨rfl,?_⟩,tl⟩⟩,fun h3=>⟨.inr ⟨rfl,?_⟩,tl⟩⟩,fun h2=>⟨.inr ⟨rfl,?_⟩,tl⟩⟩,fun h1=>⟨.inr ⟨rfl,?_⟩,tl⟩⟩
 all_goals unfold R6 sA sR sZ N8
 ·rw [h1,h2,h3,h4];rfl
 ·rw [h1,h2,h3,h4];rfl
 ·rw [h1,h2,h3];rfl
 ·rw [h1,h2];rfl
 ·rw [h1];rfl
theorem tM (G:Nat→List AV) (B:Nat) (s s2:Int) (k k2 n n2 kp kp2 m m2 i:Nat) (cs cs2:List AV) (d1:Y4 G cs i=true) (d2:Y4 G cs2 i=true):AWp (⟨Try.prog,G,B⟩:A2) 2 (I2 (Qx (Cc (I2 (A4 Try.f15 0))))) (fl 95 [2,3,4,5,6,7] [.ptr (.rw 0) 0,.ptr (.rw 1) 0,.bool false,.int .i64 (i:Int),.ptr (.rw 3) 0,.ptr (.rw 2) 0]) [some ⟨1,[.int .i64 s,.slice true (.ro k) 0 n,.slice true (.ro kp) 0 m]⟩,some ⟨1,[.int .i64 s2,.slice true (.ro k2) 0 n2,.slice true (.ro kp2) 0 m2]⟩,some (Ff G cs2 i),some (Ff G cs i)] (lv 95 [2,3,4,5,6,7] fun e vs H=>((e=.normal∧R6 G cs cs2 i=true)∨(e=.ret∧R6 G cs cs2 i=false))∧(∃ x y,vs=[.ptr (.rw 0) 0,.ptr (.rw 1) 0,.bool false,.int .i64 (i:Int),x,y])∧∃ X,H=[some ⟨1,[.int .i64 s,.slice true (.ro k) 0 n,.slice true (.ro kp) 0 m]⟩,some ⟨1,[.int .i64 s2,.slice true (.ro k2) 0 n2,.slice true (.ro kp2) 0 m2]⟩]++X):=by
 unfold Y4 at d1 d2;rw [Bool.and_eq_true] at d1 d2
 refine D3 (C:=(⟨Try.prog,G,B⟩:A2)) (dgR G B (by kernel_rfl)) (fuel:=300) (n0:=20) (m:=2) (vs:=[.ptr (.rw 0) (.lit 0),.ptr (.rw 1) (.lit 0),.bool (.lit false),.int .i64 (.ofN (.var 8 i)),.ptr (.rw 3) (.lit 0),.ptr (.rw 2) (.lit 0)]) (H:=[some ⟨1,.of [.int .i64 (.var 4 s),.slice true (.ro (.var 1 k)) (.lit 0) (.var 2 n),.slice true (.ro (.var 5 kp)) (.lit 0) (.var 6 m)]⟩,some ⟨1,.of [.int .i64 (.var 10 s2),.slice true (.ro (.var 3 k2)) (.lit 0) (.var 9 n2),.slice true (.ro (.var 7 kp2)) (.lit 0) (.var 31 m2)]⟩,some ⟨1,.of [.int .i64 (.var 21 (A3 cs2 (i*4))),.int .i64 (.var 22 (A3 cs2 (i*4+1))),.slice true (.ro (.var 23 (E7 cs2 (i*4+2)))) (.var 24 (G1 cs2 (i*4+2))) (.var 25 (C2 cs2 (i*4+2))),.int .i64 (.var 26 (A3 cs2 (i*4+3)))]⟩,some ⟨1,.of [.int .i64 (.var 11 (A3 cs (i*4))),.int .i64 (.var 12 (A3 cs (i*4+1))),.slice true (.ro (.var 13 (E7 cs (i*4+2)))) (.var 14 (G1 cs (i*4+2))) (.var 15 (C2 cs (i*4+2))),.int .i64 (.var 16 (A3 cs (i*4+3)))]⟩]) (by simp) ?_
 rw [ry_2];have tl:(∃ x y,([.ptr (.rw 0) 0,.ptr (.rw 1) 0,.bool false,.int .i64 (i:Int),.ptr (.rw 3) 0,.ptr (.rw 2) 0]:List AV)=[.ptr (.rw 0) 0,.ptr (.rw 1) 0,.bool false,.int .i64 (i:Int),x,y])∧∃ X,([some ⟨1,[.int .i64 s,.slice true (.ro k) 0 n,.slice true (.ro kp) 0 m]⟩,some ⟨1,[.int .i64 s2,.slice true (.ro k2) 0 n2,.slice true (.ro kp2) 0 m2]⟩,some (Ff G cs2 i),some (Ff G cs i)]:Hp)=[some ⟨1,[.int .i64 s,.slice true (.ro k) 0 n,.slice true (.ro kp) 0 m]⟩,some ⟨1,[.int .i64 s2,.slice true (.ro k2) 0 n2,.slice true (.ro kp2) 0 m2]⟩]++X:=⟨⟨_,_,rfl⟩,_,rfl⟩
 refine ⟨fun h1=>⟨fun h2=>⟨d1.1,d1.2,d2.1,d2.2,fun h3=>⟨fun h4=>⟨.inl ⟨rfl,?_⟩,tl⟩,fun h4=>⟨.inr ⟨rfl,?_⟩,tl⟩⟩,fun h3=>⟨.inr ⟨rfl,?_⟩,tl⟩⟩,fun h2=>⟨.inr ⟨rfl,?_⟩,tl⟩⟩,fun h1=>⟨.inr ⟨rfl,?_⟩,tl⟩⟩
 all_goals unfold R6 sA sR sZ N8
 ·rw [h1,h2,h3,h4];rfl
 ·rw [h1,h2,h3,h4];rfl
 ·rw [h1,h2,h3];rfl
 ·rw [h1,h2];rfl
 ·rw [h1];rfl
theorem qR:A4 Try.f15 0=.seq (Cc (A4 Try.f15 0)) (.seq (.block 1 (.seq (.region 6 (Zo (A4 Try.f15 0)) true) (I2 (Qx (Cc (I2 (A4 Try.f15 0))))))) (I2 (I2 (A4 Try.f15 0)))):=by kernel_rfl
theorem nB (G:Nat→List AV) (B:Nat) (s s2:Int) (k k2 n n2 kp kp2 m m2 i:Nat) {Q:Ex→List AV→Hp→Prop} (hnn:n=n2) (hn:n≤1000000) (hk:I4 (G k) n=true) (hk2:I4 (G k2) n=true) (hd:i<n→Y4 G (G k) i=true) (hd2:i<n→Y4 G (G k2) i=true)
  (hA:i<n→R6 G (G k) (G k2) i=true→Q .normal [.ptr (.rw 0) 0,.ptr (.rw 1) 0,.bool false,.int .i64 ((i+1:Nat):Int)] [some ⟨1,[.int .i64 s,.slice true (.ro k) 0 n,.slice true (.ro kp) 0 m]⟩,some ⟨1,[.int .i64 s2,.slice true (.ro k2) 0 n2,.slice true (.ro kp2) 0 m2]⟩]) (hB:i<n→R6 G (G k) (G k2) i=false→∀ X,Q .ret [.ptr (.rw 0) 0,.ptr (.rw 1) 0,.bool false,.int .i64 (i:Int)] ([some ⟨1,[.int .i64 s,.slice true (.ro k) 0 n,.slice true (.ro kp) 0 m]⟩,some ⟨1,[.int .i64 s2,.slice true (.ro k2) 0 n2,.slice true (.ro kp2) 0 m2]⟩]++X)) (hC:¬i<n→Q (.exit 0) [.ptr (.rw 0) 0,.ptr (.rw 1) 0,.bool false,.int .i64 (i:Int)] [some ⟨1,[.int .i64 s,.slice true (.ro k) 0 n,.slice true (.ro kp) 0 m]⟩,some ⟨1,[.int .i64 s2,.slice true (.ro k2) 0 n2,.slice true (.ro kp2) 0 m2]⟩]) :
  AWp (⟨Try.prog,G,B⟩:A2) 2 (A4 Try.f15 0) (fl 95 [2,3,4,5] [.ptr (.rw 0) 0,.ptr (.rw 1) 0,.bool false,.int .i64 (i:Int)]) [some ⟨1,[.int .i64 s,.slice true (.ro k) 0 n,.slice true (.ro kp) 0 m]⟩,some ⟨1,[.int .i64 s2,.slice true (.ro k2) 0 n2,.slice true (.ro kp2) 0 m2]⟩] (lv 95 [2,3,4,5] Q):=by
 rw [qR];refine AWp.seq (by simp) ?_;refine AWp.lvd (live:=[2,3,4,5]) (N:=95) (Q:=fun e vs H=>((e=.normal∧i<n)∨(e=.exit 0∧¬i<n))∧vs=[.ptr (.rw 0) 0,.ptr (.rw 1) 0,.bool false,.int .i64 (i:Int)]∧H=[some ⟨1,[.int .i64 s,.slice true (.ro k) 0 n,.slice true (.ro kp) 0 m]⟩,some ⟨1,[.int .i64 s2,.slice true (.ro k2) 0 n2,.slice true (.ro kp2) 0 m2]⟩]) ?_ ?_
 ·refine D3 (C:=(⟨Try.prog,G,B⟩:A2)) (dgR G B (by kernel_rfl)) (fuel:=300) (n0:=20) (m:=2) (vs:=[.ptr (.rw 0) (.lit 0),.ptr (.rw 1) (.lit 0),.bool (.lit false),.int .i64 (.ofN (.var 8 i))]) (H:=[some ⟨1,.of [.int .i64 (.var 4 s),.slice true (.ro (.var 1 k)) (.lit 0) (.var 2 n),.slice true (.ro (.var 5 kp)) (.lit 0) (.var 6 m)]⟩,some ⟨1,.of [.int .i64 (.var 10 s2),.slice true (.ro (.var 3 k2)) (.lit 0) (.var 9 n2),.slice true (.ro (.var 7 kp2)) (.lit 0) (.var 31 m2)]⟩]) (by simp) ?_;rw [rx_a]
  exact ⟨fun h=>⟨.inl ⟨rfl,by have:=of_decide_eq_true h;omega⟩,rfl,rfl⟩,fun h=>⟨.inr ⟨rfl,by have:=of_decide_eq_false h;omega⟩,rfl,rfl⟩⟩
 ·rintro e vs H ⟨h1,rfl,rfl⟩;rcases h1 with ⟨rfl,hin⟩ | ⟨rfl,hin⟩
  ·have d1:=hd hin;have d2:=hd2 hin;show AWp (⟨Try.prog,G,B⟩:A2) 2 (.seq (.block 1 (.seq (.region 6 (Zo (A4 Try.f15 0)) true) (I2 (Qx (Cc (I2 (A4 Try.f15 0))))))) (I2 (I2 (A4 Try.f15 0)))) (fl 95 [2,3,4,5] [.ptr (.rw 0) 0,.ptr (.rw 1) 0,.bool false,.int .i64 (i:Int)]) [some ⟨1,[.int .i64 s,.slice true (.ro k) 0 n,.slice true (.ro kp) 0 m]⟩,some ⟨1,[.int .i64 s2,.slice true (.ro k2) 0 n2,.slice true (.ro kp2) 0 m2]⟩] (lv 95 [2,3,4,5] Q)
   have fin:∀ e vs H,((e=Ex.normal∧R6 G (G k) (G k2) i=true)∨(e=.ret∧R6 G (G k) (G k2) i=false))∧(∃ x y,vs=[.ptr (.rw 0) 0,.ptr (.rw 1) 0,.bool false,.int .i64 (i:Int),x,y])∧(∃ X,H=([some ⟨1,[.int .i64 s,.slice true (.ro k) 0 n,.slice true (.ro kp) 0 m]⟩,some ⟨1,[.int .i64 s2,.slice true (.ro k2) 0 n2,.slice true (.ro kp2) 0 m2]⟩]:Hp)++X)→Ad 1 (Hn (recW (⟨Try.prog,G,B⟩:A2)) 2 (I2 (I2 (A4 Try.f15 0))) (lv 95 [2,3,4,5] Q)) e (fl 95 [2,3,4,5,6,7] vs) H:=by
    rintro e vs H ⟨h1,⟨x,y,rfl⟩,X,rfl⟩;rcases h1 with ⟨rfl,he⟩ | ⟨rfl,he⟩
    ·show AWp (⟨Try.prog,G,B⟩:A2) 2 (I2 (I2 (A4 Try.f15 0))) (fl 95 [2,3,4,5,6,7] _) _ (lv 95 [2,3,4,5] Q);refine AWp.rd [2,3,4,5] Fb ?_;show AWp (⟨Try.prog,G,B⟩:A2) 2 (I2 (I2 (A4 Try.f15 0))) (fl 95 [2,3,4,5] [.ptr (.rw 0) 0,.ptr (.rw 1) 0,.bool false,.int .i64 (i:Int)]) _ (lv 95 [2,3,4,5] Q);refine AWp.forget (by simp) (by simp [L1,A5,B0]) (by simp [A5,B0]) ?_
     refine D3 (C:=(⟨Try.prog,G,B⟩:A2)) (dgR G B (by kernel_rfl)) (fuel:=300) (n0:=20) (m:=2) (vs:=[.ptr (.rw 0) (.lit 0),.ptr (.rw 1) (.lit 0),.bool (.lit false),.int .i64 (.ofN (.var 8 i))]) (H:=[some ⟨1,.of [.int .i64 (.var 4 s),.slice true (.ro (.var 1 k)) (.lit 0) (.var 2 n),.slice true (.ro (.var 5 kp)) (.lit 0) (.var 6 m)]⟩,some ⟨1,.of [.int .i64 (.var 10 s2),.slice true (.ro (.var 3 k2)) (.lit 0) (.var 9 n2),.slice true (.ro (.var 7 kp2)) (.lit 0) (.var 31 m2)]⟩]) (by simp) ?_;rw [rz_1,B6 (by omega)];exact hA hin he
    ·exact hB hin he X
   refine AWp.seq (by simp) (AWp.block (AWp.seq (by simp) ?_));show AWp (⟨Try.prog,G,B⟩:A2) 2 (.region 6 (Zo (A4 Try.f15 0)) true) (fl 95 [2,3,4,5,6,7] [.ptr (.rw 0) 0,.ptr (.rw 1) 0,.bool false,.int .i64 (i:Int),.undef,.undef]) [some ⟨1,[.int .i64 s,.slice true (.ro k) 0 n,.slice true (.ro kp) 0 m]⟩,some ⟨1,[.int .i64 s2,.slice true (.ro k2) 0 n2,.slice true (.ro kp2) 0 m2]⟩] _
   refine AWp.lvd (live:=[2,3,4,5,6,7]) (N:=95) (Q:=fun e vs H=>e=.normal∧((vs=[.ptr (.rw 0) 0,.ptr (.rw 1) 0,.bool false,.int .i64 (i:Int),.ptr (.rw 2) 0,.ptr (.rw 3) 0]∧H=[some ⟨1,[.int .i64 s,.slice true (.ro k) 0 n,.slice true (.ro kp) 0 m]⟩,some ⟨1,[.int .i64 s2,.slice true (.ro k2) 0 n2,.slice true (.ro kp2) 0 m2]⟩,some (Ff G (G k) i),some (Ff G (G k2) i)])∨(vs=[.ptr (.rw 0) 0,.ptr (.rw 1) 0,.bool false,.int .i64 (i:Int),.ptr (.rw 3) 0,.ptr (.rw 2) 0]∧H=[some ⟨1,[.int .i64 s,.slice true (.ro k) 0 n,.slice true (.ro kp) 0 m]⟩,some ⟨1,[.int .i64 s2,.slice true (.ro k2) 0 n2,.slice true (.ro kp2) 0 m2]⟩,some (Ff G (G k2) i),some (Ff G (G k) i)]))) ?_ ?_
   ·refine dtwo (C:=(⟨Try.prog,G,B⟩:A2)) (K:=Dc Try.prog [] [] [] 2) (I0 (inl:=[]) (ls:=[]) (M:=2) (E9 G B) (by kernel_rfl) .nil .nil) (fuel:=300) (n0:=20) (m:=2) (i:=10) (j:=11) (vs:=[.ptr (.rw 0) (.lit 0),.ptr (.rw 1) (.lit 0),.bool (.lit false),.int .i64 (.ofN (.var 8 i)),.undef,.undef]) (H:=[some ⟨1,.of [.int .i64 (.var 4 s),.slice true (.ro (.var 1 k)) (.lit 0) (.var 2 n),.slice true (.ro (.var 5 kp)) (.lit 0) (.var 6 m)]⟩,some ⟨1,.of [.int .i64 (.var 10 s2),.slice true (.ro (.var 3 k2)) (.lit 0) (.var 9 n2),.slice true (.ro (.var 7 kp2)) (.lit 0) (.var 31 m2)]⟩]) (by simp) rfl (by kernel_rfl) (by kernel_rfl) ?_ ?_
    ·rw [rx_1];exact ⟨decide_eq_true (by omega),decide_eq_true (by omega),L9 hk hin,decide_eq_true (by omega),decide_eq_true (by omega),L9 hk2 hin,rfl,.inl ⟨rfl,rfl⟩⟩
    ·rw [rx_2];exact ⟨decide_eq_true (by omega),decide_eq_true (by omega),L9 hk hin,decide_eq_true (by omega),decide_eq_true (by omega),L9 hk2 hin,rfl,.inr ⟨rfl,rfl⟩⟩
   ·rintro e vs H ⟨rfl,h⟩;rcases h with ⟨rfl,rfl⟩ | ⟨rfl,rfl⟩
    ·exact AWp.lvd (tN G B s s2 k k2 n n2 kp kp2 m m2 i (G k) (G k2) d1 d2) fin
    ·exact AWp.lvd (tM G B s s2 k k2 n n2 kp kp2 m m2 i (G k) (G k2) d1 d2) fin
  ·exact hC hin
end Go.Am
namespace Go.Am
open Go.Proofs
set_option maxRecDepth 100000
def Cs (G:Nat→List AV) (cs:List AV) (n:Nat):Bool:=F9 (Y4 G cs) n
def Ar (ps ps2:List AV) (j:Nat):Bool:=(xP ps j==xP ps2 j)&&(hP ps j==hP ps2 j)
def Kf (G:Nat→List AV):List AV→Bool:=fun xs=>match xs with
 | [.agg cs,.agg cs2,.int _ n]=>F9 (R6 G cs cs2) n.toNat
 | _=>false
def Pz:List AV→Bool:=fun xs=>match xs with
 | [.agg ps,.agg ps2,.int _ m]=>F9 (Ar ps ps2) m.toNat
 | _=>false
theorem Ps {G:Nat→List AV} {cs cs2:List AV} {n:Nat}:Kf G [.agg cs,.agg cs2,.int .i64 (n:Int)]=F9 (R6 G cs cs2) n:=by simp only [Kf,C4]
theorem Ui {cs cs2:List AV} {n:Nat}:Pz [.agg cs,.agg cs2,.int .i64 (n:Int)]=F9 (Ar cs cs2) n:=by simp only [Pz,C4]
def iJ (G:Nat→List AV) (cs cs2:List AV) (n nv:Nat):Bool:=Nat.beq n nv&&(Nat.ble n 1000000&&((I4 cs n&&I4 cs2 n)&&(Cs G cs n&&Cs G cs2 n)))
def iK (ps ps2:List AV) (m m2:Nat):Bool:=Nat.beq m m2&&(Nat.ble m 1000000&&(R7 ps m&&R7 ps2 m))
theorem Xb {G:Nat→List AV} {cs cs2:List AV} {n nv:Nat}:iJ G cs cs2 n nv=true↔n=nv∧n≤1000000∧(I4 cs n=true∧I4 cs2 n=true)∧(Cs G cs n=true∧Cs G cs2 n=true):=by
 unfold iJ;simp only [Bool.and_eq_true];exact ⟨fun ⟨h1,h2,h3⟩=>⟨Nat.eq_of_beq_eq_true h1,Nat.le_of_ble_eq_true h2,h3⟩,fun ⟨h1,h2,h3⟩=>⟨by rw [h1];exact Nat.beq_refl _,Nat.ble_eq_true_of_le h2,h3⟩⟩
theorem Xc {ps ps2:List AV} {m m2:Nat}:iK ps ps2 m m2=true↔m=m2∧m≤1000000∧(R7 ps m=true∧R7 ps2 m=true):=by
 unfold iK;simp only [Bool.and_eq_true];exact ⟨fun ⟨h1,h2,h3⟩=>⟨Nat.eq_of_beq_eq_true h1,Nat.le_of_ble_eq_true h2,h3⟩,fun ⟨h1,h2,h3⟩=>⟨by rw [h1];exact Nat.beq_refl _,Nat.ble_eq_true_of_le h2,h3⟩⟩
def rsQ (G:Nat→List AV) (s sv:Int) (k k2 n nv kp kp2 m m2:Nat):List AV→Bool:=Jb (iJ G (G k) (G k2) n nv) [.ptr (.rw 0) 0,.ptr (.rw 1) 0,.bool false,.int .i64 0] [some ⟨1,[.int .i64 s,.slice true (.ro k) 0 n,.slice true (.ro kp) 0 m]⟩,some ⟨1,[.int .i64 sv,.slice true (.ro k2) 0 nv,.slice true (.ro kp2) 0 m2]⟩]
def rsO (G:Nat→List AV) (s sv:Int) (k k2 n nv kp kp2 m m2:Nat):LOut:=.tst (.uf 1722 (Kf G) [.agg (.ro (.var 1 k)),.agg (.ro (.var 3 k2)),.int .i64 (.ofN (.var 2 n))]) (.one (.exit 0) [.ptr (.rw 0) (.lit 0),.ptr (.rw 1) (.lit 0),.undef,.undef] [some ⟨1,.of [.int .i64 (.var 4 s),.slice true (.ro (.var 1 k)) (.lit 0) (.var 2 n),.slice true (.ro (.var 5 kp)) (.lit 0) (.var 6 m)]⟩,some ⟨1,.of [.int .i64 (.var 10 sv),.slice true (.ro (.var 3 k2)) (.lit 0) (.var 9 nv),.slice true (.ro (.var 7 kp2)) (.lit 0) (.var 31 m2)]⟩]) (.one .ret [.undef,.undef,.bool (.lit false),.undef] [some ⟨1,.of [.int .i64 (.var 4 s),.slice true (.ro (.var 1 k)) (.lit 0) (.var 2 n),.slice true (.ro (.var 5 kp)) (.lit 0) (.var 6 m)]⟩,some ⟨1,.of [.int .i64 (.var 10 sv),.slice true (.ro (.var 3 k2)) (.lit 0) (.var 9 nv),.slice true (.ro (.var 7 kp2)) (.lit 0) (.var 31 m2)]⟩])
def rdQ (G:Nat→List AV) (s sv:Int) (k k2 n nv kp kp2 m m2:Nat):List AV→Bool:=Jb (iK (G kp) (G kp2) m m2) [.ptr (.rw 0) 0,.ptr (.rw 1) 0,.undef,.int .i64 0] [some ⟨1,[.int .i64 s,.slice true (.ro k) 0 n,.slice true (.ro kp) 0 m]⟩,some ⟨1,[.int .i64 sv,.slice true (.ro k2) 0 nv,.slice true (.ro kp2) 0 m2]⟩]
def rdO (s sv:Int) (k k2 n nv kp kp2 m m2:Nat):LOut:=.tst (.uf 1721 Pz [.agg (.ro (.var 5 kp)),.agg (.ro (.var 7 kp2)),.int .i64 (.ofN (.var 6 m))]) (.one (.exit 2) [.undef,.undef,.undef,.undef] [some ⟨1,.of [.int .i64 (.var 4 s),.slice true (.ro (.var 1 k)) (.lit 0) (.var 2 n),.slice true (.ro (.var 5 kp)) (.lit 0) (.var 6 m)]⟩,some ⟨1,.of [.int .i64 (.var 10 sv),.slice true (.ro (.var 3 k2)) (.lit 0) (.var 9 nv),.slice true (.ro (.var 7 kp2)) (.lit 0) (.var 31 m2)]⟩]) (.one .ret [.undef,.undef,.bool (.lit false),.undef] [some ⟨1,.of [.int .i64 (.var 4 s),.slice true (.ro (.var 1 k)) (.lit 0) (.var 2 n),.slice true (.ro (.var 5 kp)) (.lit 0) (.var 6 m)]⟩,some ⟨1,.of [.int .i64 (.var 10 sv),.slice true (.ro (.var 3 k2)) (.lit 0) (.var 9 nv),.slice true (.ro (.var 7 kp2)) (.lit 0) (.var 31 m2)]⟩])
theorem t15 (G:Nat→List AV) (s sv:Int) (k k2 n nv kp kp2 m m2:Nat) (Q:Ex→List AV→Hp→Prop) (R:AV→Hp→Prop):vT G Q R (J7 (Dc Try.prog [] [] [(C3 1723 (rsQ G s sv k k2 n nv kp kp2 m m2) 0 95 [2,3,4,5] (rsO G s sv k k2 n nv kp kp2 m m2)),(C3 1724 (rdQ G s sv k k2 n nv kp kp2 m m2) 2 95 [2,3,4,8] (rdO s sv k k2 n nv kp kp2 m m2))] 2) 300 20 Try.f15 [.agg (.of [.int .i64 (.var 4 s),.slice true (.ro (.var 1 k)) (.lit 0) (.var 2 n),.slice true (.ro (.var 5 kp)) (.lit 0) (.var 6 m)]),.agg (.of [.int .i64 (.var 10 sv),.slice true (.ro (.var 3 k2)) (.lit 0) (.var 9 nv),.slice true (.ro (.var 7 kp2)) (.lit 0) (.var 31 m2)])] [] 0)=(
  (((s:Int)==sv)=true→(((((n:Nat):Int):Int)==((nv:Nat):Int))=true→(((((m:Nat):Int):Int)==((m2:Nat):Int))=true→(rsQ G s sv k k2 n nv kp kp2 m m2) [.agg ([.ptr (.rw 0) (0),.ptr (.rw 1) (0),.bool (false),.int .i64 (0)]:List AV),.agg ([.tup [.int .i64 (1),.agg ([.int .i64 (s),.slice true (.ro (k)) (0) (n),.slice true (.ro (kp)) (0) (m)]:List AV)],.tup [.int .i64 (1),.agg ([.int .i64 (sv),.slice true (.ro (k2)) (0) (nv),.slice true (.ro (kp2)) (0) (m2)]:List AV)]]:List AV)]=true∧((Kf G) [.agg (G (k)),.agg (G (k2)),.int .i64 (((n:Nat):Int))]=true→(rdQ G s sv k k2 n nv kp kp2 m m2) [.agg ([.ptr (.rw 0) (0),.ptr (.rw 1) (0),.undef,.int .i64 (0)]:List AV),.agg ([.tup [.int .i64 (1),.agg ([.int .i64 (s),.slice true (.ro (k)) (0) (n),.slice true (.ro (kp)) (0) (m)]:List AV)],.tup [.int .i64 (1),.agg ([.int .i64 (sv),.slice true (.ro (k2)) (0) (nv),.slice true (.ro (kp2)) (0) (m2)]:List AV)]]:List AV)]=true∧(Pz [.agg (G (kp)),.agg (G (kp2)),.int .i64 (((m:Nat):Int))]=true→R (.bool (true)) [])∧(Pz [.agg (G (kp)),.agg (G (kp2)),.int .i64 (((m:Nat):Int))]=false→R (.bool (false)) []))∧((Kf G) [.agg (G (k)),.agg (G (k2)),.int .i64 (((n:Nat):Int))]=false→R (.bool (false)) []))∧(((((m:Nat):Int):Int)==((m2:Nat):Int))=false→R (.bool (false)) []))∧(((((n:Nat):Int):Int)==((nv:Nat):Int))=false→R (.bool (false)) []))∧(((s:Int)==sv)=false→R (.bool (false)) [])):=by kernel_rfl
end Go.Am
namespace Go.Am
open Go.Proofs
set_option maxRecDepth 100000
theorem rs_e (G:Nat→List AV) (s sv:Int) (k k2 n nv kp kp2 m m2 i:Nat) (Q:Ex→List AV→Hp→Prop) (R:AV→Hp→Prop):vT G Q R (F8 (Dc Try.prog [] [] [] 2) 300 20 2 (A4 Try.f15 1) 95 [2,3,4,8] [.ptr (.rw 0) (.lit 0),.ptr (.rw 1) (.lit 0),.undef,.int .i64 (.ofN (.var 8 i))] [some ⟨1,.of [.int .i64 (.var 4 s),.slice true (.ro (.var 1 k)) (.lit 0) (.var 2 n),.slice true (.ro (.var 5 kp)) (.lit 0) (.var 6 m)]⟩,some ⟨1,.of [.int .i64 (.var 10 sv),.slice true (.ro (.var 3 k2)) (.lit 0) (.var 9 nv),.slice true (.ro (.var 7 kp2)) (.lit 0) (.var 31 m2)]⟩])=(
  (decide ((((i:Nat):Int):Int)<((m:Nat):Int))=true→decide ((0:Int)≤((i:Nat):Int))=true∧decide ((((i:Nat):Int):Int)<((m:Nat):Int))=true∧D5 (G (kp)) ((i)*2) [.int .i64,.bool]=true∧decide ((0:Int)≤((i:Nat):Int))=true∧decide ((((i:Nat):Int):Int)<((m2:Nat):Int))=true∧D5 (G (kp2)) ((i)*2) [.int .i64,.bool]=true∧(((A3 (G (kp)) ((i)*2):Int)==A3 (G (kp2)) ((i)*2))=true→(D9 (G (kp)) ((i)*2+1)=true→(D9 (G (kp2)) ((i)*2+1)=true→Q .normal [.ptr (.rw 0) (0),.ptr (.rw 1) (0),.undef,.int .i64 (IntKind.wrap .i64 (((i:Nat):Int)+1))] [some ⟨1,([.int .i64 (s),.slice true (.ro (k)) (0) (n),.slice true (.ro (kp)) (0) (m)]:List AV)⟩,some ⟨1,([.int .i64 (sv),.slice true (.ro (k2)) (0) (nv),.slice true (.ro (kp2)) (0) (m2)]:List AV)⟩])∧(D9 (G (kp2)) ((i)*2+1)=false→Q .ret [.ptr (.rw 0) (0),.ptr (.rw 1) (0),.bool (false),.int .i64 (((i:Nat):Int))] [some ⟨1,([.int .i64 (s),.slice true (.ro (k)) (0) (n),.slice true (.ro (kp)) (0) (m)]:List AV)⟩,some ⟨1,([.int .i64 (sv),.slice true (.ro (k2)) (0) (nv),.slice true (.ro (kp2)) (0) (m2)]:List AV)⟩]))∧(D9 (G (kp)) ((i)*2+1)=false→(D9 (G (kp2)) ((i)*2+1)=true→Q .ret [.ptr (.rw 0) (0),.ptr (.rw 1) (0),.bool (false),.int .i64 (((i:Nat):Int))] [some ⟨1,([.int .i64 (s),.slice true (.ro (k)) (0) (n),.slice true (.ro (kp)) (0) (m)]:List AV)⟩,some ⟨1,([.int .i64 (sv),.slice true (.ro (k2)) (0) (nv),.slice true (.ro (kp2)) (0) (m2)]:List AV)⟩])∧(D9 (G (kp2)) ((i)*2+1)=false→Q .normal [.ptr (.rw 0) (0),.ptr (.rw 1) (0),.undef,.int .i64 (IntKind.wrap .i64 (((i:Nat):Int)+1))] [some ⟨1,([.int .i64 (s),.slice true (.ro (k)) (0) (n),.slice true (.ro (kp)) (0) (m)]:List AV)⟩,some ⟨1,([.int .i64 (sv),.slice true (.ro (k2)) (0) (nv),.slice true (.ro (kp2)) (0) (m2)]:List AV)⟩])))∧(((A3 (G (kp)) ((i)*2):Int)==A3 (G (kp2)) ((i)*2))=false→
 Q .ret [.ptr (.rw 0) (0),.ptr (.rw 1) (0),.bool (false),.int .i64 (((i:Nat):Int))] [some ⟨1,([.int .i64 (s),.slice true (.ro (k)) (0) (n),.slice true (.ro (kp)) (0) (m)]:List AV)⟩,some ⟨1,([.int .i64 (sv),.slice true (.ro (k2)) (0) (nv),.slice true (.ro (kp2)) (0) (m2)]:List AV)⟩]))∧(decide ((((i:Nat):Int):Int)<((m:Nat):Int))=false→Q (.exit 2) [.ptr (.rw 0) (0),.ptr (.rw 1) (0),.undef,.int .i64 (((i:Nat):Int))] [some ⟨1,([.int .i64 (s),.slice true (.ro (k)) (0) (n),.slice true (.ro (kp)) (0) (m)]:List AV)⟩,some ⟨1,([.int .i64 (sv),.slice true (.ro (k2)) (0) (nv),.slice true (.ro (kp2)) (0) (m2)]:List AV)⟩])):=by kernel_rfl
theorem kD {ps ps2:List AV} {j:Nat} (h1:(A3 ps (j*2)==A3 ps2 (j*2))=true) (h2:D9 ps (j*2+1)=D9 ps2 (j*2+1)):Ar ps ps2 j=true:=by unfold Ar xP hP;rw [h1,h2];simp
theorem kC {ps ps2:List AV} {j:Nat} (h2:D9 ps (j*2+1)≠D9 ps2 (j*2+1)):Ar ps ps2 j=false:=by unfold Ar xP hP;rw [beq_eq_false_iff_ne.2 h2,Bool.and_false]
theorem uA {ps ps2:List AV} {j:Nat} (h1:(A3 ps (j*2)==A3 ps2 (j*2))=false):Ar ps ps2 j=false:=by unfold Ar xP hP;rw [h1,Bool.false_and]
theorem bX {G:Nat→List AV} {cs:List AV} {n i:Nat} (h:Cs G cs n=true) (hi:i<n):Y4 G cs i=true:=H4.1 h i hi
theorem tI (G:Nat→List AV) (B:Nat) (s sv:Int) (k k2 n nv kp kp2 m m2:Nat):H7 (⟨Try.prog,G,B⟩:A2) 2 (A4 Try.f15 0) (C3 1723 (rsQ G s sv k k2 n nv kp kp2 m m2) 0 95 [2,3,4,5] (rsO G s sv k k2 n nv kp kp2 m m2)):=by
 refine Ao rfl fun hc=>?_;obtain ⟨hnn,hn,⟨hs,hs2⟩,hd,hd2⟩:=Xb.1 hc;refine S0 (I9 (fun j=>!R6 G (G k) (G k2) j) n) (fun i=>[.ptr (.rw 0) 0,.ptr (.rw 1) 0,.bool false,.int .i64 (i:Int)]) (fun _=>[some ⟨1,[.int .i64 s,.slice true (.ro k) 0 n,.slice true (.ro kp) 0 m]⟩,some ⟨1,[.int .i64 sv,.slice true (.ro k2) 0 nv,.slice true (.ro kp2) 0 m2]⟩]) fun i hi=>?_;have hle:I9 (fun j=>!R6 G (G k) (G k2) j) n≤n:=G9.1;refine nB G B s sv k k2 n nv kp kp2 m m2 i hnn hn hs hs2 (fun h=>bX hd h) (fun h=>bX hd2 h) (fun hin he=>?_) (fun hin he X=>?_) fun hin=>?_
 ·exact ⟨Ey hi hin he,.inl ⟨rfl,rfl⟩⟩
 ·refine .inr ⟨?_,rfl,.inr (B7.same (H:=[some ⟨1,[.int .i64 s,.slice true (.ro k) 0 n,.slice true (.ro kp) 0 m]⟩,some ⟨1,[.int .i64 sv,.slice true (.ro k2) 0 nv,.slice true (.ro kp2) 0 m2]⟩]) (by simp) (by simp [L1,A5,B0]) (by simp [fv,B0,vVs,vV,vB]))⟩;show Kf G [.agg (G k),.agg (G k2),.int .i64 (n:Int)]=false;rw [Ps,T8 hin he]
 ·refine .inl ⟨?_,rfl,.inl ⟨by simp [vVs,vV,vR,vN,wk],rfl⟩⟩;show Kf G [.agg (G k),.agg (G k2),.int .i64 (n:Int)]=true;rw [Ps];exact Gm hi (by omega)
theorem tT (G:Nat→List AV) (B:Nat) (s sv:Int) (k k2 n nv kp kp2 m m2:Nat):H7 (⟨Try.prog,G,B⟩:A2) 2 (A4 Try.f15 1) (C3 1724 (rdQ G s sv k k2 n nv kp kp2 m m2) 2 95 [2,3,4,8] (rdO s sv k k2 n nv kp kp2 m m2)):=by
 refine Ao rfl fun hc=>?_;obtain ⟨rfl,hn,hp,hp2⟩:=Xc.1 hc;refine S0 (I9 (fun j=>!Ar (G kp) (G kp2) j) m) (fun i=>[.ptr (.rw 0) 0,.ptr (.rw 1) 0,.undef,.int .i64 (i:Int)]) (fun _=>[some ⟨1,[.int .i64 s,.slice true (.ro k) 0 n,.slice true (.ro kp) 0 m]⟩,some ⟨1,[.int .i64 sv,.slice true (.ro k2) 0 nv,.slice true (.ro kp2) 0 m]⟩]) fun i hi=>?_
 refine D3 (C:=(⟨Try.prog,G,B⟩:A2)) (dgR G B (by kernel_rfl)) (fuel:=300) (n0:=20) (m:=2) (c:=A4 Try.f15 1) (vs:=[.ptr (.rw 0) (.lit 0),.ptr (.rw 1) (.lit 0),.undef,.int .i64 (.ofN (.var 8 i))]) (H:=[some ⟨1,.of [.int .i64 (.var 4 s),.slice true (.ro (.var 1 k)) (.lit 0) (.var 2 n),.slice true (.ro (.var 5 kp)) (.lit 0) (.var 6 m)]⟩,some ⟨1,.of [.int .i64 (.var 10 sv),.slice true (.ro (.var 3 k2)) (.lit 0) (.var 9 nv),.slice true (.ro (.var 7 kp2)) (.lit 0) (.var 31 m)]⟩]) (by simp) ?_;rw [rs_e];have hle:I9 (fun j=>!Ar (G kp) (G kp2) j) m≤m:=G9.1
 have fb:L1 2 [some ⟨1,[.int .i64 s,.slice true (.ro k) 0 n,.slice true (.ro kp) 0 m]⟩,some ⟨1,[.int .i64 sv,.slice true (.ro k2) 0 nv,.slice true (.ro kp2) 0 m]⟩]=true:=by simp [L1,A5,B0]
 refine ⟨fun h1=>?_,fun h1=>?_⟩
 ·have h1':=of_decide_eq_true h1;have hin:i<m:=by omega
  rw [B6 (n:=(i:Int)+1) (by omega)];have no:Ar (G kp) (G kp2) i=false→Pz [.agg (G kp),.agg (G kp2),.int .i64 (m:Int)]=false:=fun h=>by rw [Ui,T8 hin h]
  have yes:Ar (G kp) (G kp2) i=true→i<I9 (fun j=>!Ar (G kp) (G kp2) j) m:=fun h=>Ey hi hin h;refine ⟨decide_eq_true (by omega),h1,(O9 hp hin).1,decide_eq_true (by omega),h1,(O9 hp2 hin).1,fun h2=>⟨fun h3=>⟨fun h4=>?_,fun h4=>?_⟩,fun h3=>⟨fun h4=>?_,fun h4=>?_⟩⟩,fun h2=>?_⟩
  ·exact ⟨yes (kD h2 (h3.trans h4.symm)),.inl ⟨rfl,rfl⟩⟩
  ·exact .inr ⟨no (kC fun e=>by have:=h3.symm.trans (e.trans h4);simp at this),rfl,.inr (B7.refl (H:=[some ⟨1,[.int .i64 s,.slice true (.ro k) 0 n,.slice true (.ro kp) 0 m]⟩,some ⟨1,[.int .i64 sv,.slice true (.ro k2) 0 nv,.slice true (.ro kp2) 0 m]⟩]) (by simp) fb (by simp [fv,B0,vVs,vV,vB]))⟩
  ·exact .inr ⟨no (kC fun e=>by have:=h3.symm.trans (e.trans h4);simp at this),rfl,.inr (B7.refl (H:=[some ⟨1,[.int .i64 s,.slice true (.ro k) 0 n,.slice true (.ro kp) 0 m]⟩,some ⟨1,[.int .i64 sv,.slice true (.ro k2) 0 nv,.slice true (.ro kp2) 0 m]⟩]) (by simp) fb (by simp [fv,B0,vVs,vV,vB]))⟩
  ·exact ⟨yes (kD h2 (h3.trans h4.symm)),.inl ⟨rfl,rfl⟩⟩
  ·exact .inr ⟨no (uA h2),rfl,.inr (B7.refl (H:=[some ⟨1,[.int .i64 s,.slice true (.ro k) 0 n,.slice true (.ro kp) 0 m]⟩,some ⟨1,[.int .i64 sv,.slice true (.ro k2) 0 nv,.slice true (.ro kp2) 0 m]⟩]) (by simp) fb (by simp [fv,B0,vVs,vV,vB]))⟩
 ·have h1':=of_decide_eq_false h1;refine .inl ⟨?_,rfl,.inl ⟨by simp [vVs,vV,wk],rfl⟩⟩;show Pz [.agg (G kp),.agg (G kp2),.int .i64 (m:Int)]=true;rw [Ui];exact Gm hi (by omega)
def gQ (ps:List AV) (m:Nat) (ps2:List AV) (m2:Nat):Bool:=Nat.beq m m2&&F9 (Ar ps ps2) m
def gG (G:Nat→List AV) (cs:List AV) (n:Nat) (cs2:List AV) (n2:Nat):Bool:=Nat.beq n n2&&F9 (R6 G cs cs2) n
def U4 (ps:List AV) (m:Nat):Bool:=R7 ps m&&Nat.ble m 1000000
def S6 (G:Nat→List AV) (cs:List AV) (n:Nat):Bool:=I4 cs n&&(Cs G cs n&&Nat.ble n 1000000)
theorem ieq {n m:Nat}:(((n:Nat):Int)==(m:Int))=Nat.beq n m:=by
 rw [Bool.eq_iff_iff,beq_iff_eq];exact ⟨fun h=>by rw [Int.ofNat_inj.1 h];exact Nat.beq_refl _,fun h=>by rw [Nat.eq_of_beq_eq_true h]⟩
def Ce (G:Nat→List AV) (s:Int) (cs:List AV) (n:Nat) (ps:List AV) (m:Nat) (s2:Int) (cs2:List AV) (n2:Nat) (ps2:List AV) (m2:Nat):Bool:=(s==s2)&&(gQ ps m ps2 m2&&gG G cs n cs2 n2)
theorem Kh (G:Nat→List AV) (B:Nat) (s sv:Int) (k k2 n nv kp kp2 m m2:Nat) (h1:S6 G (G k) n=true) (h2:S6 G (G k2) nv=true) (h3:U4 (G kp) m=true) (h4:U4 (G kp2) m2=true):ACalls (⟨Try.prog,G,B⟩:A2) 15 [.agg [.int .i64 s,.slice true (.ro k) 0 n,.slice true (.ro kp) 0 m],.agg [.int .i64 sv,.slice true (.ro k2) 0 nv,.slice true (.ro kp2) 0 m2]] [] fun v _=>v=.bool (Ce G s (G k) n (G kp) m sv (G k2) nv (G kp2) m2):=by
 unfold S6 at h1 h2;unfold U4 at h3 h4;rw [Bool.and_eq_true,Bool.and_eq_true] at h1 h2;rw [Bool.and_eq_true] at h3 h4
 have:=C9 (C:=(⟨Try.prog,G,B⟩:A2)) (fuel:=300) (n0:=20) (f:=15) (fn:=Try.f15) (args:=[.agg (.of [.int .i64 (.var 4 s),.slice true (.ro (.var 1 k)) (.lit 0) (.var 2 n),.slice true (.ro (.var 5 kp)) (.lit 0) (.var 6 m)]),.agg (.of [.int .i64 (.var 10 sv),.slice true (.ro (.var 3 k2)) (.lit 0) (.var 9 nv),.slice true (.ro (.var 7 kp2)) (.lit 0) (.var 31 m2)])]) (H:=[]) (keep:=0)
  (R:=fun v _=>v=.bool (Ce G s (G k) n (G kp) m sv (G k2) nv (G kp2) m2)) (I0 (inl:=[]) (ls:=[(C3 1723 (rsQ G s sv k k2 n nv kp kp2 m m2) 0 95 [2,3,4,5] (rsO G s sv k k2 n nv kp kp2 m m2)),(C3 1724 (rdQ G s sv k k2 n nv kp kp2 m m2) 2 95 [2,3,4,8] (rdO s sv k k2 n nv kp kp2 m m2))]) (M:=2) (E9 G B) (by kernel_rfl) .nil (.cast (.cons (i:=0) (by kernel_rfl) rfl (tI G B s sv k k2 n nv kp kp2 m m2) (.cons (i:=2) (by kernel_rfl) rfl (tT G B s sv k k2 n nv kp kp2 m m2) .nil)) (by kernel_rfl))) (by kernel_rfl) (by kernel_rfl) (by kernel_rfl) (by
  rw [t15,Ps,Ui,ieq,ieq];refine ⟨fun e1=>⟨fun e2=>⟨fun e3=>⟨V8 (Xb.2 ⟨Nat.eq_of_beq_eq_true e2,Nat.le_of_ble_eq_true h1.2.2,⟨h1.1,by rw [Nat.eq_of_beq_eq_true e2];exact h2.1⟩,h1.2.1,by rw [Nat.eq_of_beq_eq_true e2];exact h2.2.1⟩) rfl rfl,fun e4=>⟨V8 (Xc.2 ⟨Nat.eq_of_beq_eq_true e3,Nat.le_of_ble_eq_true h3.2,h3.1,by rw [Nat.eq_of_beq_eq_true e3];exact h4.1⟩) rfl rfl,fun e5=>?_,fun e5=>?_⟩,fun e4=>?_⟩,fun e3=>?_⟩,fun e2=>?_⟩,fun e1=>?_⟩
  all_goals unfold Ce gQ gG
  ·rw [e1,e2,e3,e4,e5];rfl
  ·rw [e3,e5];simp
  ·rw [e2,e4];simp
  ·rw [e3];simp
  ·rw [e2];simp
  ·rw [e1];simp)
 exact this.monoK fun v H h=>h
end Go.Am
namespace Go.Am
open Go.Proofs
set_option maxRecDepth 100000
end Go.Am
namespace Go.Am
open Go.Proofs
set_option maxRecDepth 100000
end Go.Am
namespace Go.Am
open Go.Proofs
set_option maxRecDepth 100000
end Go.Am
namespace Go.Am
open Go.Proofs
set_option maxRecDepth 100000
end Go.Am
namespace Go.Am
open Go.Proofs
set_option maxRecDepth 100000
end Go.Am
namespace Go.Am
open Go.Proofs
set_option maxRecDepth 100000
end Go.Am
namespace Go.Am
open Go.Proofs
set_option maxRecDepth 100000
theorem mu_b (G:Nat→List AV) (s:Int) (k n kp m i:Nat) (x:Int) (Q:Ex→List AV→Hp→Prop) (R:AV→Hp→Prop):vT G Q R (F8 (Dc Try.prog [] [] [] 1) 300 20 1 (A4 Try.f10 0) 40 [1,2,3,4] [.ptr (.rw 0) (.lit 0),.bool (.lit false),.int .i64 (.var 8 x),.int .i64 (.ofN (.var 9 i))] [some ⟨1,.of [.int .i64 (.var 4 s),.slice true (.ro (.var 1 k)) (.lit 0) (.var 2 n),.slice true (.ro (.var 5 kp)) (.lit 0) (.var 6 m)]⟩])=(
  (decide ((((i:Nat):Int):Int)<((n:Nat):Int))=true→(decide ((((i:Nat):Int):Int)<20)=true→decide ((0:Int)≤((i:Nat):Int))=true∧decide ((((i:Nat):Int):Int)<((n:Nat):Int))=true∧Io (G (k)) ((i)*4+2)=true∧Q .normal [.ptr (.rw 0) (0),.bool (false),.int .i64 (IntKind.wrap .i64 (x+(if 99999<((C2 (G (k)) ((i)*4+2):Nat):Int) then 99999 else ((C2 (G (k)) ((i)*4+2):Nat):Int)))),.int .i64 (IntKind.wrap .i64 (((i:Nat):Int)+1))] [some ⟨1,([.int .i64 (s),.slice true (.ro (k)) (0) (n),.slice true (.ro (kp)) (0) (m)]:List AV)⟩])∧(decide ((((i:Nat):Int):Int)<20)=false→Q (.exit 0) [.ptr (.rw 0) (0),.bool (false),.int .i64 (x),.int .i64 (((i:Nat):Int))] [some ⟨1,([.int .i64 (s),.slice true (.ro (k)) (0) (n),.slice true (.ro (kp)) (0) (m)]:List AV)⟩]))∧(decide ((((i:Nat):Int):Int)<((n:Nat):Int))=false→Q (.exit 0) [.ptr (.rw 0) (0),.bool (false),.int .i64 (x),.int .i64 (((i:Nat):Int))] [some ⟨1,([.int .i64 (s),.slice true (.ro (k)) (0) (n),.slice true (.ro (kp)) (0) (m)]:List AV)⟩])):=by kernel_rfl
def Hv (cs:List AV):Nat→Int
 | 0=>0
 | i+1=>IntKind.wrap .i64 (Hv cs i+(if 99999<((C2 cs (i*4+2):Nat):Int) then 99999 else ((C2 cs (i*4+2):Nat):Int)))
def muU:List AV→Int:=fun xs=>match xs with
 | [.agg cs,.int _ n]=>Hv cs (min n.toNat 20)
 | _=>0
def muQ (G:Nat→List AV) (s:Int) (k n kp m:Nat):List AV→Bool:=Jb (I4 (G k) n) [.ptr (.rw 0) 0,.bool false,.int .i64 0,.int .i64 0] [some ⟨1,[.int .i64 s,.slice true (.ro k) 0 n,.slice true (.ro kp) 0 m]⟩]
def muO (s:Int) (k n kp m:Nat):LOut:=.one (.exit 0) [.ptr (.rw 0) (.lit 0),.undef,.int .i64 (.uf 1750 muU [.agg (.ro (.var 1 k)),.int .i64 (.ofN (.var 2 n))]),.undef] [some ⟨1,.of [.int .i64 (.var 4 s),.slice true (.ro (.var 1 k)) (.lit 0) (.var 2 n),.slice true (.ro (.var 5 kp)) (.lit 0) (.var 6 m)]⟩]
theorem t10 (G:Nat→List AV) (s:Int) (k n kp m:Nat) (Q:Ex→List AV→Hp→Prop) (R:AV→Hp→Prop):vT G Q R (J7 (Dc Try.prog [] [] [(C3 1751 (muQ G s k n kp m) 0 40 [1,2,3,4] (muO s k n kp m))] 1) 300 20 Try.f10 [.agg (.of [.int .i64 (.var 4 s),.slice true (.ro (.var 1 k)) (.lit 0) (.var 2 n),.slice true (.ro (.var 5 kp)) (.lit 0) (.var 6 m)])] [] 0)=(
  (muQ G s k n kp m) [.agg ([.ptr (.rw 0) (0),.bool (false),.int .i64 (0),.int .i64 (0)]:List AV),.agg ([.tup [.int .i64 (1),.agg ([.int .i64 (s),.slice true (.ro (k)) (0) (n),.slice true (.ro (kp)) (0) (m)]:List AV)]]:List AV)]=true∧(decide ((((n:Nat):Int):Int)>20)=true→R (.bool (true)) [])∧(decide ((((n:Nat):Int):Int)>20)=false→(decide ((((m:Nat):Int):Int)>1000)=true→R (.bool (true)) [])∧(decide ((((m:Nat):Int):Int)>1000)=false→R (.bool (decide ((muU [.agg (G (k)),.int .i64 (((n:Nat):Int))]:Int)>60000))) []))):=by kernel_rfl
theorem kO {cs:List AV} {n:Nat}:muU [.agg cs,.int .i64 (n:Int)]=Hv cs (min n 20):=by simp only [muU,C4]
theorem uI (G:Nat→List AV) (B:Nat) (s:Int) (k n kp m:Nat):H7 (⟨Try.prog,G,B⟩:A2) 1 (A4 Try.f10 0) (C3 1751 (muQ G s k n kp m) 0 40 [1,2,3,4] (muO s k n kp m)):=by
 refine Ao rfl fun hk=>?_;refine S0 (min n 20) (fun i=>[.ptr (.rw 0) 0,.bool false,.int .i64 (Hv (G k) i),.int .i64 (i:Int)]) (fun _=>[some ⟨1,[.int .i64 s,.slice true (.ro k) 0 n,.slice true (.ro kp) 0 m]⟩]) fun i hi=>?_
 refine D3 (C:=(⟨Try.prog,G,B⟩:A2)) (by rw [show A8 (A4 Try.f10 0)=[] by kernel_rfl];exact I0 (inl:=[]) (ls:=[]) (M:=1) (E9 G B) (by kernel_rfl) .nil .nil) (fuel:=300) (n0:=20) (m:=1) (c:=A4 Try.f10 0) (vs:=[.ptr (.rw 0) (.lit 0),.bool (.lit false),.int .i64 (.var 8 (Hv (G k) i)),.int .i64 (.ofN (.var 9 i))]) (H:=[some ⟨1,.of [.int .i64 (.var 4 s),.slice true (.ro (.var 1 k)) (.lit 0) (.var 2 n),.slice true (.ro (.var 5 kp)) (.lit 0) (.var 6 m)]⟩]) (by simp) ?_;rw [mu_b]
 have fin:¬(i<n∧i<20)→(muO s k n kp m).post G 1 (.exit 0) [.ptr (.rw 0) 0,.bool false,.int .i64 (Hv (G k) i),.int .i64 (i:Int)] [some ⟨1,[.int .i64 s,.slice true (.ro k) 0 n,.slice true (.ro kp) 0 m]⟩]:=fun h=>by
  refine ⟨rfl,.inl ⟨?_,rfl⟩⟩;show wk [.ptr (.rw 0) 0,.undef,.int .i64 (muU [.agg (G k),.int .i64 (n:Int)]),.undef] _;rw [kO,show min n 20=i by omega];simp [wk]
 refine ⟨fun h1=>⟨fun h2=>?_,fun h2=>?_⟩,fun h1=>?_⟩
 ·have h1':=of_decide_eq_true h1;have h2':(i:Int)<20:=of_decide_eq_true h2;rw [B6 (n:=(i:Int)+1) (by omega)];exact ⟨decide_eq_true (by omega),h1,(Mb hk (by omega)).2,by omega,.inl ⟨rfl,rfl⟩⟩
 ·have h2':¬(i:Int)<20:=of_decide_eq_false h2;exact fin (by omega)
 ·have h1':=of_decide_eq_false h1;exact fin (by omega)
def Y3 (cs:List AV) (n m:Nat):Bool:=decide (n>20)||(decide (m>1000)||decide (Hv cs (min n 20)>60000))
def Sb:List AV→Bool:=fun xs=>match xs with
 | [.agg cs,.int _ n,.int _ m]=>Y3 cs n.toNat m.toNat
 | _=>false
theorem Qd {cs:List AV} {n m:Nat}:Sb [.agg cs,.int .i64 (n:Int),.int .i64 (m:Int)]=Y3 cs n m:=by simp only [Sb,C4]
def secOkU:List AV→Bool:=fun xs=>match xs with
 | [.agg cs,.int _ n]=>I4 cs n.toNat
 | _=>false
theorem kM (G:Nat→List AV) (B:Nat) (s:Int) (k n kp m:Nat) (hk:I4 (G k) n=true):ACalls (⟨Try.prog,G,B⟩:A2) 10 [.agg [.int .i64 s,.slice true (.ro k) 0 n,.slice true (.ro kp) 0 m]] [] fun v _=>v=.bool (Y3 (G k) n m):=by
 have:=C9 (C:=(⟨Try.prog,G,B⟩:A2)) (fuel:=300) (n0:=20) (f:=10) (fn:=Try.f10) (args:=[.agg (.of [.int .i64 (.var 4 s),.slice true (.ro (.var 1 k)) (.lit 0) (.var 2 n),.slice true (.ro (.var 5 kp)) (.lit 0) (.var 6 m)])]) (H:=[]) (keep:=0)
  (R:=fun v _=>v=.bool (Y3 (G k) n m)) (I0 (inl:=[]) (ls:=[(C3 1751 (muQ G s k n kp m) 0 40 [1,2,3,4] (muO s k n kp m))]) (M:=1) (E9 G B) (by kernel_rfl) .nil (.cast (.cons (i:=0) (by kernel_rfl) rfl (uI G B s k n kp m) .nil) (by kernel_rfl))) (by kernel_rfl) (by kernel_rfl) (by kernel_rfl) (by
  rw [t10,kO];refine ⟨V8 hk rfl rfl,fun h1=>?_,fun h1=>⟨fun h2=>?_,fun h2=>?_⟩⟩
  ·have h1:(n:Int)>20:=of_decide_eq_true h1;unfold Y3;rw [decide_eq_true (p:=n>20) (by omega)];rfl
  ·have h2:(m:Int)>1000:=of_decide_eq_true h2;unfold Y3;rw [decide_eq_true (p:=m>1000) (by omega),Bool.true_or,Bool.or_true]
  ·have h1:¬(n:Int)>20:=of_decide_eq_false h1;have h2:¬(m:Int)>1000:=of_decide_eq_false h2
   unfold Y3;rw [decide_eq_false (p:=n>20) (by omega),decide_eq_false (p:=m>1000) (by omega)];rfl)
 exact this.monoK fun v H h=>h
def muchS:DSum:=fun args _=>match args with
 | [.agg (.of [.int .i64 _,.slice _ (.ro k) (.lit 0) n,.slice _ (.ro _) (.lit 0) m])]=>some (.chk (.uf 1753 secOkU [.agg (.ro k),.int .i64 (.ofN n)]) (.one (.bool (.uf 1752 Sb [.agg (.ro k),.int .i64 (.ofN n),.int .i64 (.ofN m)])) []))
 | _=>none
theorem aI (G:Nat→List AV) (B:Nat):G5 (⟨Try.prog,G,B⟩:A2) 10 muchS:=by
 intro args H o ho;unfold muchS at ho;split at ho
 ·rename_i s mb k n mb' k' m;simp only [Option.some.injEq] at ho;subst ho;intro hk
  have hk:I4 (G (vN G k)) (vN G n)=true:=by
   have hk:secOkU [.agg (G (vN G k)),.int .i64 (vN G n:Int)]=true:=hk;simpa only [secOkU,C4] using hk
  have key:=ACalls.drop0 (kM G B (vI G s) (vN G k) (vN G n) (vN G k') (vN G m) hk) rfl (by simp);rw [←Qd] at key;refine F7.ro0 (C:=(⟨Try.prog,G,B⟩:A2)) (key.weaken fun ρ vs hv=>?_) (by simp [vVs,vV,vL,vR,A5,B0]) (by simp [vV,B0]);simp only [vVs,vV,vL,vR,vN,VRs,VR] at hv ⊢;obtain ⟨v,vs',e,⟨ws,e2,w1,t1,e3,q1,w2,t2,e4,q2,w3,t3,e5,q3,q4⟩,q6⟩:=hv
  exact ⟨v,vs',e,⟨ws,e2,w1,t1,e3,q1,w2,t2,e4,(by have:=P3 (show VR ρ (.slice mb (.ro (vN G k)) 0 (vN G n)) w2 by simpa only [VR] using q2);simpa only [VR] using this),w3,t3,e5,(by have:=P3 (show VR ρ (.slice mb' (.ro (vN G k')) 0 (vN G m)) w3 by simpa only [VR] using q3);simpa only [VR] using this),q4⟩,q6⟩
 ·simp at ho
end Go.Am
namespace Go.Am
open Go.Proofs
set_option maxRecDepth 100000
end Go.Am
namespace Go.Am
open Go.Proofs
set_option maxRecDepth 100000
end Go.Am
namespace Go.Am
open Go.Proofs
set_option maxRecDepth 100000
def Fq (G:Nat→List AV):List AV→Bool:=fun xs=>match xs with
 | [.int _ s,.agg cs,.int _ n,.agg ps,.int _ m,.int _ sv,.agg cs2,.int _ nv,.agg ps2,.int _ m2]=>Ce G s cs n.toNat ps m.toNat sv cs2 nv.toNat ps2 m2.toNat
 | _=>false
def Gw (G:Nat→List AV):List AV→Bool:=fun xs=>match xs with
 | [.int _ _,.agg cs,.int _ n,.agg ps,.int _ m,.int _ _,.agg cs2,.int _ nv,.agg ps2,.int _ m2]=>(S6 G cs n.toNat&&S6 G cs2 nv.toNat)&&(U4 ps m.toNat&&U4 ps2 m2.toNat)
 | _=>false
theorem Pv {G:Nat→List AV} {s sv:Int} {cs cs2 ps ps2:List AV} {n m nv m2:Nat}:Fq G [.int .i64 s,.agg cs,.int .i64 (n:Int),.agg ps,.int .i64 (m:Int),.int .i64 sv,.agg cs2,.int .i64 (nv:Int),.agg ps2,.int .i64 (m2:Int)]=Ce G s cs n ps m sv cs2 nv ps2 m2:=by simp only [Fq,C4]
theorem Kg {G:Nat→List AV} {s sv:Int} {cs cs2 ps ps2:List AV} {n m nv m2:Nat}:Gw G [.int .i64 s,.agg cs,.int .i64 (n:Int),.agg ps,.int .i64 (m:Int),.int .i64 sv,.agg cs2,.int .i64 (nv:Int),.agg ps2,.int .i64 (m2:Int)]=true↔(S6 G cs n=true∧S6 G cs2 nv=true)∧(U4 ps m=true∧U4 ps2 m2=true):=by simp only [Gw,C4,Bool.and_eq_true]
def Xv (G:Nat→List AV):DSum:=fun args _=>match args with
 | [.agg (.of [.int .i64 s,.slice _ (.ro k) (.lit 0) n,.slice _ (.ro kp) (.lit 0) m]),.agg (.of [.int .i64 sv,.slice _ (.ro k2) (.lit 0) nv,.slice _ (.ro kp2) (.lit 0) m2])]=>some (.chk (.uf 1760 (Gw G) [.int .i64 s,.agg (.ro k),.int .i64 (.ofN n),.agg (.ro kp),.int .i64 (.ofN m),.int .i64 sv,.agg (.ro k2),.int .i64 (.ofN nv),.agg (.ro kp2),.int .i64 (.ofN m2)]) (.one (.bool (.uf 1761 (Fq G) [.int .i64 s,.agg (.ro k),.int .i64 (.ofN n),.agg (.ro kp),.int .i64 (.ofN m),.int .i64 sv,.agg (.ro k2),.int .i64 (.ofN nv),.agg (.ro kp2),.int .i64 (.ofN m2)])) []))
 | _=>none
theorem mV (G:Nat→List AV) (B:Nat) {f:Nat} (hf:∀ (s sv:Int) (k k2 n nv kp kp2 m m2:Nat) (_:S6 G (G k) n=true) (_:S6 G (G k2) nv=true) (_:U4 (G kp) m=true) (_:U4 (G kp2) m2=true),ACalls (⟨Try.prog,G,B⟩:A2) f [.agg [.int .i64 s,.slice true (.ro k) 0 n,.slice true (.ro kp) 0 m],.agg [.int .i64 sv,.slice true (.ro k2) 0 nv,.slice true (.ro kp2) 0 m2]] [] fun v _=>v=.bool (Ce G s (G k) n (G kp) m sv (G k2) nv (G kp2) m2)):G5 (⟨Try.prog,G,B⟩:A2) f (Xv G):=by
 intro args H o ho;unfold Xv at ho;split at ho
 ·rename_i s mb k n mb2 kp m sv mb3 k2 nv mb4 kp2 m2;simp only [Option.some.injEq] at ho;subst ho;intro hk;obtain ⟨⟨h1,h2⟩,h3,h4⟩:=Kg.1 hk;have key:=ACalls.drop0 (hf (vI G s) (vI G sv) (vN G k) (vN G k2) (vN G n) (vN G nv) (vN G kp) (vN G kp2) (vN G m) (vN G m2) h1 h2 h3 h4) rfl (by simp);rw [←Pv] at key;refine F7.ro0 (C:=(⟨Try.prog,G,B⟩:A2)) (key.weaken fun ρ vs hv=>?_) (by simp [vVs,vV,vL,vR,A5,B0]) (by simp [vV,B0]);simp only [vVs,vV,vL,vR,vN,VRs,VR] at hv ⊢
  obtain ⟨v,vs',e,⟨ws,e2,w1,t1,e3,q1,w2,t2,e4,q2,w3,t3,e5,q3,q4⟩,v',vs2,e6,⟨us,e7,u1,y1,e8,r1,u2,y2,e9,r2,u3,y3,e10,r3,r4⟩,q6⟩:=hv
  have may:∀ {b:Bool} {r:Ref} {n:Nat} {w:Value},M7 ρ b r 0 n w→M7 ρ true r 0 n w:=fun {b r n w} h=>by
   have:=P3 (show VR ρ (.slice b r 0 n) w by simpa only [VR] using h)
   simpa only [VR] using this
  exact ⟨v,vs',e,⟨ws,e2,w1,t1,e3,q1,w2,t2,e4,may q2,w3,t3,e5,may q3,q4⟩,v',vs2,e6,⟨us,e7,u1,y1,e8,r1,u2,y2,e9,may r2,u3,y3,e10,may r3,r4⟩,q6⟩
 ·simp at ho
theorem jS (G:Nat→List AV) (B:Nat):G5 (⟨Try.prog,G,B⟩:A2) 15 (Xv G):=mV G B fun s sv k k2 n nv kp kp2 m m2 h1 h2 h3 h4=>Kh G B s sv k k2 n nv kp kp2 m m2 h1 h2 h3 h4
def bW (d:Nat) (n:Nat) (X:AV):Prop:=(∃ mb,X=.slice mb (.ro d) 0 n)∨(X=.nils∧n=0)
end Go.Am
