/-
  The program's sets: what its calls without loops do. The program's sets: Take and Pending.
-/
import Derived.Test.YtkabjomhnddnoaaBase6
import Derived.Test.YtkabjomhnddnoaaProg
import Derived.Test.YtkabjomhnddnoaaBase5
namespace Go.Am
open Go.Proofs Crc
set_option maxRecDepth 100000
theorem mix (G:Nat→List AV) (B:Nat):((⟨Try.prog,G,B⟩:A3)).P.follows .mixedOrders=true:=by kernel_rfl
theorem dg (G:Nat→List AV) (B:Nat):I9 (⟨Try.prog,G,B⟩:A3) (Dc Try.prog [55,56] [] [] 0) []:=dgood (mix G B) (by kernel_rfl) .nil .nil
theorem t11 (G:Nat→List AV) (cs:List AV) (n:Int) (Q:Ex→List AV→Hp→Prop) (R:AV→Hp→Prop):vT G Q R (D0 (Dc Try.prog [55,56] [] [] 0) 200 10 Try.f23 [.ptr (.rw 0) (.lit 0),.int .i64 (.var 2 n)] [some ⟨1,.var 1 cs⟩] 1)=(
  isB cs (0)=true∧(A5 cs (0)=true→(decide ((n:Int)<0)=true→R (.int .i64 (2)) [some ⟨1,cs⟩])∧(decide ((n:Int)<0)=false→(decide ((n:Int)>15)=true→R (.int .i64 (2)) [some ⟨1,cs⟩])∧(decide ((n:Int)>15)=false→isI .u32 cs (1)=true∧decide ((0:Int)≤n)=true∧leB (2) (List.length cs)=true∧R (.int .i64 (0)) [some ⟨1,(setPart cs (1) (.int .u32 (nO .u32 (A0 cs (1)) (W1 .u32 (Ct .u32 (1) (n)) (65534)))))⟩])))∧(A5 cs (0)=false→R (.int .i64 (1)) [some ⟨1,cs⟩])):=by kernel_rfl
theorem t12 (G:Nat→List AV) (cs:List AV) (n:Int) (Q:Ex→List AV→Hp→Prop) (R:AV→Hp→Prop):vT G Q R (D0 (Dc Try.prog [55,56] [] [] 0) 200 10 Try.f64 [.ptr (.rw 0) (.lit 0),.int .i64 (.var 2 n)] [some ⟨1,.var 1 cs⟩] 1)=(
  isB cs (0)=true∧(A5 cs (0)=true→isI .u32 cs (2)=true∧leB (3) (List.length cs)=true∧R (.tup [.int .i64 (IntKind.wrap .i64 (A0 cs (2))),.int .i64 (0)]) [some ⟨1,(setPart cs (2) (.int .u32 (W1 .u32 (IntKind.wrap .u32 (n)) (65532))))⟩])∧(A5 cs (0)=false→R (.tup [.int .i64 (0),.int .i64 (1)]) [some ⟨1,cs⟩])):=by kernel_rfl
theorem t10 (G:Nat→List AV) (cs:List AV) (n a:Int) (Q:Ex→List AV→Hp→Prop) (R:AV→Hp→Prop):vT G Q R (D0 (Dc Try.prog [55,56] [] [] 0) 200 10 Try.f73 [.ptr (.rw 0) (.lit 0),.int .i64 (.var 2 n),.int .i64 (.var 3 a)] [some ⟨1,.var 1 cs⟩] 1)=(
  isB cs (0)=true∧(A5 cs (0)=true→(decide ((n:Int)<2)=true→R (.tup [.int .i64 (0),.int .i64 (2)]) [some ⟨1,cs⟩])∧(decide ((n:Int)<2)=false→(decide ((n:Int)>15)=true→R (.tup [.int .i64 (0),.int .i64 (2)]) [some ⟨1,cs⟩])∧(decide ((n:Int)>15)=false→(((a:Int)==IntKind.wrap .i64 (IntKind.wrap .u32 (a)))=true→decide ((0:Int)≤n)=true∧decide ((n:Int)<16)=true∧isI .u32 cs (Int.toNat (n)+3)=true∧decide ((0:Int)≤n)=true∧decide ((n:Int)<16)=true∧leB (Int.toNat (n)+4) (List.length cs)=true∧R (.tup [.int .i64 (IntKind.wrap .i64 (A0 cs (Int.toNat (n)+3))),.int .i64 (0)]) [some ⟨1,(setPart cs (Int.toNat (n)+3) (.int .u32 (IntKind.wrap .u32 (a))))⟩])∧(((a:Int)==IntKind.wrap .i64 (IntKind.wrap .u32 (a)))=false→R (.tup [.int .i64 (0),.int .i64 (2)]) [some ⟨1,cs⟩]))))∧(A5 cs (0)=false→R (.tup [.int .i64 (0),.int .i64 (1)]) [some ⟨1,cs⟩])):=by kernel_rfl
theorem t13 (G:Nat→List AV) (cs:List AV) (n:Int) (Q:Ex→List AV→Hp→Prop) (R:AV→Hp→Prop):vT G Q R (D0 (Dc Try.prog [55,56] [] [] 0) 200 10 Try.f77 [.ptr (.rw 0) (.lit 0),.int .i64 (.var 2 n)] [some ⟨1,.var 1 cs⟩] 1)=(
  isB cs (0)=true∧(A5 cs (0)=true→(decide ((n:Int)<1)=true→R (.tup [.int .u32 (0),.bool (false)]) [some ⟨1,cs⟩])∧(decide ((n:Int)<1)=false→(decide ((n:Int)>15)=true→R (.tup [.int .u32 (0),.bool (false)]) [some ⟨1,cs⟩])∧(decide ((n:Int)>15)=false→decide ((0:Int)≤n)=true∧decide ((n:Int)<16)=true∧isI .u32 cs (Int.toNat (n)+3)=true∧R (.tup [.int .u32 (A0 cs (Int.toNat (n)+3)),.bool (true)]) [some ⟨1,cs⟩])))∧(A5 cs (0)=false→R (.tup [.int .u32 (0),.bool (false)]) [some ⟨1,cs⟩])):=by kernel_rfl
theorem t32 (G:Nat→List AV) (cs:List AV) (Q:Ex→List AV→Hp→Prop) (R:AV→Hp→Prop):vT G Q R (D0 (Dc Try.prog [55,56] [] [] 0) 200 10 Try.f80 [.ptr (.rw 0) (.lit 0)] [some ⟨1,.var 1 cs⟩] 1)=(
  isB cs (0)=true∧(A5 cs (0)=true→isI .u32 cs (2)=true∧R (.int .i64 (IntKind.wrap .i64 (A0 cs (2)))) [some ⟨1,cs⟩])∧(A5 cs (0)=false→R (.int .i64 (0)) [some ⟨1,cs⟩])):=by kernel_rfl
theorem t17 (G:Nat→List AV) (cs:List AV) (Q:Ex→List AV→Hp→Prop) (R:AV→Hp→Prop):vT G Q R (D0 (Dc Try.prog [55,56] [] [] 0) 200 10 Try.f37 [.ptr (.rw 0) (.lit 0)] [some ⟨1,.var 1 cs⟩] 2)=(
  isB cs (0)=true∧(A5 cs (0)=true→leB (19) (List.length cs)=true∧cellsB (subL cs (0) (19))=true∧Nat.beq (List.length (subL cs (0) (19))) (19)=true∧R (.ptr (.rw 1) (0)) [some ⟨1,cs⟩,some ⟨1,(subL cs (0) (19))⟩])∧(A5 cs (0)=false→R (.nilp) [some ⟨1,cs⟩])):=by kernel_rfl
theorem t38 (G:Nat→List AV) (cs:List AV) (Q:Ex→List AV→Hp→Prop) (R:AV→Hp→Prop):vT G Q R (D0 (Dc Try.prog [55,56,37] [] [] 0) 200 10 Try.f58 [.ptr (.rw 0) (.lit 0)] [some ⟨1,.var 1 cs⟩] 2)=(
  isB cs (0)=true∧(A5 cs (0)=true→leB (19) (List.length cs)=true∧cellsB (subL cs (0) (19))=true∧Nat.beq (List.length (subL cs (0) (19))) (19)=true∧leB (2) (List.length (subL cs (0) (19)))=true∧R (.ptr (.rw 1) (0)) [some ⟨1,cs⟩,some ⟨1,(setPart (subL cs (0) (19)) (1) (.int .u32 (0)))⟩])∧(A5 cs (0)=false→R (.nilp) [some ⟨1,cs⟩])):=by kernel_rfl
theorem Kw (p:Sg) (k:Nat) (h:k≤19):leB k (encP p).length=true:=A6.2 (by rw [W5];exact h)
theorem Fl {n lo hi:Int} (h1:decide (n<lo)=false) (h2:decide (n>hi)=false):Y4 n lo hi=false:=by
 have:=of_decide_eq_false h1
 have:=of_decide_eq_false h2
 exact Np (by omega) (by omega)
theorem Kr {n lo hi:Int} (h1:decide (n<lo)=true):Y4 n lo hi=true:=Mn (.inl (of_decide_eq_true h1))
theorem Ks {n lo hi:Int} (h1:decide (n>hi)=true):Y4 n lo hi=true:=Mn (.inr (of_decide_eq_true h1))
theorem send_w (p:Sg) (n:Int) (h1:0≤n) (h2:n≤15):(encP p).set 1 (.int .u32 (nO .u32 (u p.wt) (W1 .u32 (Ct .u32 1 n) 65534)))=encP (send p n):=by
 have en:n=(n.toNat:Int):=by omega
 have e:nO .u32 (u p.wt) (W1 .u32 (Ct .u32 1 n) 65534)=u ((p.wt ||| Jy n.toNat) &&& 65534#32):=by
  rw [en,kShl1 (by omega),nR,kOr_w,Bl,Bl,Bl];congr 1;rw [Int.toNat_natCast]
  have:V0 65534=65534#32:=rfl
  rw [this]
  conv=>lhs;rw [←p.hw]
  rw [BitVec.and_comm p.wt,BitVec.and_comm (Jy n.toNat)];rw [BitVec.and_comm (p.wt ||| Jy n.toNat)];rw [BitVec.and_or_distrib_left]
 rw [e];rfl
theorem mP (G:Nat→List AV) (B:Nat):Xv (⟨Try.prog,G,B⟩:A3) 23 encP:=by
 intro p n;refine Z4.of (C:=(⟨Try.prog,G,B⟩:A3)) (rest:=[.int .i64 (.var 2 n)]) (dg G B) (by kernel_rfl) (by kernel_rfl) (by kernel_rfl) (fuel:=200) (n0:=10) (fn:=Try.f23) ?_;rw [t11];refine ⟨rfl,fun _=>⟨fun h=>?_,fun h=>⟨fun h'=>?_,fun h'=>⟨rfl,?_,Kw p _ (by omega),?_⟩⟩⟩,fun h=>by cases h⟩
 ·rw [Kr h];exact ⟨rfl,rfl⟩
 ·rw [Ks h'];exact ⟨rfl,rfl⟩
 ·exact decide_eq_true (by have:=of_decide_eq_false h;omega)
 ·rw [Fl h h'];refine ⟨rfl,?_⟩
  have:=of_decide_eq_false h
  have:=of_decide_eq_false h'
  simp only [Bool.false_eq_true,if_false,←send_w p n (by omega) (by omega)];rfl
theorem wY (G:Nat→List AV) (B:Nat):fE (⟨Try.prog,G,B⟩:A3) 64 encP:=by
 intro p n;refine Z4.of (C:=(⟨Try.prog,G,B⟩:A3)) (rest:=[.int .i64 (.var 2 n)]) (dg G B) (by kernel_rfl) (by kernel_rfl) (by kernel_rfl) (fuel:=200) (n0:=10) (fn:=Try.f64) ?_;rw [t12];refine ⟨rfl,fun _=>⟨rfl,Kw p _ (by omega),?_,?_⟩,fun h=>by cases h⟩
 ·have:IntKind.wrap .i64 (u p.hd)=u p.hd:=D9 (by have:=Sb p.hd;omega)
  rw [oR,this]
 ·have e:W1 .u32 (IntKind.wrap .u32 n) 65532=u (V0 n &&& 65532#32):=by rw [nR,zF];rfl
  rw [e];rfl
theorem zM {a:Int}:(a==IntKind.wrap .i64 (IntKind.wrap .u32 a))=!(Y4 a 0 4294967295):=by
 rw [IntKind.wrap_u32,D9 (by omega)];by_cases h:a<0∨4294967295<a
 ·rw [Mn h];simp;omega
 ·rw [Np (by omega) (by omega)];simp;omega
theorem aE7 (p:Sg) (n a:Int) (h1:2≤n) (h2:n≤15):(encP p).set (n.toNat+3) (.int .u32 (IntKind.wrap .u32 a))=encP (dS p n a):=by
 rw [lF];show (AV.bool true::.int .u32 (u p.wt)::.int .u32 (u p.hd)::Nj p.at_).set (n.toNat+3) _=_;simp only [List.set_cons_succ];show _=AV.bool true::.int .u32 (u p.wt)::.int .u32 (u p.hd)::Nj (updA p.at_ n.toNat (V0 a));congr 3;apply List.ext_getElem?;intro j;rw [List.getElem?_set,Hq];by_cases hj:j<16
 ·rw [Vj _ hj,Vj _ hj];unfold updA;by_cases he:n.toNat=j
  ·subst he;rw [if_pos rfl,if_pos (by omega),if_pos rfl,if_neg (by omega)]
  ·rw [if_neg he,if_neg (fun h=>he h.symm)]
 ·rw [List.getElem?_eq_none (by rw [Hq];omega),List.getElem?_eq_none (by rw [Hq];omega)];rw [if_neg (by omega)]
theorem aC2 (G:Nat→List AV) (B:Nat):bY (⟨Try.prog,G,B⟩:A3) 73 encP:=by
 intro p n a;refine Z4.of (C:=(⟨Try.prog,G,B⟩:A3)) (rest:=[.int .i64 (.var 2 n),.int .i64 (.var 3 a)]) (dg G B) (by kernel_rfl) (by kernel_rfl) (by kernel_rfl) (fuel:=200) (n0:=10) (fn:=Try.f73) ?_;rw [t10,zM];refine ⟨rfl,fun _=>⟨fun h=>?_,fun h=>⟨fun h'=>?_,fun h'=>⟨fun h3=>?_,fun h3=>?_⟩⟩⟩,fun h=>by cases h⟩
 ·rw [Kr h];exact ⟨rfl,rfl⟩
 ·rw [Ks h'];exact ⟨rfl,rfl⟩
 ·have g1:=of_decide_eq_false h;have g2:=of_decide_eq_false h';have h3:Y4 a 0 4294967295=false:=by simpa using h3
  refine ⟨decide_eq_true (by omega),decide_eq_true (by omega),bP p (by omega),decide_eq_true (by omega),decide_eq_true (by omega),Kw p _ (by omega),?_⟩;rw [Fl h h',h3]
  have:IntKind.wrap .i64 (u (p.at_ n.toNat))=u (p.at_ n.toNat):=D9 (by have:=Sb (p.at_ n.toNat);omega)
  rw [Re p (by omega),this];refine ⟨rfl,?_⟩;simp only [Bool.or_self,Bool.false_eq_true,if_false,←aE7 p n a (by omega) (by omega)];rfl
 ·have h3:Y4 a 0 4294967295=true:=by simpa using h3
  rw [h3,Bool.or_true];exact ⟨rfl,rfl⟩
theorem xA (G:Nat→List AV) (B:Nat):Xy (⟨Try.prog,G,B⟩:A3) 77 encP:=by
 intro p n;refine Z4.of (C:=(⟨Try.prog,G,B⟩:A3)) (rest:=[.int .i64 (.var 2 n)]) (dg G B) (by kernel_rfl) (by kernel_rfl) (by kernel_rfl) (fuel:=200) (n0:=10) (fn:=Try.f77) ?_;rw [t13];refine ⟨rfl,fun _=>⟨fun h=>?_,fun h=>⟨fun h'=>?_,fun h'=>?_⟩⟩,fun h=>by cases h⟩
 ·rw [Kr h];exact ⟨rfl,rfl⟩
 ·rw [Ks h'];exact ⟨rfl,rfl⟩
 ·have g1:=of_decide_eq_false h;have g2:=of_decide_eq_false h';refine ⟨decide_eq_true (by omega),decide_eq_true (by omega),bP p (by omega),?_⟩;rw [Fl h h',Re p (by omega)];exact ⟨rfl,rfl⟩
theorem p_held (G:Nat→List AV) (B:Nat):pG (⟨Try.prog,G,B⟩:A3) 80 encP:=by
 intro p;refine Z4.of (C:=(⟨Try.prog,G,B⟩:A3)) (rest:=[]) (dg G B) (by kernel_rfl) (by kernel_rfl) (by kernel_rfl) (fuel:=200) (n0:=10) (fn:=Try.f80) ?_;rw [t32];refine ⟨rfl,fun _=>⟨rfl,?_,rfl⟩,fun h=>by cases h⟩;rw [oR,D9 (by have:=Sb p.hd;omega)]
theorem lR (p:Sg):subL (encP p) 0 19=encP p:=by
 unfold subL;rw [List.drop_zero,List.take_of_length_le (by rw [W5];omega)]
theorem xC (G:Nat→List AV) (B:Nat):Mb (⟨Try.prog,G,B⟩:A3) 37 encP (fun _=>.ptr (.rw 1) 0) encP:=by
 intro p;refine New.of (C:=(⟨Try.prog,G,B⟩:A3)) (dg G B) (by kernel_rfl) (by kernel_rfl) (by kernel_rfl) (N7 _ _) (N7 _ _) (by simp [bnd]) (by simp) (fuel:=200) (n0:=10) (fn:=Try.f37) ?_;rw [t17];rw [lR];exact ⟨rfl,fun _=>⟨Kw p _ (by omega),Vc p,by rw [W5];rfl,rfl,rfl⟩,fun h=>by cases h⟩
theorem qU (G:Nat→List AV) (B:Nat):Mb (⟨Try.prog,G,B⟩:A3) 58 encP (fun _=>.ptr (.rw 1) 0) (fun p=>encP (Kn p 0#32)):=by
 intro p;refine New.of (C:=(⟨Try.prog,G,B⟩:A3)) (dgood (inl:=[55,56,37]) (sums:=[]) (ls:=[]) (M:=0) (mix G B) (by kernel_rfl) .nil .nil) (by kernel_rfl) (by kernel_rfl) (by kernel_rfl) (N7 _ _) (N7 _ _) (by simp [bnd]) (by simp) (fuel:=200) (n0:=10) (fn:=Try.f58) ?_;rw [t38];rw [lR];exact ⟨rfl,fun _=>⟨Kw p _ (by omega),Vc p,by rw [W5];rfl,Kw p _ (by omega),rfl,rfl⟩,fun h=>by cases h⟩
end Go.Am
namespace Go.Am
open Go.Proofs Crc
set_option maxRecDepth 100000
theorem aM1 (G:Nat→List AV) (cs r:List AV) (i:Int) (Q:Ex→List AV→Hp→Prop) (R:AV→Hp→Prop):vT G Q R (J6 (Dc Try.prog [55,56] [] [] 0) 200 10 1 (loopN Try.f66 0) 63 [0,2,4,5] [.ptr (.rw 0) (.lit 0),.ptr (.rw 1) (.lit 0),.int .i64 (.lit 0),.int .i64 (.var 2 i)] [some ⟨1,.var 1 cs⟩,some ⟨1,.var 3 r⟩])=(
  (decide ((i:Int)≤15)=true→isI .u32 cs (1)=true∧isI .u32 cs (2)=true∧decide ((0:Int)≤i)=true∧(((W1 .u32 (Hf .u32 (S9 .u32 (A0 cs (1)) (A0 cs (2))) (i)) (1):Int)==1)=true→Q (.exit 0) [.ptr (.rw 0) (0),.ptr (.rw 1) (0),.int .i64 (i),.int .i64 (i)] [some ⟨1,cs⟩,some ⟨1,r⟩])∧(((W1 .u32 (Hf .u32 (S9 .u32 (A0 cs (1)) (A0 cs (2))) (i)) (1):Int)==1)=false→Q .normal [.ptr (.rw 0) (0),.ptr (.rw 1) (0),.int .i64 (0),.int .i64 (IntKind.wrap .i64 (i+1))] [some ⟨1,cs⟩,some ⟨1,r⟩]))∧(decide ((i:Int)≤15)=false→Q (.exit 0) [.ptr (.rw 0) (0),.ptr (.rw 1) (0),.int .i64 (0),.int .i64 (i)] [some ⟨1,cs⟩,some ⟨1,r⟩])):=by kernel_rfl
theorem aB8 (G:Nat→List AV) (cs ds:List AV) (i:Int) (n:Nat) (Q:Ex→List AV→Hp→Prop) (R:AV→Hp→Prop):vT G Q R (J6 (Dc Try.prog [55,56,57] [] [] 0) 200 10 1 (loopN Try.f25 0) 27 [0,3,4,5] [.ptr (.rw 0) (.lit 0),.ptr (.rw 1) (.lit 0),.func 57 [.ptr (.rw 1) (.lit 0)],.int .i64 (.var 2 i)] [some ⟨1,.var 1 cs⟩,some ⟨1,.of [.slice true (.rw 2) (.lit 0) (.var 4 n)]⟩,some ⟨1,.var 3 ds⟩])=(
  isB cs (0)=true∧(A5 cs (0)=true→(decide ((i:Int)≤15)=true→isI .u32 cs (1)=true∧decide ((0:Int)≤i)=true∧(((W1 .u32 (Hf .u32 (A0 cs (1)) (i)) (1):Int)==1)=true→leB ((n+1)*8) (140737488355328)=true∧Nat.beq (List.length ds) (n)=true∧Q .normal [.ptr (.rw 0) (0),.ptr (.rw 1) (0),.func 57 [.ptr (.rw 1) (0)],.int .i64 (IntKind.wrap .i64 (i+1))] [some ⟨1,cs⟩,some ⟨1,([.slice true (.rw 4) (0) (n+1)]:List AV)⟩,none,some ⟨1,([.int .i64 (i)]:List AV)⟩,some ⟨1,(ds++([.int .i64 (i)]:List AV))⟩])∧(((W1 .u32 (Hf .u32 (A0 cs (1)) (i)) (1):Int)==1)=false→Q .normal [.ptr (.rw 0) (0),.ptr (.rw 1) (0),.func 57 [.ptr (.rw 1) (0)],.int .i64 (IntKind.wrap .i64 (i+1))] [some ⟨1,cs⟩,some ⟨1,([.slice true (.rw 2) (0) (n)]:List AV)⟩,some ⟨1,ds⟩]))∧(decide ((i:Int)≤15)=false→Q (.exit 0) [.ptr (.rw 0) (0),.ptr (.rw 1) (0),.func 57 [.ptr (.rw 1) (0)],.int .i64 (i)] [some ⟨1,cs⟩,some ⟨1,([.slice true (.rw 2) (0) (n)]:List AV)⟩,some ⟨1,ds⟩]))∧(A5 cs (0)=false→Q (.exit 0) [.ptr (.rw 0) (0),.ptr (.rw 1) (0),.func 57 [.ptr (.rw 1) (0)],.int .i64 (i)] [some ⟨1,cs⟩,some ⟨1,([.slice true (.rw 2) (0) (n)]:List AV)⟩,some ⟨1,ds⟩])):=by kernel_rfl
theorem fA (x:Wd) (i:Nat) (h:i<32):((W1 .u32 (Hf .u32 (u x) (i:Int)) 1:Int)==1)=x.getLsbD i:=by
 rw [aU2 x i h];cases x.getLsbD i<;>rfl
def Q6:List AV→Int:=Gz 0 fun p=>tkN p
theorem aM0 (G:Nat→List AV) (B:Nat) (p:Sg) (r:List AV):AWp (⟨Try.prog,G,B⟩:A3) 1 (.loop (loopN Try.f66 0)) (fl 63 [0,2,4,5] [.ptr (.rw 0) 0,.ptr (.rw 1) 0,.int .i64 0,.int .i64 1]) [some ⟨1,encP p⟩,some ⟨1,r⟩]
  (lv 63 [0,2,4,5] fun e vs H=>e=.exit 0∧wk [.ptr (.rw 0) 0,.ptr (.rw 1) 0,.int .i64 (tkN p),.undef] vs∧H=[some ⟨1,encP p⟩,some ⟨1,r⟩]):=by
 let x:Wd:=p.wt &&& ~~~ p.hd
 refine Ci (fun j vs H=>∃ i:Nat,1≤i∧i≤16∧j=16 - i∧X5 x (16 - i) i=tkN p∧vs=[.ptr (.rw 0) 0,.ptr (.rw 1) 0,.int .i64 0,.int .i64 (i:Int)]∧H=[some ⟨1,encP p⟩,some ⟨1,r⟩]) 15
  ⟨1,by omega,by omega,rfl,rfl,rfl,rfl⟩ ?_
 rintro j vs H ⟨i,hi1,hi2,rfl,hlow,rfl,rfl⟩;refine E2 (C:=(⟨Try.prog,G,B⟩:A3)) (dg G B) (fuel:=200) (n0:=10) (m:=1) (c:=loopN Try.f66 0) (vs:=[.ptr (.rw 0) (.lit 0),.ptr (.rw 1) (.lit 0),.int .i64 (.lit 0),.int .i64 (.var 2 (i:Int))]) (H:=[some ⟨1,.var 1 (encP p)⟩,some ⟨1,.var 3 r⟩]) (by simp) ?_;rw [aM1];rw [oS,oR,iY,Bl,Bl];refine ⟨fun h=>⟨rfl,rfl,decide_eq_true (by omega),fun hb=>?_,fun hb=>?_⟩,fun h=>?_⟩
 ·have h:=of_decide_eq_true h;rw [fA x i (by omega)] at hb
  have:16 - i=(15 - i)+1:=by omega
  rw [this,Pp,hb,if_pos rfl] at hlow;rw [←hlow];exact ⟨rfl,by simp [wk],rfl⟩
 ·have h:=of_decide_eq_true h;rw [fA x i (by omega)] at hb
  have:16 - i=(15 - i)+1:=by omega
  rw [this,Pp,hb,if_neg (by simp)] at hlow;refine ⟨16 - (i+1),by omega,.inl ⟨i+1,by omega,by omega,rfl,?_,by rw [D9 (by omega)];rfl,rfl⟩⟩;rw [show 16 - (i+1)=15 - i by omega];exact hlow
 ·have h:=of_decide_eq_false h
  have:i=16:=by omega
  subst this;rw [←hlow];exact ⟨rfl,by simp [wk,X5],rfl⟩
def tkL:DL:=⟨0,63,[0,2,4,5],fun vs H=>match vs,H with
 | [.ptr (.rw 0) (.lit 0),.ptr (.rw 1) (.lit 0),.int .i64 (.lit 0),.int .i64 (.lit 1)],[some ⟨1,l⟩,some ⟨1,r⟩]=>
  some (.chk (.uf 1001 okU [.agg l]) (.one (.exit 0) [.ptr (.rw 0) (.lit 0),.ptr (.rw 1) (.lit 0),.int .i64 (.uf 1030 Q6 [.agg l]),.undef] [some ⟨1,l⟩,some ⟨1,r⟩]))
 | _,_=>none⟩
theorem Tp (p:Sg):Q6 [.agg (encP p)]=tkN p:=by simp only [Q6,Gz,E8]
theorem tkL_ok (G:Nat→List AV) (B:Nat):O9 (⟨Try.prog,G,B⟩:A3) 1 (loopN Try.f66 0) tkL:=by
 refine .of fun vs H o ho n Q hQ=>?_;simp only [tkL] at ho;split at ho
 ·rename_i l r;simp only [Option.some.injEq] at ho;subst ho;obtain ⟨h1,h2⟩:=hQ;simp only [vB,vVs,vV] at h1;have hl:vL G l=encP (Hh (vL G l)):=Pk h1;refine lone ?_ h2;simp only [tkL,vVs,vV,vR,vN,vI,vHp,List.map_cons,List.map_nil,Option.map_some,C9];rw [hl,Tp];exact aM0 G B _ _
 ·simp at ho
theorem dgT (G:Nat→List AV) (B:Nat):I9 (⟨Try.prog,G,B⟩:A3) (Dc Try.prog [55] [] [tkL] 1) (loopsOf (bodyOf Try.f66)):=dgood (mix G B) (by kernel_rfl) .nil (.cast (.cons (i:=0) (by kernel_rfl) rfl (tkL_ok G B) .nil) (by kernel_rfl))
theorem t14 (G:Nat→List AV) (cs:List AV) (Q:Ex→List AV→Hp→Prop) (R:AV→Hp→Prop):vT G Q R (D0 (Dc Try.prog [55] [] [tkL] 1) 200 10 Try.f66 [.ptr (.rw 0) (.lit 0)] [some ⟨1,.var 1 cs⟩] 1)=(
  isB cs (0)=true∧(A5 cs (0)=true→okU [.agg cs]=true∧(((Q6 [.agg cs]:Int)==0)=true→R (.tup [.agg ([.int .i64 (0),.bool (false),.int .u32 (0)]:List AV),.bool (false)]) [some ⟨1,cs⟩])∧(((Q6 [.agg cs]:Int)==0)=false→isI .u32 cs (1)=true∧decide ((0:Int)≤Q6 [.agg cs])=true∧leB (2) (List.length cs)=true∧decide ((0:Int)≤Q6 [.agg cs])=true∧decide ((Q6 [.agg cs]:Int)<16)=true∧isI .u32 (setPart cs (1) (.int .u32 (S9 .u32 (A0 cs (1)) (Ct .u32 (1) (Q6 [.agg cs]))))) (Int.toNat (Q6 [.agg cs])+3)=true∧(((A0 (setPart cs (1) (.int .u32 (S9 .u32 (A0 cs (1)) (Ct .u32 (1) (Q6 [.agg cs]))))) (Int.toNat (Q6 [.agg cs])+3):Int)==1)=true→R (.tup [.agg ([.int .i64 (0),.bool (false),.int .u32 (0)]:List AV),.bool (false)]) [some ⟨1,(setPart cs (1) (.int .u32 (S9 .u32 (A0 cs (1)) (Ct .u32 (1) (Q6 [.agg cs])))))⟩])∧(((A0 (setPart cs (1) (.int .u32 (S9 .u32 (A0 cs (1)) (Ct .u32 (1) (Q6 [.agg cs]))))) (Int.toNat (Q6 [.agg cs])+3):Int)==1)=false→decide ((0:Int)≤Q6 [.agg cs])=true∧decide ((Q6 [.agg cs]:Int)<16)=true∧isI .u32 (setPart cs (1) (.int .u32 (S9 .u32 (A0 cs (1)) (Ct .u32 (1) (Q6 [.agg cs]))))) (Int.toNat (Q6 [.agg cs])+3)=true∧decide ((0:Int)≤Q6 [.agg cs])=true∧decide ((Q6 [.agg cs]:Int)<16)=true∧isI .u32 (setPart cs (1) (.int .u32 (S9 .u32 (A0 cs (1)) (Ct .u32 (1) (Q6 [.agg cs]))))) (Int.toNat (Q6 [.agg cs])+3)=true∧
 R (.tup [.agg ([.int .i64 (Q6 [.agg cs]),.bool (((A0 (setPart cs (1) (.int .u32 (S9 .u32 (A0 cs (1)) (Ct .u32 (1) (Q6 [.agg cs]))))) (Int.toNat (Q6 [.agg cs])+3):Int)==0)),.int .u32 (A0 (setPart cs (1) (.int .u32 (S9 .u32 (A0 cs (1)) (Ct .u32 (1) (Q6 [.agg cs]))))) (Int.toNat (Q6 [.agg cs])+3))]:List AV),.bool (true)]) [some ⟨1,(setPart cs (1) (.int .u32 (S9 .u32 (A0 cs (1)) (Ct .u32 (1) (Q6 [.agg cs])))))⟩])))∧(A5 cs (0)=false→R (.tup [.agg ([.int .i64 (0),.bool (false),.int .u32 (0)]:List AV),.bool (false)]) [some ⟨1,cs⟩])):=by kernel_rfl
theorem take_w (p:Sg) (h0:tkN p≠0):setPart (encP p) 1 (.int .u32 (S9 .u32 (u p.wt) (Ct .u32 1 (tkN p:Int))))=encP (Io p):=by
 have hlt:tkN p<16:=Wy _
 have e:S9 .u32 (u p.wt) (Ct .u32 1 (tkN p:Int))=u ((p.wt &&& ~~~ Jy (tkN p)) &&& 65534#32):=by
  rw [kShl1 (by omega),iY,Bl,Bl];congr 1
  conv=>lhs;rw [←p.hw]
  rw [BitVec.and_assoc,BitVec.and_assoc,BitVec.and_comm 65534#32]
 rw [e];unfold Io;rw [if_neg h0];rfl
theorem vP (p:Sg) (i:Nat):(Io p).at_ i=p.at_ i:=by unfold Io;split<;>rfl
theorem p_take (G:Nat→List AV) (B:Nat):pD (⟨Try.prog,G,B⟩:A3) 66 encP:=by
 intro p;refine Z4.of (C:=(⟨Try.prog,G,B⟩:A3)) (rest:=[]) (dgT G B) (by kernel_rfl) (by kernel_rfl) (by kernel_rfl) (fuel:=200) (n0:=10) (fn:=Try.f66) ?_;rw [t14,Tp,oS,Int.toNat_natCast];have hlt:tkN p<16:=Wy _;refine ⟨rfl,fun _=>⟨O8 p,fun h=>?_,fun h=>?_⟩,fun h=>by cases h⟩
 ·have h0:tkN p=0:=by have:=eq_of_beq h;omega
  refine ⟨by simp [Vy,T8,Bo,Kh,Co,h0],by simp [Io,h0]⟩
 ·have h0:tkN p≠0:=by
   intro h1;rw [h1] at h;cases h
  have hb:Nat.beq (tkN p) 0=false:=by
   cases h1:tkN p with
   | zero=>exact absurd h1 h0
   | succ n=>rfl
  rw [take_w p h0,Re _ hlt,vP];have a1:decide ((0:Int)≤(tkN p:Int))=true:=decide_eq_true (by omega);have a2:decide ((tkN p:Int)<16)=true:=decide_eq_true (by omega);have a3:=bP (Io p) hlt;refine ⟨rfl,a1,Kw p _ (by omega),a1,a2,a3,fun h1=>?_,fun h1=>⟨a1,a2,a3,a1,a2,a3,?_⟩⟩
  ·have h1:p.at_ (tkN p)=1#32:=by
    have:=congrArg V0 (eq_of_beq h1)
    rw [Bl] at this;exact this
   exact ⟨by simp [Vy,T8,Bo,Kh,Co,h1],rfl⟩
  ·have h1:(p.at_ (tkN p)==1#32)=false:=by
    rw [beq_eq_false_iff_ne];intro h;rw [h] at h1;cases h1
   have hok:Co p=true:=by simp [Co,hb,h1]
   have he:(u (p.at_ (tkN p))==0)=(p.at_ (tkN p)==0#32):=sH (p.at_ (tkN p)) 0#32;refine ⟨?_,rfl⟩;simp only [Vy,T8,Bo,Kh,hok,if_true,Bool.true_and,he]
theorem dgN (G:Nat→List AV) (B:Nat):I9 (⟨Try.prog,G,B⟩:A3) (Dc Try.prog [55,56,57] [] [] 0) []:=dgood (mix G B) (by kernel_rfl) .nil .nil
theorem aP5 (G:Nat→List AV) (B:Nat) (p:Sg):AWp (⟨Try.prog,G,B⟩:A3) 1 (.loop (loopN Try.f25 0)) (fl 27 [0,3,4,5] [.ptr (.rw 0) 0,.ptr (.rw 1) 0,.func 57 [.ptr (.rw 1) 0],.int .i64 1]) [some ⟨1,encP p⟩,some ⟨1,[.slice true (.rw 2) 0 0]⟩,some ⟨1,[]⟩]
  (lv 27 [0,3,4,5] fun e vs H=>e=.exit 0∧wk [.ptr (.rw 0) 0,.ptr (.rw 1) 0,.func 57 [.ptr (.rw 1) 0],.undef] vs∧H=[some ⟨1,encP p⟩,some ⟨1,[.slice true (.rw 2) 0 (Ao p.wt).length]⟩,some ⟨1,nl (Ao p.wt)⟩]):=by
 refine Ci (fun j vs H=>∃ i:Nat,i≤15∧j=15 - i∧vs=[.ptr (.rw 0) 0,.ptr (.rw 1) 0,.func 57 [.ptr (.rw 1) 0],.int .i64 ((i+1:Nat):Int)]∧H=[some ⟨1,encP p⟩,some ⟨1,[.slice true (.rw 2) 0 (Q4 p.wt i).length]⟩,some ⟨1,nl (Q4 p.wt i)⟩]) 15
  ⟨0,by omega,rfl,rfl,rfl⟩ ?_
 rintro j vs H ⟨i,hi,rfl,rfl,rfl⟩
 refine E2 (C:=(⟨Try.prog,G,B⟩:A3)) (dgN G B) (fuel:=200) (n0:=10) (m:=1) (c:=loopN Try.f25 0) (vs:=[.ptr (.rw 0) (.lit 0),.ptr (.rw 1) (.lit 0),.func 57 [.ptr (.rw 1) (.lit 0)],.int .i64 (.var 2 ((i+1:Nat):Int))])
  (H:=[some ⟨1,.var 1 (encP p)⟩,some ⟨1,.of [.slice true (.rw 2) (.lit 0) (.var 4 (Q4 p.wt i).length)]⟩,some ⟨1,.var 3 (nl (Q4 p.wt i))⟩]) (by simp) ?_
 rw [aB8,oS];have hlen:=Vp p.wt i;refine ⟨rfl,fun _=>⟨fun h=>⟨rfl,decide_eq_true (by omega),fun hb=>⟨A6.2 (by omega),by rw [Qr];exact Nat.beq_refl _,?_⟩,fun hb=>?_⟩,fun h=>?_⟩,fun h=>by cases h⟩
 ·have h:=of_decide_eq_true h;rw [fA _ _ (by omega)] at hb;have hs:Q4 p.wt (i+1)=Q4 p.wt i++[i+1]:=by rw [Lr,hb];rfl
  refine ⟨15 - (i+1),by omega,.inr ⟨_,_,⟨i+1,by omega,rfl,rfl,rfl⟩,?_⟩⟩;rw [hs];refine C8.renM (θ:=[0,1,4]) (by simp) oG (by decide) ⟨⟨N7 _ _,by rw [E0 _ _ (N7 0 p)];rfl⟩,⟨by simp [A8,bnd],by simp [rens,ren]⟩,⟨L3 _ _,by rw [Oi,Qs];rfl⟩,trivial⟩ (by simp [A8,bnd]) ?_;have e5:=D9 (n:=((i+1:Nat):Int)+1) (by omega);simp [rens,ren,wk] at e5 ⊢;exact e5
 ·have h:=of_decide_eq_true h;rw [fA _ _ (by omega)] at hb;have hs:Q4 p.wt (i+1)=Q4 p.wt i:=by rw [Lr,hb];simp
  refine ⟨15 - (i+1),by omega,.inl ⟨i+1,by omega,rfl,by rw [D9 (by omega)];rfl,by rw [hs]⟩⟩
 ·have h:=of_decide_eq_false h
  have:i=15:=by omega
  subst this;exact ⟨rfl,by simp [wk],rfl⟩
def pnL:DL:=⟨0,27,[0,3,4,5],fun vs H=>match vs,H with
 | [.ptr (.rw 0) (.lit 0),.ptr (.rw 1) (.lit 0),.func 57 [.ptr (.rw 1) (.lit 0)],.int .i64 (.lit 1)],[some ⟨1,l⟩,some ⟨1,.of [.nils]⟩]=>
  some (.chk (.uf 1001 okU [.agg l]) (.one (.exit 0) [.ptr (.rw 0) (.lit 0),.ptr (.rw 1) (.lit 0),.func 57 [.ptr (.rw 1) (.lit 0)],.undef] [some ⟨1,l⟩,some ⟨1,.of [.slice true (.rw 2) (.lit 0) (.uf 1021 Fj [.agg l])]⟩,some ⟨1,.uf 1020 Jm [.agg l]⟩]))
 | _,_=>none⟩
theorem pnL_ok (G:Nat→List AV) (B:Nat):O9 (⟨Try.prog,G,B⟩:A3) 1 (loopN Try.f25 0) pnL:=by
 refine .of fun vs H o ho n Q hQ=>?_;simp only [pnL] at ho;split at ho
 ·rename_i l;simp only [Option.some.injEq] at ho;subst ho;obtain ⟨h1,h2⟩:=hQ;simp only [vB,vVs,vV] at h1;have hl:vL G l=encP (Hh (vL G l)):=Pk h1;refine lone ?_ h2;simp only [pnL,vVs,vV,vR,vN,vI,vL,vHp,List.map_cons,List.map_nil,Option.map_some,C9];rw [hl,Gm,Ir];exact AWp.nil (H:=[some ⟨1,encP _⟩,some ⟨1,[.slice true (.rw 2) 0 0]⟩]) 1 (by simp) (W4 _) ⟨⟨rfl,W4 _⟩,⟨rfl,.inr ⟨rfl,rfl⟩,trivial⟩,trivial⟩ (aP5 G B _)
 ·simp at ho
theorem dgP (G:Nat→List AV) (B:Nat):I9 (⟨Try.prog,G,B⟩:A3) (Dc Try.prog [55] [] [pnL] 1) (loopsOf (bodyOf Try.f25)):=dgood (mix G B) (by kernel_rfl) .nil (.cast (.cons (i:=0) (by kernel_rfl) rfl (pnL_ok G B) .nil) (by kernel_rfl))
theorem t16 (G:Nat→List AV) (cs:List AV) (Q:Ex→List AV→Hp→Prop) (R:AV→Hp→Prop):vT G Q R (D0 (Dc Try.prog [55] [] [pnL] 1) 200 10 Try.f25 [.ptr (.rw 0) (.lit 0)] [some ⟨1,.var 1 cs⟩] 3)=(
  okU [.agg cs]=true∧R (.slice true (.rw 2) (0) (Fj [.agg cs])) [some ⟨1,cs⟩,some ⟨1,([.slice true (.rw 2) (0) (Fj [.agg cs])]:List AV)⟩,some ⟨1,(Jm [.agg cs])⟩]):=by kernel_rfl
theorem p_pend (G:Nat→List AV) (B:Nat):Mb (⟨Try.prog,G,B⟩:A3) 25 encP (fun p=>.slice true (.rw 1) 0 (Ao p.wt).length) (fun p=>nl (Ao p.wt)):=by
 intro p
 have key:=D3 (C:=(⟨Try.prog,G,B⟩:A3)) (f:=25) (R:=fun v' H'=>v'=.slice true (.rw 2) 0 (Ao p.wt).length∧H'=[some ⟨1,encP p⟩,some ⟨1,[.slice true (.rw 2) 0 (Ao p.wt).length]⟩,some ⟨1,nl (Ao p.wt)⟩]) (dgP G B) (by kernel_rfl) (by kernel_rfl) (by kernel_rfl) (fuel:=200) (n0:=10) (keep:=3) (args:=[.ptr (.rw 0) (.lit 0)]) (H:=[some ⟨1,.var 1 (encP p)⟩]) (by
  rw [t16,Gm,Ir]
  exact ⟨O8 p,rfl,rfl⟩)
 simp only [vVs,vV,vR,vN,vHp,List.map_cons,List.map_nil,Option.map_some,C9,vL] at key;have key:=key.keep (by simp) (by simp [D7,N7,L3,A8,bnd]) (by simp [bnd]) (by simp);refine key.view fun v H' ⟨h1,h2⟩=>⟨_,_,⟨rfl,rfl⟩,?_⟩;subst h1 h2;refine C8.renM (θ:=[0,2]) (by simp) oG (by decide) ⟨⟨N7 _ _,by rw [E0 _ _ (N7 0 p)];rfl⟩,⟨L3 _ _,by rw [Oi];rfl⟩,trivial⟩ (by simp [A8,bnd]) ?_;simp [rens,ren,wk]
end Go.Am
