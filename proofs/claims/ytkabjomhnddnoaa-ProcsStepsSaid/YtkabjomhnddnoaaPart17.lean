/-
  Processes: the program's Kill: the trees of the iterator and of the ca Processes: the program's Kill: the iterator's loop.
-/
import Derived.Test.YtkabjomhnddnoaaPart16
import Derived.Test.YtkabjomhnddnoaaPart15
import Derived.Test.YtkabjomhnddnoaaPart13
namespace Go.Am
open Go.Proofs Crc
set_option maxRecDepth 100000
theorem m_it (G:Nat→List AV) (ry:List AV→Bool) (tb sl rc ar sn:List AV) (to sg me:Int) (st sm sv sw:Bool) (i:Nat) (Q:Ex→List AV→Hp→Prop) (R:AV→Hp→Prop):vT G Q R (J6 (Dr Try.prog [] [] [] [] (Jc 2350 22 ry (.one (.bool (.lit true)) [.set 1 ⟨1,.row (.var 31 sn) (.lit 0)⟩,.set 2 ⟨1,.row (.var 31 sn) (.lit 1)⟩,.set 3 ⟨1,.row (.var 31 sn) (.lit 2)⟩,.set 4 ⟨1,.row (.var 31 sn) (.lit 3)⟩,.set 5 ⟨1,.row (.var 31 sn) (.lit 4)⟩,.set 6 ⟨1,.row (.var 31 sn) (.lit 5)⟩,.set 7 ⟨1,.row (.var 31 sn) (.lit 6)⟩,.set 8 ⟨1,.row (.var 31 sn) (.lit 7)⟩,.set 9 ⟨1,.row (.var 31 sn) (.lit 8)⟩,.set 10 ⟨1,.row (.var 31 sn) (.lit 9)⟩,.set 11 ⟨1,.row (.var 31 sn) (.lit 10)⟩,.set 12 ⟨1,.row (.var 31 sn) (.lit 11)⟩,.set 13 ⟨1,.row (.var 31 sn) (.lit 12)⟩,.set 18 ⟨1,.of [.bool (.var 32 sv)]⟩,.set 20 ⟨1,.of [.bool (.var 33 sw)]⟩])) 23) 300 60 23 (loopN Try.f76 0) 27 [0,11,12] [.yld 22,.agg (.var 25 ar),.int .i64 (.ofN (.var 35 i))] (X2 (.var 1 tb) (.var 2 sl) (.var 3 to) (.var 4 sg) (.var 5 me) (.var 6 st) (.var 7 sm) (.var 24 rc)))=(
  (decide ((((i:Nat):Int):Int)<13)=true→decide ((0:Int)≤((i:Nat):Int))=true∧decide ((((i:Nat):Int):Int)<13)=true∧leB ((i)*7+7) (List.length ar)=true∧cellsB (subL ar ((i)*7) (7))=true∧Nat.beq (List.length (subL ar ((i)*7) (7))) (7)=true∧isI .i64 (subL ar ((i)*7) (7)) (0)=true∧(decide ((A0 (subL ar ((i)*7) (7)) (0):Int)>0)=true→leB (6) (List.length (subL ar ((i)*7) (7)))=true∧(ry) [.agg ([.agg (subL (subL ar ((i)*7) (7)) (0) (6))]:List AV),.agg ((Ez [.tup [.int .i64 (1),.agg tb]] sl [.tup [.int .i64 (1),.agg ([.ptr (.rw 0) (0)]:List AV)],.tup [.int .i64 (1),.agg ([.int .i64 (to)]:List AV)],.tup [.int .i64 (1),.agg ([.int .i64 (sg)]:List AV)],.tup [.int .i64 (1),.agg ([.int .i64 (me)]:List AV)],.tup [.int .i64 (1),.agg ([.bool (st)]:List AV)],.tup [.int .i64 (1),.agg ([.func 53 [.ptr (.rw 17) (0),.ptr (.rw 14) (0),.ptr (.rw 18) (0),.ptr (.rw 16) (0)]]:List AV)],.tup [.int .i64 (1),.agg ([.bool (sm)]:List AV)],.tup [.int .i64 (1),.agg ([.ptr (.rw 0) (0)]:List AV)],.tup [.int .i64 (4294967291),.agg rc],.tup [.int .i64 (1),.agg (subL ar ((i)*7) (7))]]):List AV)]=true∧Q .normal [.yld 22,.agg ar,.int .i64 (IntKind.wrap .i64 (((i:Nat):Int)+1))] ([some ⟨1,tb⟩]++(A2 sn++[some ⟨1,([.ptr (.rw 0) (0)]:List AV)⟩,some ⟨1,([.int .i64 (to)]:List AV)⟩,some ⟨1,([.int .i64 (sg)]:List AV)⟩,some ⟨1,([.int .i64 (me)]:List AV)⟩,some ⟨1,([.bool (sv)]:List AV)⟩,some ⟨1,([.func 53 [.ptr (.rw 17) (0),.ptr (.rw 14) (0),.ptr (.rw 18) (0),.ptr (.rw 16) (0)]]:List AV)⟩,some ⟨1,([.bool (sw)]:List AV)⟩,some ⟨1,([.ptr (.rw 0) (0)]:List AV)⟩,some ⟨4294967291,rc⟩,some ⟨1,(subL ar ((i)*7) (7))⟩])))∧(decide ((A0 (subL ar ((i)*7) (7)) (0):Int)>0)=false→
 Q .normal [.yld 22,.agg ar,.int .i64 (IntKind.wrap .i64 (((i:Nat):Int)+1))] ([some ⟨1,tb⟩]++(A2 sl++[some ⟨1,([.ptr (.rw 0) (0)]:List AV)⟩,some ⟨1,([.int .i64 (to)]:List AV)⟩,some ⟨1,([.int .i64 (sg)]:List AV)⟩,some ⟨1,([.int .i64 (me)]:List AV)⟩,some ⟨1,([.bool (st)]:List AV)⟩,some ⟨1,([.func 53 [.ptr (.rw 17) (0),.ptr (.rw 14) (0),.ptr (.rw 18) (0),.ptr (.rw 16) (0)]]:List AV)⟩,some ⟨1,([.bool (sm)]:List AV)⟩,some ⟨1,([.ptr (.rw 0) (0)]:List AV)⟩,some ⟨4294967291,rc⟩,some ⟨1,(subL ar ((i)*7) (7))⟩]))))∧(decide ((((i:Nat):Int):Int)<13)=false→Q (.exit 0) [.yld 22,.agg ar,.int .i64 (((i:Nat):Int))] ([some ⟨1,tb⟩]++(A2 sl++[some ⟨1,([.ptr (.rw 0) (0)]:List AV)⟩,some ⟨1,([.int .i64 (to)]:List AV)⟩,some ⟨1,([.int .i64 (sg)]:List AV)⟩,some ⟨1,([.int .i64 (me)]:List AV)⟩,some ⟨1,([.bool (st)]:List AV)⟩,some ⟨1,([.func 53 [.ptr (.rw 17) (0),.ptr (.rw 14) (0),.ptr (.rw 18) (0),.ptr (.rw 16) (0)]]:List AV)⟩,some ⟨1,([.bool (sm)]:List AV)⟩,some ⟨1,([.ptr (.rw 0) (0)]:List AV)⟩,some ⟨4294967291,rc⟩])))):=by kernel_rfl
theorem m76 (G:Nat→List AV) (rl:List AV→Bool) (tb sl rc sn:List AV) (to sg me:Int) (st sm sv sw:Bool) (Q:Ex→List AV→Hp→Prop) (R:AV→Hp→Prop):vT G Q R (D0 (Dr Try.prog [36] [] [E5 2351 (rl) 0 27 [0,11,12] (.one (.exit 0) [.undef,.undef,.undef] (X2 (.var 1 tb) (.var 31 sn) (.var 3 to) (.var 4 sg) (.var 5 me) (.var 32 sv) (.var 33 sw) (.var 24 rc)))] [] noY 23) 300 60 Try.f76 [.yld 22,.ptr (.rw 21) (.lit 0)] (X2 (.var 1 tb) (.var 2 sl) (.var 3 to) (.var 4 sg) (.var 5 me) (.var 6 st) (.var 7 sm) (.var 24 rc)) 23)=(
  isB tb (0)=true∧(A5 tb (0)=true→leB (92) (List.length tb)=true∧(rl) [.agg ([.yld 22,.agg (subL tb (1) (91)),.int .i64 (0)]:List AV),.agg ((Ez [.tup [.int .i64 (1),.agg tb]] sl [.tup [.int .i64 (1),.agg ([.ptr (.rw 0) (0)]:List AV)],.tup [.int .i64 (1),.agg ([.int .i64 (to)]:List AV)],.tup [.int .i64 (1),.agg ([.int .i64 (sg)]:List AV)],.tup [.int .i64 (1),.agg ([.int .i64 (me)]:List AV)],.tup [.int .i64 (1),.agg ([.bool (st)]:List AV)],.tup [.int .i64 (1),.agg ([.func 53 [.ptr (.rw 17) (0),.ptr (.rw 14) (0),.ptr (.rw 18) (0),.ptr (.rw 16) (0)]]:List AV)],.tup [.int .i64 (1),.agg ([.bool (sm)]:List AV)],.tup [.int .i64 (1),.agg ([.ptr (.rw 0) (0)]:List AV)],.tup [.int .i64 (4294967291),.agg rc]]):List AV)]=true∧R (.tup []) ([some ⟨1,tb⟩]++(A2 sn++[some ⟨1,([.ptr (.rw 0) (0)]:List AV)⟩,some ⟨1,([.int .i64 (to)]:List AV)⟩,some ⟨1,([.int .i64 (sg)]:List AV)⟩,some ⟨1,([.int .i64 (me)]:List AV)⟩,some ⟨1,([.bool (sv)]:List AV)⟩,some ⟨1,([.func 53 [.ptr (.rw 17) (0),.ptr (.rw 14) (0),.ptr (.rw 18) (0),.ptr (.rw 16) (0)]]:List AV)⟩,some ⟨1,([.bool (sw)]:List AV)⟩,some ⟨1,([.ptr (.rw 0) (0)]:List AV)⟩,some ⟨4294967291,rc⟩])))∧(A5 tb (0)=false→R (.tup []) ([some ⟨1,tb⟩]++(A2 sl++[some ⟨1,([.ptr (.rw 0) (0)]:List AV)⟩,some ⟨1,([.int .i64 (to)]:List AV)⟩,some ⟨1,([.int .i64 (sg)]:List AV)⟩,some ⟨1,([.int .i64 (me)]:List AV)⟩,some ⟨1,([.bool (st)]:List AV)⟩,some ⟨1,([.func 53 [.ptr (.rw 17) (0),.ptr (.rw 14) (0),.ptr (.rw 18) (0),.ptr (.rw 16) (0)]]:List AV)⟩,some ⟨1,([.bool (sm)]:List AV)⟩,some ⟨1,([.ptr (.rw 0) (0)]:List AV)⟩,some ⟨4294967291,rc⟩])))):=by kernel_rfl
def HMe (T S:EL) (to sg me:EI) (st sm:EB):DHp:=[some ⟨1,T⟩,some ⟨1,.row S (.lit 0)⟩,some ⟨1,.row S (.lit 1)⟩,some ⟨1,.row S (.lit 2)⟩,some ⟨1,.row S (.lit 3)⟩,some ⟨1,.row S (.lit 4)⟩,some ⟨1,.row S (.lit 5)⟩,some ⟨1,.row S (.lit 6)⟩,some ⟨1,.row S (.lit 7)⟩,some ⟨1,.row S (.lit 8)⟩,some ⟨1,.row S (.lit 9)⟩,some ⟨1,.row S (.lit 10)⟩,some ⟨1,.row S (.lit 11)⟩,some ⟨1,.row S (.lit 12)⟩,some ⟨1,.of [.ptr (.rw 0) (.lit 0)]⟩,some ⟨1,.of [.int .i64 to]⟩,some ⟨1,.of [.int .i64 sg]⟩,some ⟨1,.of [.int .i64 me]⟩,some ⟨1,.of [.bool st]⟩,some ⟨1,.of [.func 53 [.ptr (.rw 17) (.lit 0),.ptr (.rw 14) (.lit 0),.ptr (.rw 18) (.lit 0),.ptr (.rw 16) (.lit 0)]]⟩,some ⟨1,.of [.bool sm]⟩,some ⟨1,.of [.ptr (.rw 0) (.lit 0)]⟩]
theorem m21 (G:Nat→List AV) (rr:List AV→Bool) (tb sl sn:List AV) (n to sg me:Int) (sv sw:Bool) (Q:Ex→List AV→Hp→Prop) (R:AV→Hp→Prop):vT G Q R (D0 (Dr Try.prog [36,38,39,20,54] [] [] [E5 2352 (rr) 44 71 [6,8,11,12,13,43] (.one .normal [.ptr (.rw 15) (.lit 0),.int .i64 (.lit 0),.ptr (.rw 18) (.lit 0),.ptr (.rw 19) (.lit 0),.ptr (.rw 20) (.lit 0),.func 76 [.ptr (.rw 21) (.lit 0)]] (HMe (.var 1 tb) (.var 31 sn) (.var 3 to) (.var 4 sg) (.var 5 me) (.var 32 sv) (.var 33 sw)))] noY 22) 300 60 Try.f21 [.ptr (.rw 0) (.lit 0),.int .i64 (.var 34 n),.int .i64 (.var 3 to),.int .i64 (.var 4 sg)] (hp3 [some ⟨1,.var 1 tb⟩] (.var 2 sl) []) 14)=(
  isB tb (0)=true∧(A5 tb (0)=true→isB tb (0)=true∧A5 tb (0)=true∧(decide ((n:Int)≥1)=true→(decide ((n:Int)≤12)=true→decide ((0:Int)≤n)=true∧decide ((n:Int)<13)=true∧isI .i64 tb ((Int.toNat (n))*7+1)=true∧(((A0 tb ((Int.toNat (n))*7+1):Int)==n)=true→decide ((0:Int)≤n)=true∧decide ((n:Int)<13)=true∧isB tb ((Int.toNat (n))*7+5)=true∧(A5 tb ((Int.toNat (n))*7+5)=true→R (.int .i64 (6)) ([some ⟨1,tb⟩]++A2 sl))∧(A5 tb ((Int.toNat (n))*7+5)=false→(decide ((sg:Int)<0)=true→R (.int .i64 (2)) ([some ⟨1,tb⟩]++A2 sl))∧(decide ((sg:Int)<0)=false→(decide ((sg:Int)>15)=true→R (.int .i64 (2)) ([some ⟨1,tb⟩]++A2 sl))∧(decide ((sg:Int)>15)=false→(((to:Int)==0)=true→R (.int .i64 (2)) ([some ⟨1,tb⟩]++A2 sl))∧(((to:Int)==0)=false→decide ((0:Int)≤n)=true∧decide ((n:Int)<13)=true∧isI .i64 tb ((Int.toNat (n))*7+4)=true∧(rr) [.agg ([.ptr (.rw 15) (0),.int .i64 (0),.ptr (.rw 18) (0),.ptr (.rw 19) (0),.ptr (.rw 20) (0),.func 76 [.ptr (.rw 21) (0)]]:List AV),.agg ((Ez [.tup [.int .i64 (1),.agg tb]] sl [.tup [.int .i64 (1),.agg ([.ptr (.rw 0) (0)]:List AV)],.tup [.int .i64 (1),.agg ([.int .i64 (to)]:List AV)],.tup [.int .i64 (1),.agg ([.int .i64 (sg)]:List AV)],.tup [.int .i64 (1),.agg ([.int .i64 (A0 tb ((Int.toNat (n))*7+4))]:List AV)],.tup [.int .i64 (1),.agg ([.bool (false)]:List AV)],.tup [.int .i64 (1),.agg ([.func 53 [.ptr (.rw 17) (0),.ptr (.rw 14) (0),.ptr (.rw 18) (0),.ptr (.rw 16) (0)]]:List AV)],.tup [.int .i64 (1),.agg ([.bool (false)]:List AV)],.tup [.int .i64 (1),.agg ([.ptr (.rw 0) (0)]:List AV)]]):List AV)]=true∧(sw=true→(sv=true→R (.int .i64 (0)) ([some ⟨1,tb⟩]++A2 sn))∧(sv=false→R (.int .i64 (8)) ([some ⟨1,tb⟩]++A2 sn)))∧(sw=false→R (.int .i64 (6)) ([some ⟨1,tb⟩]++A2 sn)))))))∧(((A0 tb ((Int.toNat (n))*7+1):Int)==n)=false→
 R (.int .i64 (6)) ([some ⟨1,tb⟩]++A2 sl)))∧(decide ((n:Int)≤12)=false→R (.int .i64 (6)) ([some ⟨1,tb⟩]++A2 sl)))∧(decide ((n:Int)≥1)=false→R (.int .i64 (6)) ([some ⟨1,tb⟩]++A2 sl)))∧(A5 tb (0)=false→R (.int .i64 (1)) ([some ⟨1,tb⟩]++A2 sl))):=by kernel_rfl
end Go.Am
namespace Go.Am
open Go.Proofs Crc
set_option maxRecDepth 100000
def kR (s:Ptb) (to sg me:Int):Nat→Ptb×Bool×Bool
 | 0=>(s,false,false)
 | i+1=>if 0<(s.at_ i).num then (Nk (kR s to sg me i).1 i to sg me,(kR s to sg me i).2.1||(kMt (s.at_ i) to&&X7 (s.at_ i) me),(kR s to sg me i).2.2||kMt (s.at_ i) to) else kR s to sg me i
structure KI (s s':Ptb):Prop where
 wf:Wf s'
 at_:s'.at_=s.at_
 pt:B3 1 s'=B3 1 s
theorem KI.tab {s s':Ptb} (h:KI s s'):encT 1 s'=encT 1 s:=by
 show encV (B3 1 s') s'=encV (B3 1 s) s;rw [h.pt];unfold encV;rw [h.at_]
theorem nP {s s':Ptb} (h:KI s s') {i:Nat} (hi:(s.at_ i).num≠0) (to sg me:Int):KI s (Nk s' i to sg me):=by
 unfold Nk;split
 ·have hi':(s'.at_ i).num≠0:=by rw [h.at_];exact hi
  obtain ⟨_,_,_,p,hp⟩:=h.wf.there hi';exact ⟨h.wf.updS hi',h.at_,by rw [Z9 hp];exact h.pt⟩
 ·exact h
theorem Fv {s:Ptb} (hw:Wf s) (to sg me:Int):∀ i,KI s (kR s to sg me i).1
 | 0=>⟨hw,rfl,rfl⟩
 | i+1=>by
  unfold kR;split
  ·exact nP (Fv hw to sg me i) (by omega) to sg me
  ·exact Fv hw to sg me i
noncomputable def Js (s:Ptb) (to sg me:Int) (i:Nat):Hp:=Mq (kR s to sg me i).1 to sg me (kR s to sg me i).2.1 (kR s to sg me i).2.2 (rcM 0)
theorem row14 {s:Ptb} {i:Nat} (hi:i<13):A8 14 (P5 (s.at_ i) (ptC s 13 i))=true:=by
 have h:bnd 14 (ptC s 13 i)=true:=by
  unfold ptC;split
  ·rfl
  ·have:(if i=13 then 14 else 1+i)<14:=by split<;>omega
   simpa [bnd] using this
 simp only [P5,A8,bnd,h,Bool.and_self]
theorem mO_ok (G:Nat→List AV) (B:Nat) {s:Ptb} (hw:Wf s) (to sg me:Int) {i:Nat} (hi:i<13) (hp:0<(s.at_ i).num):Lj (⟨Try.prog,G,B⟩:A3) (Jc 2350 22 (G5 [.agg (subL (subL (arT s 13) (i*7) 7) 0 6)] (vHp G ((X2 (.var 1 (encT 1 (kR s to sg me i).1)) (.var 2 (setsL encP (kR s to sg me i).1)) (.var 3 to) (.var 4 sg) (.var 5 me) (.var 6 (kR s to sg me i).2.1) (.var 7 (kR s to sg me i).2.2) (.var 24 (rcM 0)))++([some ⟨1,.sub (.var 25 (arT s 13)) (.mul (.var 35 i) 7) (.lit 7)⟩]:DHp)))) (.one (.bool (.lit true)) [.set 1 ⟨1,.row (.var 31 (setsL encP (kR s to sg me (i+1)).1)) (.lit 0)⟩,.set 2 ⟨1,.row (.var 31 (setsL encP (kR s to sg me (i+1)).1)) (.lit 1)⟩,.set 3 ⟨1,.row (.var 31 (setsL encP (kR s to sg me (i+1)).1)) (.lit 2)⟩,.set 4 ⟨1,.row (.var 31 (setsL encP (kR s to sg me (i+1)).1)) (.lit 3)⟩,.set 5 ⟨1,.row (.var 31 (setsL encP (kR s to sg me (i+1)).1)) (.lit 4)⟩,.set 6 ⟨1,.row (.var 31 (setsL encP (kR s to sg me (i+1)).1)) (.lit 5)⟩,.set 7 ⟨1,.row (.var 31 (setsL encP (kR s to sg me (i+1)).1)) (.lit 6)⟩,.set 8 ⟨1,.row (.var 31 (setsL encP (kR s to sg me (i+1)).1)) (.lit 7)⟩,.set 9 ⟨1,.row (.var 31 (setsL encP (kR s to sg me (i+1)).1)) (.lit 8)⟩,.set 10 ⟨1,.row (.var 31 (setsL encP (kR s to sg me (i+1)).1)) (.lit 9)⟩,.set 11 ⟨1,.row (.var 31 (setsL encP (kR s to sg me (i+1)).1)) (.lit 10)⟩,.set 12 ⟨1,.row (.var 31 (setsL encP (kR s to sg me (i+1)).1)) (.lit 11)⟩,.set 13 ⟨1,.row (.var 31 (setsL encP (kR s to sg me (i+1)).1)) (.lit 12)⟩,.set 18 ⟨1,.of [.bool (.var 32 (kR s to sg me (i+1)).2.1)]⟩,.set 20 ⟨1,.of [.bool (.var 33 (kR s to sg me (i+1)).2.2)]⟩])):=by
 refine lC rfl ?_;have ki:=Fv hw to sg me i;have ea:(kR s to sg me i).1.at_ i=⟨(s.at_ i).num,(s.at_ i).par,(s.at_ i).grp,(s.at_ i).usr,(s.at_ i).en,(s.at_ i).st⟩:=by rw [ki.at_]
 have hn:=hw.there (n:=i) (by omega);have key:=y_m G B ki.wf (P5 (s.at_ i) (ptC s 13 i)) (row14 hi) to sg me (kR s to sg me i).2.1 (kR s to sg me i).2.2 i (s.at_ i).num (s.at_ i).par (s.at_ i).grp (s.at_ i).usr (s.at_ i).en (s.at_ i).st ea hn.1 hn.2.1 hn.2.2.1;have e1:subL (subL (arT s 13) (i*7) 7) 0 6=M3 (s.at_ i):=by rw [Ed hi];rfl
 have e2:(vHp G ((X2 (.var 1 (encT 1 (kR s to sg me i).1)) (.var 2 (setsL encP (kR s to sg me i).1)) (.var 3 to) (.var 4 sg) (.var 5 me) (.var 6 (kR s to sg me i).2.1) (.var 7 (kR s to sg me i).2.2) (.var 24 (rcM 0)))++([some ⟨1,.sub (.var 25 (arT s 13)) (.mul (.var 35 i) 7) (.lit 7)⟩]:DHp)))=Mq (kR s to sg me i).1 to sg me (kR s to sg me i).2.1 (kR s to sg me i).2.2 (rcM 0)++[some (⟨1,P5 (s.at_ i) (ptC s 13 i)⟩:Blk)]:=by
  rw [Dw,hM,←Ed hi];rfl
 rw [e1,e2];refine key.mono ?_;rintro v H' ⟨rfl,rfl⟩
 have e3:(kR s to sg me (i+1))=(Nk (kR s to sg me i).1 i to sg me,(kR s to sg me i).2.1||(kMt (s.at_ i) to&&X7 (s.at_ i) me),(kR s to sg me i).2.2||kMt (s.at_ i) to):=by
  show (if 0<(s.at_ i).num then _ else _)=_;rw [if_pos hp]
 have t3:encT 1 (Nk (kR s to sg me i).1 i to sg me)=encT 1 (kR s to sg me i).1:=by rw [(nP ki (by omega) to sg me).tab,ki.tab]
 rw [e3];refine ⟨rfl,?_⟩;rw [←hM G,←hM G,t3];rfl
theorem Sr {s:Ptb} {to sg me:Int} {i:Nat}:(Js s to sg me i).length=23:=gE
theorem pA (s:Ptb) {m:Nat} (h:15≤m):A8 m (arT s 13)=true:=by
 have h2:A8 m (encV (ptC s 13) s)=true:=zR s 13 h;rw [I1,List.all_eq_true] at h2 ⊢;intro v hv;refine h2 v ?_;unfold arT subL at hv;exact List.mem_of_mem_drop (List.mem_of_mem_take hv)
theorem xL {s:Ptb} {to sg me:Int} {i:Nat} {H' E:Hp} (h:H'=Js s to sg me (i+1)++E):C8 23 [.yld 22,.agg (arT s 13),.int .i64 ((i+1:Nat):Int)] (Js s to sg me (i+1)) [.yld 22,.agg (arT s 13),.int .i64 ((i+1:Nat):Int)] H':=by
 subst h;refine C8.same (by rw [Sr];omega) ?_ ?_
 ·rw [Sr];exact uA (by omega)
 ·rw [Sr];refine ⟨⟨rfl,rfl⟩,⟨?_,rfl⟩,⟨rfl,rfl⟩,trivial⟩
  have:=pA s (m:=23) (by omega)
  simpa [bnd] using this
theorem hN (G:Nat→List AV) (B:Nat) {s:Ptb} (hw:Wf s) (to sg me:Int) (i:Nat):vHp G (X2 (.var 1 (encT 1 s)) (.var 2 (setsL encP (kR s to sg me i).1)) (.var 3 to) (.var 4 sg) (.var 5 me) (.var 6 (kR s to sg me i).2.1) (.var 7 (kR s to sg me i).2.2) (.var 24 (rcM 0)))=Js s to sg me i:=by
 rw [←(Fv hw to sg me i).tab,hM];rfl
theorem tK {C:A3} {j i0:Nat} {o':Outs}:Lj C (Jc j i0 (fun _=>false) o'):=by
 intro i args H o ho;unfold Jc at ho;split at ho
 ·simp only [Option.some.injEq] at ho;subst ho;intro h;exact absurd h (by simp [vB])
 ·simp at ho
theorem m_loop (G:Nat→List AV) (B:Nat) {s:Ptb} (hw:Wf s) (to sg me:Int) :
  AWp (⟨Try.prog,G,B⟩:A3) 23 (.loop (loopN Try.f76 0)) (fl 27 [0,11,12] [.yld 22,.agg (arT s 13),.int .i64 0]) (Js s to sg me 0) (lv 27 [0,11,12] fun e vs H=>e=.exit 0∧wk [.undef,.undef,.undef] vs∧H=Js s to sg me 13):=by
 refine Ko 13 (fun i=>[.yld 22,.agg (arT s 13),.int .i64 (i:Int)]) (Js s to sg me) fun i hi=>?_;have eH:Js s to sg me i=vHp G (X2 (.var 1 (encT 1 (kR s to sg me i).1)) (.var 2 (setsL encP (kR s to sg me i).1)) (.var 3 to) (.var 4 sg) (.var 5 me) (.var 6 (kR s to sg me i).2.1) (.var 7 (kR s to sg me i).2.2) (.var 24 (rcM 0))):=by unfold Js;rw [hM]
 rw [eH];have al:=Zs s 13;by_cases him:i<13
 ·have er:=Ed (s:=s) (cc:=13) him;have ki:=Fv hw to sg me i;by_cases hpos:0<(s.at_ i).num
  ·refine E2 (C:=(⟨Try.prog,G,B⟩:A3)) (K:=Dr Try.prog [] [] [] [] (Jc 2350 22 (G5 [.agg (subL (subL (arT s 13) (i*7) 7) 0 6)] (vHp G ((X2 (.var 1 (encT 1 (kR s to sg me i).1)) (.var 2 (setsL encP (kR s to sg me i).1)) (.var 3 to) (.var 4 sg) (.var 5 me) (.var 6 (kR s to sg me i).2.1) (.var 7 (kR s to sg me i).2.2) (.var 24 (rcM 0)))++([some ⟨1,.sub (.var 25 (arT s 13)) (.mul (.var 35 i) 7) (.lit 7)⟩]:DHp)))) (.one (.bool (.lit true)) [.set 1 ⟨1,.row (.var 31 (setsL encP (kR s to sg me (i+1)).1)) (.lit 0)⟩,.set 2 ⟨1,.row (.var 31 (setsL encP (kR s to sg me (i+1)).1)) (.lit 1)⟩,.set 3 ⟨1,.row (.var 31 (setsL encP (kR s to sg me (i+1)).1)) (.lit 2)⟩,.set 4 ⟨1,.row (.var 31 (setsL encP (kR s to sg me (i+1)).1)) (.lit 3)⟩,.set 5 ⟨1,.row (.var 31 (setsL encP (kR s to sg me (i+1)).1)) (.lit 4)⟩,.set 6 ⟨1,.row (.var 31 (setsL encP (kR s to sg me (i+1)).1)) (.lit 5)⟩,.set 7 ⟨1,.row (.var 31 (setsL encP (kR s to sg me (i+1)).1)) (.lit 6)⟩,.set 8 ⟨1,.row (.var 31 (setsL encP (kR s to sg me (i+1)).1)) (.lit 7)⟩,.set 9 ⟨1,.row (.var 31 (setsL encP (kR s to sg me (i+1)).1)) (.lit 8)⟩,.set 10 ⟨1,.row (.var 31 (setsL encP (kR s to sg me (i+1)).1)) (.lit 9)⟩,.set 11 ⟨1,.row (.var 31 (setsL encP (kR s to sg me (i+1)).1)) (.lit 10)⟩,.set 12 ⟨1,.row (.var 31 (setsL encP (kR s to sg me (i+1)).1)) (.lit 11)⟩,.set 13 ⟨1,.row (.var 31 (setsL encP (kR s to sg me (i+1)).1)) (.lit 12)⟩,.set 18 ⟨1,.of [.bool (.var 32 (kR s to sg me (i+1)).2.1)]⟩,.set 20 ⟨1,.of [.bool (.var 33 (kR s to sg me (i+1)).2.2)]⟩])) 23) (At (mix G B) (by kernel_rfl) .nil .nil .none (mO_ok G B hw to sg me him hpos)) (fuel:=300) (n0:=60) (m:=23) (c:=loopN Try.f76 0)
    (vs:=[.yld 22,.agg (.var 25 (arT s 13)),.int .i64 (.ofN (.var 35 i))]) (H:=(X2 (.var 1 (encT 1 (kR s to sg me i).1)) (.var 2 (setsL encP (kR s to sg me i).1)) (.var 3 to) (.var 4 sg) (.var 5 me) (.var 6 (kR s to sg me i).2.1) (.var 7 (kR s to sg me i).2.2) (.var 24 (rcM 0)))) (by simp [X2]) ?_
   rw [m_it];refine ⟨fun h=>⟨decide_eq_true (by omega),h,A6.2 (by rw [al];omega),?_,?_,?_,fun hp=>⟨?_,F5,?_⟩,fun hp=>?_⟩,fun h=>?_⟩
   ·rw [er];unfold ptC;cases s.sg i<;>rfl
   ·rw [er];rfl
   ·rw [er];rfl
   ·rw [er];rfl
   ·refine ⟨him,.inr ?_⟩;rw [D9 (by omega)];refine xL (E:=[some (⟨1,subL (arT s 13) (i*7) 7⟩:Blk)]) ?_;rw [←hN G B hw to sg me (i+1),ki.tab];rfl
   ·rw [er] at hp;exact absurd hpos (by have h:=of_decide_eq_false hp;exact h)
   ·exact absurd (of_decide_eq_false h) (by omega)
  ·refine E2 (C:=(⟨Try.prog,G,B⟩:A3)) (K:=Dr Try.prog [] [] [] [] (Jc 2350 22 (fun _=>false) (.one (.bool (.lit true)) [.set 1 ⟨1,.row (.var 31 (setsL encP (kR s to sg me (i+1)).1)) (.lit 0)⟩,.set 2 ⟨1,.row (.var 31 (setsL encP (kR s to sg me (i+1)).1)) (.lit 1)⟩,.set 3 ⟨1,.row (.var 31 (setsL encP (kR s to sg me (i+1)).1)) (.lit 2)⟩,.set 4 ⟨1,.row (.var 31 (setsL encP (kR s to sg me (i+1)).1)) (.lit 3)⟩,.set 5 ⟨1,.row (.var 31 (setsL encP (kR s to sg me (i+1)).1)) (.lit 4)⟩,.set 6 ⟨1,.row (.var 31 (setsL encP (kR s to sg me (i+1)).1)) (.lit 5)⟩,.set 7 ⟨1,.row (.var 31 (setsL encP (kR s to sg me (i+1)).1)) (.lit 6)⟩,.set 8 ⟨1,.row (.var 31 (setsL encP (kR s to sg me (i+1)).1)) (.lit 7)⟩,.set 9 ⟨1,.row (.var 31 (setsL encP (kR s to sg me (i+1)).1)) (.lit 8)⟩,.set 10 ⟨1,.row (.var 31 (setsL encP (kR s to sg me (i+1)).1)) (.lit 9)⟩,.set 11 ⟨1,.row (.var 31 (setsL encP (kR s to sg me (i+1)).1)) (.lit 10)⟩,.set 12 ⟨1,.row (.var 31 (setsL encP (kR s to sg me (i+1)).1)) (.lit 11)⟩,.set 13 ⟨1,.row (.var 31 (setsL encP (kR s to sg me (i+1)).1)) (.lit 12)⟩,.set 18 ⟨1,.of [.bool (.var 32 (kR s to sg me (i+1)).2.1)]⟩,.set 20 ⟨1,.of [.bool (.var 33 (kR s to sg me (i+1)).2.2)]⟩])) 23) (At (mix G B) (by kernel_rfl) .nil .nil .none tK) (fuel:=300) (n0:=60) (m:=23) (c:=loopN Try.f76 0)
    (vs:=[.yld 22,.agg (.var 25 (arT s 13)),.int .i64 (.ofN (.var 35 i))]) (H:=(X2 (.var 1 (encT 1 (kR s to sg me i).1)) (.var 2 (setsL encP (kR s to sg me i).1)) (.var 3 to) (.var 4 sg) (.var 5 me) (.var 6 (kR s to sg me i).2.1) (.var 7 (kR s to sg me i).2.2) (.var 24 (rcM 0)))) (by simp [X2]) ?_
   rw [m_it];refine ⟨fun h=>⟨decide_eq_true (by omega),h,A6.2 (by rw [al];omega),?_,?_,?_,fun hp=>?_,fun hp=>?_⟩,fun h=>?_⟩
   ·rw [er];unfold ptC;cases s.sg i<;>rfl
   ·rw [er];rfl
   ·rw [er];rfl
   ·rw [er] at hp;exact absurd (show 0<(s.at_ i).num from of_decide_eq_true hp) hpos
   ·refine ⟨him,.inr ?_⟩;rw [D9 (by omega)];refine xL (E:=[some (⟨1,subL (arT s 13) (i*7) 7⟩:Blk)]) ?_
    have e3:(kR s to sg me (i+1))=(kR s to sg me i):=by
     show (if 0<(s.at_ i).num then _ else _)=_;rw [if_neg hpos]
    unfold Js;rw [e3];show _=Js s to sg me i++_;rw [eH];rfl
   ·exact absurd (of_decide_eq_false h) (by omega)
 ·have:i=13:=by omega
  subst this
  refine E2 (C:=(⟨Try.prog,G,B⟩:A3)) (K:=Dr Try.prog [] [] [] [] (Jc 2350 22 (fun _=>false) (.one (.bool (.lit true)) [.set 1 ⟨1,.row (.var 31 []) (.lit 0)⟩,.set 2 ⟨1,.row (.var 31 []) (.lit 1)⟩,.set 3 ⟨1,.row (.var 31 []) (.lit 2)⟩,.set 4 ⟨1,.row (.var 31 []) (.lit 3)⟩,.set 5 ⟨1,.row (.var 31 []) (.lit 4)⟩,.set 6 ⟨1,.row (.var 31 []) (.lit 5)⟩,.set 7 ⟨1,.row (.var 31 []) (.lit 6)⟩,.set 8 ⟨1,.row (.var 31 []) (.lit 7)⟩,.set 9 ⟨1,.row (.var 31 []) (.lit 8)⟩,.set 10 ⟨1,.row (.var 31 []) (.lit 9)⟩,.set 11 ⟨1,.row (.var 31 []) (.lit 10)⟩,.set 12 ⟨1,.row (.var 31 []) (.lit 11)⟩,.set 13 ⟨1,.row (.var 31 []) (.lit 12)⟩,.set 18 ⟨1,.of [.bool (.var 32 true)]⟩,.set 20 ⟨1,.of [.bool (.var 33 true)]⟩])) 23) (At (mix G B) (by kernel_rfl) .nil .nil .none tK) (fuel:=300) (n0:=60) (m:=23) (c:=loopN Try.f76 0)
   (vs:=[.yld 22,.agg (.var 25 (arT s 13)),.int .i64 (.ofN (.var 35 13))]) (H:=(X2 (.var 1 (encT 1 (kR s to sg me 13).1)) (.var 2 (setsL encP (kR s to sg me 13).1)) (.var 3 to) (.var 4 sg) (.var 5 me) (.var 6 (kR s to sg me 13).2.1) (.var 7 (kR s to sg me 13).2.2) (.var 24 (rcM 0)))) (by simp [X2]) ?_
  rw [m_it];refine ⟨fun h=>absurd (of_decide_eq_true h) (by omega),fun h=>⟨rfl,by simp [wk],?_⟩⟩;rw [eH];rfl
end Go.Am
namespace Go.Am
open Go.Proofs Crc
set_option maxRecDepth 100000
theorem hN13 (G:Nat→List AV) (B:Nat) {s:Ptb} (hw:Wf s) (to sg me:Int):vHp G (X2 (.var 1 (encT 1 s)) (.var 31 (setsL encP (kR s to sg me 13).1)) (.var 3 to) (.var 4 sg) (.var 5 me) (.var 32 (kR s to sg me 13).2.1) (.var 33 (kR s to sg me 13).2.2) (.var 24 (rcM 0)))=Js s to sg me 13:=hN G B hw to sg me 13
theorem hN0 (G:Nat→List AV) (B:Nat) (s:Ptb) (to sg me:Int):vHp G (X2 (.var 1 (encT 1 s)) (.var 2 (setsL encP s)) (.var 3 to) (.var 4 sg) (.var 5 me) (.var 6 false) (.var 7 false) (.var 24 (rcM 0)))=Js s to sg me 0:=by unfold Js;rw [hM];rfl
theorem aR4 (G:Nat→List AV) (B:Nat) {s:Ptb} (hw:Wf s) (to sg me:Int):AWp (⟨Try.prog,G,B⟩:A3) 23 (.loop (loopN Try.f76 0)) (fl 27 [0,11,12] [.yld 22,.agg (arT s 13),.int .i64 0]) (vHp G (X2 (.var 1 (encT 1 s)) (.var 2 (setsL encP s)) (.var 3 to) (.var 4 sg) (.var 5 me) (.var 6 false) (.var 7 false) (.var 24 (rcM 0)))) (lv 27 [0,11,12] (LOut.post G 23 (.one (.exit 0) [.undef,.undef,.undef] (X2 (.var 1 (encT 1 s)) (.var 31 (setsL encP (kR s to sg me 13).1)) (.var 3 to) (.var 4 sg) (.var 5 me) (.var 32 (kR s to sg me 13).2.1) (.var 33 (kR s to sg me 13).2.2) (.var 24 (rcM 0)))))):=by
 rw [hN0 G B];refine (m_loop G B hw to sg me).lmono ?_;rintro ex vs H ⟨rfl,h1,rfl⟩;exact ⟨rfl,.inl ⟨h1,(hN13 G B hw to sg me).symm⟩⟩
theorem aD5 (G:Nat→List AV) (B:Nat) {s:Ptb} (hw:Wf s) (to sg me:Int):ACalls (⟨Try.prog,G,B⟩:A3) 76 [.yld 22,.ptr (.rw 21) 0] (vHp G (X2 (.var 1 (encT 1 s)) (.var 2 (setsL encP s)) (.var 3 to) (.var 4 sg) (.var 5 me) (.var 6 false) (.var 7 false) (.var 24 (rcM 0)))) fun v H=>v=.tup []∧H=Js s to sg me 13:=by
 have h:=D3 (C:=(⟨Try.prog,G,B⟩:A3)) (K:=Dr Try.prog [36] [] [E5 2351 (G5 [.yld 22,.agg (arT s 13),.int .i64 0] (vHp G (X2 (.var 1 (encT 1 s)) (.var 2 (setsL encP s)) (.var 3 to) (.var 4 sg) (.var 5 me) (.var 6 false) (.var 7 false) (.var 24 (rcM 0))))) 0 27 [0,11,12] (.one (.exit 0) [.undef,.undef,.undef] (X2 (.var 1 (encT 1 s)) (.var 31 (setsL encP (kR s to sg me 13).1)) (.var 3 to) (.var 4 sg) (.var 5 me) (.var 32 (kR s to sg me 13).2.1) (.var 33 (kR s to sg me 13).2.2) (.var 24 (rcM 0))))] [] noY 23) (fuel:=300) (n0:=60) (f:=76) (fn:=Try.f76) (args:=[.yld 22,.ptr (.rw 21) (.lit 0)]) (H:=(X2 (.var 1 (encT 1 s)) (.var 2 (setsL encP s)) (.var 3 to) (.var 4 sg) (.var 5 me) (.var 6 false) (.var 7 false) (.var 24 (rcM 0)))) (keep:=23)
  (R:=fun v H=>v=.tup []∧H=Js s to sg me 13) (At (mix G B) (by kernel_rfl) .nil (.cast (.cons (i:=0) (by kernel_rfl) rfl (N5 rfl (aR4 G B hw to sg me)) .nil) (by kernel_rfl)) .none Pl) (by kernel_rfl) (by kernel_rfl) (by kernel_rfl) (by
  have:=m76 G (G5 [.yld 22,.agg (arT s 13),.int .i64 0] (vHp G (X2 (.var 1 (encT 1 s)) (.var 2 (setsL encP s)) (.var 3 to) (.var 4 sg) (.var 5 me) (.var 6 false) (.var 7 false) (.var 24 (rcM 0))))) (encT 1 s) (setsL encP s) (rcM 0) (setsL encP (kR s to sg me 13).1) to sg me false false (kR s to sg me 13).2.1 (kR s to sg me 13).2.2 (fun _ _ _=>False) (fun v H=>v=.tup []∧H=Js s to sg me 13)
  refine Eq.mpr this ⟨rfl,fun _=>⟨A6.2 (by rw [Q8];omega),?_,rfl,?_⟩,fun h=>by cases h⟩
  ·rw [eI];exact F5
  ·exact hN13 G B hw to sg me)
 refine ACalls.keep (k:=23) h ?_ ?_ rfl (by simp)
 ·rw [Sr,C0];exact Nat.le_refl 23
 ·rw [Sr];exact uA (by omega)
def ex0 (to sg me:Int) (st sm:Bool):Hp:=[some ⟨1,[.ptr (.rw 0) 0]⟩,some ⟨1,[.int .i64 to]⟩,some ⟨1,[.int .i64 sg]⟩,some ⟨1,[.int .i64 me]⟩,some ⟨1,[.bool st]⟩,some ⟨1,[.func 53 [.ptr (.rw 17) 0,.ptr (.rw 14) 0,.ptr (.rw 18) 0,.ptr (.rw 16) 0]]⟩,some ⟨1,[.bool sm]⟩,some ⟨1,[.ptr (.rw 0) 0]⟩]
def Qy (s:Ptb) (n to sg:Int):Ptb×Bool×Bool:=kR s to sg (s.at_ n.toNat).usr 13
def Ck (to sg:Int):Bool:=decide (sg<0)||(decide (sg>15)||to==0)
def R0 (s:Ptb) (n to sg:Int):Int:=if live s n=true then (if Ck to sg=true then 2 else (if (Qy s n to sg).2.2=true then (if (Qy s n to sg).2.1=true then 0 else 8) else 6)) else 6
def L5 (s:Ptb) (n to sg:Int):Ptb:=if live s n=true then (if Ck to sg=true then s else (Qy s n to sg).1) else s
theorem Wf.killX {s:Ptb} (h:Wf s) (n to sg:Int):Wf (L5 s n to sg):=by
 unfold Go.Am.L5;split
 ·split
  ·exact h
  ·exact (Fv h to sg _ 13).wf
 ·exact h
theorem m_rng (G:Nat→List AV) (B:Nat) {s:Ptb} (hw:Wf s) (to sg me:Int):AWp (⟨Try.prog,G,B⟩:A3) 22 (loopN Try.f21 0) pK (vHp G (HMe (.var 1 (encT 1 s)) (.var 2 (setsL encP s)) (.var 3 to) (.var 4 sg) (.var 5 me) (.var 6 false) (.var 7 false))) (lv 71 [6,8,11,12,13,43] (LOut.post G 22 (.one .normal [.ptr (.rw 15) (.lit 0),.int .i64 (.lit 0),.ptr (.rw 18) (.lit 0),.ptr (.rw 19) (.lit 0),.ptr (.rw 20) (.lit 0),.func 76 [.ptr (.rw 21) (.lit 0)]] (HMe (.var 1 (encT 1 s)) (.var 31 (setsL encP (kR s to sg me 13).1)) (.var 3 to) (.var 4 sg) (.var 5 me) (.var 32 (kR s to sg me 13).2.1) (.var 33 (kR s to sg me 13).2.2))))):=by
 rw [N21_eq];refine AWp.rng (f:=76) (cap:=[.ptr (.rw 21) 0]) (by rw [C0];exact Nat.le_refl 22) (by kernel_rfl) ?_;refine (aD5 G B hw to sg me).monoK ?_;rintro v H ⟨rfl,rfl⟩;refine ⟨rfl,.inr ?_⟩
 have e1:vHp G (HMe (.var 1 (encT 1 s)) (.var 31 (setsL encP (kR s to sg me 13).1)) (.var 3 to) (.var 4 sg) (.var 5 me) (.var 32 (kR s to sg me 13).2.1) (.var 33 (kR s to sg me 13).2.2))=B0 tsP (kR s to sg me 13).1++ex0 to sg me (kR s to sg me 13).2.1 (kR s to sg me 13).2.2:=by
  rw [←V3 (t:=tsP) (s:=(kR s to sg me 13).1),show tsP.tb (B3 1 (kR s to sg me 13).1) (kR s to sg me 13).1=encT 1 s from (Fv hw to sg me 13).tab];rfl
 have e2:Js s to sg me 13=vHp G (HMe (.var 1 (encT 1 s)) (.var 31 (setsL encP (kR s to sg me 13).1)) (.var 3 to) (.var 4 sg) (.var 5 me) (.var 32 (kR s to sg me 13).2.1) (.var 33 (kR s to sg me 13).2.2))++[some (⟨4294967291,rcM 0⟩:Blk)]:=by
  rw [e1];unfold Js Mq exM ex0;rw [List.append_assoc];rfl
 rw [e2];refine C8.same (by rw [C0];exact Nat.le_refl 22) ?_ ⟨⟨rfl,rfl⟩,⟨rfl,rfl⟩,⟨rfl,rfl⟩,⟨rfl,rfl⟩,⟨rfl,rfl⟩,⟨rfl,rfl⟩,trivial⟩;rw [C0,e1];exact hpB_app (eV _ (by show 14≤22;decide)) rfl
theorem dg21 (G:Nat→List AV) (B:Nat) {s:Ptb} (hw:Wf s) (n to sg:Int):I9 (⟨Try.prog,G,B⟩:A3) (Dr Try.prog [36,38,39,20,54] [] [] [E5 2352 (G5 [.ptr (.rw 15) 0,.int .i64 0,.ptr (.rw 18) 0,.ptr (.rw 19) 0,.ptr (.rw 20) 0,.func 76 [.ptr (.rw 21) 0]] (vHp G (HMe (.var 1 (encT 1 s)) (.var 2 (setsL encP s)) (.var 3 to) (.var 4 sg) (.var 5 (s.at_ n.toNat).usr) (.var 6 false) (.var 7 false)))) 44 71 [6,8,11,12,13,43] (.one .normal [.ptr (.rw 15) (.lit 0),.int .i64 (.lit 0),.ptr (.rw 18) (.lit 0),.ptr (.rw 19) (.lit 0),.ptr (.rw 20) (.lit 0),.func 76 [.ptr (.rw 21) (.lit 0)]] (HMe (.var 1 (encT 1 s)) (.var 31 (setsL encP (kR s to sg (s.at_ n.toNat).usr 13).1)) (.var 3 to) (.var 4 sg) (.var 5 (s.at_ n.toNat).usr) (.var 32 (kR s to sg (s.at_ n.toNat).usr 13).2.1) (.var 33 (kR s to sg (s.at_ n.toNat).usr 13).2.2)))] noY 22) (loopsOf (bodyOf Try.f21)):=by
 rw [show loopsOf (bodyOf Try.f21)=[loopN Try.f21 0] by kernel_rfl];exact At (mix G B) (by kernel_rfl) .nil (.skip (by kernel_rfl) .nil) (.cons (i:=44) (by kernel_rfl) rfl (Ya rfl (m_rng G B hw to sg (s.at_ n.toNat).usr)) .nil) Pl
theorem aN3 {s s':Ptb} (h:KI s s'):H7 tsP s' 13 (some ⟨1,encT 1 s⟩::(List.range 13).map fun n=>some ⟨1,A1 (setsL encP s') n⟩):=seen_rows (t:=tsP) h.tab.symm tsP_ok (Fd (t:=tsP) (s:=s') fun _ _ h=>h)
theorem p_kill (G:Nat→List AV) (B:Nat) {s:Ptb} (hw:Wf s) (n to sg:Int):ACalls (⟨Try.prog,G,B⟩:A3) 21 [.ptr (.rw 0) 0,.int .i64 n,.int .i64 to,.int .i64 sg] (B0 tsP s) fun v' H'=>v'=.int .i64 (R0 s n to sg)∧H'=B0 tsP (L5 s n to sg):=by
 have h:=D3 (C:=(⟨Try.prog,G,B⟩:A3)) (K:=Dr Try.prog [36,38,39,20,54] [] [] [E5 2352 (G5 [.ptr (.rw 15) 0,.int .i64 0,.ptr (.rw 18) 0,.ptr (.rw 19) 0,.ptr (.rw 20) 0,.func 76 [.ptr (.rw 21) 0]] (vHp G (HMe (.var 1 (encT 1 s)) (.var 2 (setsL encP s)) (.var 3 to) (.var 4 sg) (.var 5 (s.at_ n.toNat).usr) (.var 6 false) (.var 7 false)))) 44 71 [6,8,11,12,13,43] (.one .normal [.ptr (.rw 15) (.lit 0),.int .i64 (.lit 0),.ptr (.rw 18) (.lit 0),.ptr (.rw 19) (.lit 0),.ptr (.rw 20) (.lit 0),.func 76 [.ptr (.rw 21) (.lit 0)]] (HMe (.var 1 (encT 1 s)) (.var 31 (setsL encP (kR s to sg (s.at_ n.toNat).usr 13).1)) (.var 3 to) (.var 4 sg) (.var 5 (s.at_ n.toNat).usr) (.var 32 (kR s to sg (s.at_ n.toNat).usr 13).2.1) (.var 33 (kR s to sg (s.at_ n.toNat).usr 13).2.2)))] noY 22) (fuel:=300) (n0:=60) (f:=21) (fn:=Try.f21) (args:=[.ptr (.rw 0) (.lit 0),.int .i64 (.var 34 n),.int .i64 (.var 3 to),.int .i64 (.var 4 sg)]) (H:=(hp3 [some ⟨1,.var 1 (encT 1 s)⟩] (.var 2 (setsL encP s)) [])) (keep:=14)
  (R:=fun v' H'=>v'=.int .i64 (R0 s n to sg)∧H7 tsP (L5 s n to sg) 13 H') (dg21 G B hw n to sg) (by kernel_rfl) (by kernel_rfl) (by kernel_rfl) (by
  have:=m21 G (G5 [.ptr (.rw 15) 0,.int .i64 0,.ptr (.rw 18) 0,.ptr (.rw 19) 0,.ptr (.rw 20) 0,.func 76 [.ptr (.rw 21) 0]] (vHp G (HMe (.var 1 (encT 1 s)) (.var 2 (setsL encP s)) (.var 3 to) (.var 4 sg) (.var 5 (s.at_ n.toNat).usr) (.var 6 false) (.var 7 false)))) (encT 1 s) (setsL encP s) (setsL encP (kR s to sg (s.at_ n.toNat).usr 13).1) n to sg (s.at_ n.toNat).usr (kR s to sg (s.at_ n.toNat).usr 13).2.1 (kR s to sg (s.at_ n.toNat).usr 13).2.2 (fun _ _ _=>False) (fun v' H'=>v'=.int .i64 (R0 s n to sg)∧H7 tsP (L5 s n to sg) 13 H')
  refine Eq.mpr this ⟨rfl,fun _=>⟨rfl,rfl,S8 1 (fun hl=>?_) fun hl=>?_⟩,fun h=>by cases h⟩
  ·have h:=H6.1 hl;have tu:=uV (b:=1) (s:=s) (n:=n.toNat) (by omega);refine ⟨fun h1=>?_,fun h1=>⟨fun h2=>?_,fun h2=>⟨fun h3=>?_,fun h3=>?_⟩⟩⟩
   ·have hg:Ck to sg=true:=by unfold Ck;rw [h1];rfl
    unfold R0 L5;rw [if_pos hl,if_pos hl,if_pos hg,if_pos hg];exact ⟨rfl,G1⟩
   ·have hg:Ck to sg=true:=by unfold Ck;rw [h2];simp
    unfold R0 L5;rw [if_pos hl,if_pos hl,if_pos hg,if_pos hg];exact ⟨rfl,G1⟩
   ·have hg:Ck to sg=true:=by unfold Ck;rw [h3];simp
    unfold R0 L5;rw [if_pos hl,if_pos hl,if_pos hg,if_pos hg];exact ⟨rfl,G1⟩
   ·have hg:¬Ck to sg=true:=by unfold Ck;rw [h1,h2,h3];simp
    have hx:L5 s n to sg=(kR s to sg (s.at_ n.toNat).usr 13).1:=by unfold L5;rw [if_pos hl,if_neg hg];rfl
    have hs:=aN3 (Fv hw to sg (s.at_ n.toNat).usr 13);rw [tu.2,hx];refine ⟨decide_eq_true (by omega),decide_eq_true (by omega),tu.1,F5,fun h4=>⟨fun h5=>⟨?_,hs⟩,fun h5=>⟨?_,hs⟩⟩,fun h4=>⟨?_,hs⟩⟩
    ·unfold R0 Qy;rw [if_pos hl,if_neg hg,if_pos h4,if_pos h5]
    ·unfold R0 Qy;rw [if_pos hl,if_neg hg,if_pos h4,if_neg (by rw [h5];simp)]
    ·unfold R0 Qy;rw [if_pos hl,if_neg hg,if_neg (by rw [h4];simp)]
  ·unfold R0 L5
   rw [hl];exact ⟨rfl,G1⟩)
 rw [hT] at h;exact Og tsP_ok h rfl
end Go.Am
namespace Go.Am
open Crc
def killK:EL→List EV→Option (EV×EL):=fun x rest=>match rest with
 | [.int .i64 n,.int .i64 a,.int .i64 b]=>some (.int .i64 (.uf 2415 (Vw R0) [.agg x,.int .i64 n,.int .i64 a,.int .i64 b]),.uf 2416 (Vv L5) [.agg x,.int .i64 n,.int .i64 a,.int .i64 b])
 | _=>none
def takeK:EL→List EV→Option (EV×EL):=fun x rest=>match rest with
 | [.int .i64 n]=>some (.tup [.agg (.of [.int .i64 (.uf 2423 (C2 Hr) [.agg x,.int .i64 n]),.bool (.uf 2424 (E9 Ef) [.agg x,.int .i64 n]),.int .u32 (.uf 2425 (C2 Eg) [.agg x,.int .i64 n])]),.bool (.uf 2426 (E9 Ln) [.agg x,.int .i64 n])],.uf 2427 (Im I7) [.agg x,.int .i64 n])
 | _=>none
section
variable {C:A3} {t:TS} {f:FuncId} {m:Th}
theorem killK_ok (h:∀ s,Wf s→∀ n a b,ACalls C f [.ptr (.rw 0) 0,.int .i64 n,.int .i64 a,.int .i64 b] (B0 t s) fun v H'=>v=.int .i64 (R0 s n a b)∧H'=Y6 t m (L5 s n a b)) (hm:m≠.same):Xx C t m f killK:=by
 intro x rest v x' s hk hx hw;unfold killK at hk;split at hk
 ·rename_i n a b;simp only [Option.some.injEq,Prod.mk.injEq] at hk;obtain ⟨rfl,rfl⟩:=hk;refine ⟨by simp [vVs,vV,A8,bnd],by simp [vV,bnd],L5 s (vI C.G n) (vI C.G a) (vI C.G b),by simp only [vL,vVs,vV,hx,Ob hw.thin],(hw.killX _ _ _).thin,fun e=>absurd e hm,?_⟩;simp only [vVs,vV,vI,hx,fI hw.thin];exact h s hw _ _ _
 ·simp at hk
theorem takeK_ok (h:∀ s,Wf s→∀ n,ACalls C f [.ptr (.rw 0) 0,.int .i64 n] (B0 t s) fun v H'=>v=Bp s n∧H'=Y6 t m (I7 s n)) (hm:m≠.same):Xx C t m f takeK:=by
 intro x rest v x' s hk hx hw;unfold takeK at hk;split at hk
 ·rename_i n;simp only [Option.some.injEq,Prod.mk.injEq] at hk;obtain ⟨rfl,rfl⟩:=hk;refine ⟨by simp [vVs,vV,A8,bnd],by simp [vV,vVs,vL,A8,bnd],I7 s (vI C.G n),by simp only [vL,vVs,vV,hx,Oc hw.thin],(hw.takeX _).thin,fun e=>absurd e hm,?_⟩;simp only [vVs,vV,vI,vB,vL,hx,Ye hw.thin,Rx hw.thin];exact h s hw _
 ·simp at hk
end
end Go.Am
namespace Go.Am
open Go.Proofs Crc
set_option maxRecDepth 100000
def jT (T1 S1 T2 S2:EL):DHp:=[some ⟨1,T1⟩,some ⟨1,.row S1 (.lit 0)⟩,some ⟨1,.row S1 (.lit 1)⟩,some ⟨1,.row S1 (.lit 2)⟩,some ⟨1,.row S1 (.lit 3)⟩,some ⟨1,.row S1 (.lit 4)⟩,some ⟨1,.row S1 (.lit 5)⟩,some ⟨1,.row S1 (.lit 6)⟩,some ⟨1,.row S1 (.lit 7)⟩,some ⟨1,.row S1 (.lit 8)⟩,some ⟨1,.row S1 (.lit 9)⟩,some ⟨1,.row S1 (.lit 10)⟩,some ⟨1,.row S1 (.lit 11)⟩,some ⟨1,.row S1 (.lit 12)⟩,some ⟨1,T2⟩,some ⟨1,.row S2 (.lit 0)⟩,some ⟨1,.row S2 (.lit 1)⟩,some ⟨1,.row S2 (.lit 2)⟩,some ⟨1,.row S2 (.lit 3)⟩,some ⟨1,.row S2 (.lit 4)⟩,some ⟨1,.row S2 (.lit 5)⟩,some ⟨1,.row S2 (.lit 6)⟩,some ⟨1,.row S2 (.lit 7)⟩,some ⟨1,.row S2 (.lit 8)⟩,some ⟨1,.row S2 (.lit 9)⟩,some ⟨1,.row S2 (.lit 10)⟩,some ⟨1,.row S2 (.lit 11)⟩,some ⟨1,.row S2 (.lit 12)⟩]
theorem cp_b (G:Nat→List AV) (tb sl tc sc:List AV) (i:Nat) (Q:Ex→List AV→Hp→Prop) (R:AV→Hp→Prop):vT G Q R (J6 (Df Try.prog [(48,1,13)] [36,37,55] [(37,Sz N0)] [] 0) 300 20 15 (loopN Try.f12 0) 27 [0,2,3,11] [.ptr (.rw 0) (.lit 0),.nilp,.ptr (.rw 14) (.lit 0),.int .i64 (.ofN (.var 8 i))] (jT (.var 1 tb) (.var 2 sl) (.var 21 tc) (.var 22 sc)))=(
  (decide ((((i:Nat):Int):Int)<13)=true→decide ((0:Int)≤((i:Nat):Int))=true∧decide ((((i:Nat):Int):Int)<13)=true∧(B4 tb ((i)*7+7)=true→decide ((0:Int)≤((i:Nat):Int))=true∧decide ((((i:Nat):Int):Int)<13)=true∧leB ((i)*7+8) (List.length tc)=true∧Q .normal [.ptr (.rw 0) (0),.nilp,.ptr (.rw 14) (0),.int .i64 (IntKind.wrap .i64 (((i:Nat):Int)+1))] ([some ⟨1,tb⟩]++(A2 sl++([some ⟨1,(setPart tc ((i)*7+7) (.nilp))⟩]++A2 sc))))∧(B4 tb ((i)*7+7)=false→J4 1 13 tb ((i)*7+7)=true∧leB (A4 1 tb ((i)*7+7)+1) (13)=true∧rowsA sl (rp 13 sl)=true∧isB (A1 sl (A4 1 tb ((i)*7+7))) (K4 tb ((i)*7+7))=true∧(A5 (A1 sl (A4 1 tb ((i)*7+7))) (K4 tb ((i)*7+7))=true→leB (A4 1 tb ((i)*7+7)+1) (13)=true∧rowsA sl (rp 13 sl)=true∧leB (K4 tb ((i)*7+7)+19) (List.length (A1 sl (A4 1 tb ((i)*7+7))))=true∧cellsB (subL (A1 sl (A4 1 tb ((i)*7+7))) (K4 tb ((i)*7+7)) (19))=true∧Nat.beq (List.length (subL (A1 sl (A4 1 tb ((i)*7+7))) (K4 tb ((i)*7+7)) (19))) (19)=true∧decide ((0:Int)≤((i:Nat):Int))=true∧decide ((((i:Nat):Int):Int)<13)=true∧leB ((i)*7+8) (List.length tc)=true∧Q .normal [.ptr (.rw 0) (0),.nilp,.ptr (.rw 14) (0),.int .i64 (IntKind.wrap .i64 (((i:Nat):Int)+1))] ([some ⟨1,tb⟩]++(A2 sl++([some ⟨1,(setPart tc ((i)*7+7) (.ptr (.rw 28) (0)))⟩]++(A2 sc++[some ⟨1,(subL (A1 sl (A4 1 tb ((i)*7+7))) (K4 tb ((i)*7+7)) (19))⟩])))))∧(A5 (A1 sl (A4 1 tb ((i)*7+7))) (K4 tb ((i)*7+7))=false→decide ((0:Int)≤((i:Nat):Int))=true∧decide ((((i:Nat):Int):Int)<13)=true∧leB ((i)*7+8) (List.length tc)=true∧Q .normal [.ptr (.rw 0) (0),.nilp,.ptr (.rw 14) (0),.int .i64 (IntKind.wrap .i64 (((i:Nat):Int)+1))] ([some ⟨1,tb⟩]++(A2 sl++([some ⟨1,(setPart tc ((i)*7+7) (.nilp))⟩]++A2 sc))))))∧(decide ((((i:Nat):Int):Int)<13)=false→
 Q (.exit 0) [.ptr (.rw 0) (0),.nilp,.ptr (.rw 14) (0),.int .i64 (((i:Nat):Int))] ([some ⟨1,tb⟩]++(A2 sl++([some ⟨1,tc⟩]++A2 sc))))):=by kernel_rfl
theorem cp_c (G:Nat→List AV) (rl:List AV→Bool) (tb sl tc sc:List AV) (Q:Ex→List AV→Hp→Prop) (R:AV→Hp→Prop):vT G Q R (D0 (Df Try.prog [] [36,37,55] [] [E5 2360 (rl) 0 27 [0,2,3,11] (.one (.exit 0) [.undef,.undef,.ptr (.rw 14) (.lit 0),.undef] (jT (.var 1 tb) (.var 2 sl) (.var 21 tc) (.var 22 sc)))] 15) 300 20 Try.f12 [.ptr (.rw 0) (.lit 0)] (hp3 [some ⟨1,.var 1 tb⟩] (.var 2 sl) []) 28)=(
  isB tb (0)=true∧(A5 tb (0)=true→leB (92) (List.length tb)=true∧cellsB (subL tb (0) (92))=true∧Nat.beq (List.length (subL tb (0) (92))) (92)=true∧(rl) [.agg ([.ptr (.rw 0) (0),.nilp,.ptr (.rw 14) (0),.int .i64 (0)]:List AV),.agg ((Ez [.tup [.int .i64 (1),.agg tb]] sl [.tup [.int .i64 (1),.agg (subL tb (0) (92))]]):List AV)]=true∧R (.ptr (.rw 14) (0)) ([some ⟨1,tb⟩]++(A2 sl++([some ⟨1,tc⟩]++A2 sc))))∧(A5 tb (0)=false→R (.nilp) ([some ⟨1,tb⟩]++A2 sl))):=by kernel_rfl
end Go.Am
namespace Go.Am
open Crc
theorem Cp {N:Nat} {g:Nat→Nat} {i:Nat} (hi:i<N):((List.range N).map g).getD i 0=g i:=by
 simp [List.getD,hi]
theorem C8.fn {m N:Nat} {F F':Fr} {H H':Hp} (g:Nat→Nat) (hN:H.length=N) (hm:m≤N) (hfix:∀ i,i<m→g i=i) (hinj:∀ i j,i<N→j<N→g i=g j→i=j)
  (hb:∀ i,i<N→∃ b b',H[i]?=some (some b)∧H'[g i]?=some (some b')∧b.esz=b'.esz∧A8 N b.cells=true∧((b.cells=[]∧b.esz=1)∨b'.cells=rens ((List.range N).map g) b.cells))
  (hF:A8 N F=true) (hF':wk (rens ((List.range N).map g) F) F'):C8 m F H F' H':=by
 have hl:((List.range N).map g).length=N:=by simp
 refine ⟨(List.range N).map g,by rw [hl,hN],by omega,fun i hi=>by rw [Cp (by omega)];exact hfix i hi,fun i hi=>?_,fun i j b b' h1 h2 he=>?_,fun i b h=>?_,by rw [←Qh hF',G6];simp,fun k v hk=>?_⟩
 ·rw [hl] at hi;rw [Cp hi];obtain ⟨b,b',_,h2,_⟩:=hb i hi;exact (List.getElem?_eq_some_iff.1 h2).1
 ·have hi:=(List.getElem?_eq_some_iff.1 h1).1;have hj:=(List.getElem?_eq_some_iff.1 h2).1;rw [hN] at hi hj;rw [Cp hi,Cp hj] at he;exact hinj i j hi hj he
 ·have hi:=(List.getElem?_eq_some_iff.1 h).1;rw [hN] at hi;obtain ⟨b1,b',h1,h2,h3,h4,h5⟩:=hb i hi;rw [h] at h1;simp only [Option.some.injEq] at h1;subst h1;rw [Cp hi];refine ⟨b',h2,?_,h3,fun k v hk=>?_,fun hr=>?_⟩
  ·rcases h5 with ⟨h5,_⟩ | h5
   ·rw [h5];exact Nat.zero_le _
   ·rw [h5,G6];simp
  ·rcases h5 with ⟨h5,_⟩ | h5
   ·rw [h5] at hk;simp at hk
   ·rw [I1,List.all_eq_true] at h4;refine ⟨by rw [hl];exact h4 v (List.mem_of_getElem? hk),.inr ?_⟩;rw [h5,G6];simp [hk]
  ·rcases h5 with ⟨_,h5⟩ | h5
   ·unfold isRec at hr;rw [h5] at hr;cases hr
   ·rw [h5,G6];simp
 ·rw [I1,List.all_eq_true] at hF;refine ⟨by rw [hl];exact hF v (List.mem_of_getElem? hk),?_⟩;rcases Rz hF' k (Go.Am.ren ((List.range N).map g) v) (by rw [G6];simp [hk]) with h | h
  ·left;cases v with
   | undef=>rfl
   | ptr r o=>cases r<;>simp [Go.Am.ren] at h
   | slice m r o n=>cases r<;>simp [Go.Am.ren] at h
   | _=>simp [Go.Am.ren] at h
  ·exact .inr h
def P8 (t:TS) (p:Nat→AV) (s s':Ptb):Hp:=some ⟨1,t.tb p s⟩::L7 t s'
theorem Cg {t:TS} {p:Nat→AV} {s s':Ptb}:(P8 t p s s').length=14:=by simp [P8,Wc]
theorem jN {t:TS} {p:Nat→AV} {s s':Ptb}:(P8 t p s s')[0]?=some (some ⟨1,t.tb p s⟩):=rfl
theorem Do {t:TS} {p:Nat→AV} {s s':Ptb} {n:Nat} (h:n<13):(P8 t p s s')[n+1]?=some (some ⟨1,I4 t.enc (s'.sg n)⟩):=by
 unfold P8;rw [List.getElem?_cons_succ,Wg h]
def Dn (s:Ptb) (k:Nat):Ptb:=⟨s.at_,fun j=>if j<k then s.sg j else none⟩
def cpT (s:Ptb) (k:Nat):Nat→AV:=fun j=>if j<k then B3 15 s j else B3 1 s j
theorem wB {t:TS} {s:Ptb}:L7 t (Dn s 13)=L7 t s:=by
 unfold L7;refine List.map_congr_left fun n hn=>?_;show some (⟨1,I4 t.enc (if n<13 then s.sg n else none)⟩:Blk)=_;rw [if_pos (List.mem_range.1 hn)]
theorem oT {s:Ptb} {k n:Nat}:(Dn s (k+1)).sg n=if n=k then s.sg n else (Dn s k).sg n:=by
 show (if n<k+1 then s.sg n else none)=if n=k then s.sg n else (if n<k then s.sg n else none)
 by_cases e:n=k
 ·rw [if_pos e,if_pos (by omega)]
 ·by_cases f:n<k
  ·rw [if_neg e,if_pos (by omega),if_pos f]
  ·rw [if_neg e,if_neg (by omega),if_neg f]
theorem Bx {s:Ptb} {b m n:Nat} (h:b+n<m):bnd m (B3 b s n)=true:=by
 unfold B3 H5;split
 ·rfl
 ·simpa [bnd] using h
theorem rX {s:Ptb} {k n m:Nat} (hn:n<13) (hm:28≤m):bnd m (cpT s k n)=true:=by
 unfold cpT;split
 ·exact Bx (by omega)
 ·exact Bx (by omega)
def Ha (t:TS) (s:Ptb) (k:Nat):Hp:=B0 t s++P8 t (cpT s k) s (Dn s k)
theorem On {t:TS} {s:Ptb} {k:Nat}:(Ha t s k).length=28:=by simp [Ha,A9,Cg]
theorem Au {t:TS} (ht:O7 t) (x:Option Sg) (m:Nat):A8 m (I4 t.enc x)=true:=by
 cases x with
 | none=>rfl
 | some p=>exact ht.flatE p m
theorem Y8 {t:TS} (ht:O7 t) (x:Option Sg) (θ:List Nat):rens θ (I4 t.enc x)=I4 t.enc x:=E0 θ _ (Au ht x 0)
end Go.Am
