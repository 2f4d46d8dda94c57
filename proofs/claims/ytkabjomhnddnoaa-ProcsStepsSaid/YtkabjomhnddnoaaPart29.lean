/-
  ProcsSteps: do the processes stand alike: going over all. ProcsSteps: do the processes stand alike: the second loop, the call.
-/
import Derived.Test.YtkabjomhnddnoaaPart28
import Derived.Test.YtkabjomhnddnoaaPart17
namespace Go.Am
open Go.Proofs Crc
set_option maxRecDepth 100000
set_option maxHeartbeats 1000000
theorem Ru (s:Ptb) (n:Nat):∀ k,∃ t,allN s (n+k)=allN s n++t
 | 0=>⟨[],by simp [A2]⟩
 | k+1=>by
  obtain ⟨t,e⟩:=Ru s n k;exact ⟨t++if 0<(s.at_ (n+k)).num then [n+k] else [],by rw [show n+(k+1)=(n+k)+1 by omega,Gf,e,List.append_assoc]⟩
theorem rZ {s:Ptb} {i:Nat} (hi:i<13) (hp:0<(s.at_ i).num):((allN s i).length)<(allN s 13).length∧subL (rowsU s (allN s 13)) (((allN s i).length)*6) 6=M3 (s.at_ i):=by
 obtain ⟨t,e⟩:=Ru s (i+1) (13 - (i+1));have e':=Gf s i;rw [if_pos hp] at e';rw [show i+1+(13 - (i+1))=13 by omega,e'] at e;rw [e];refine ⟨by simp,?_⟩;have e1:rowsU s (allN s i++[i]++t)=rowsU s (allN s i)++(M3 (s.at_ i)++rowsU s t):=by simp [rowsU]
 rw [e1,←Qj s (allN s i)];unfold subL;rw [List.drop_left']
 ·exact List.take_left' rfl
 ·rfl
theorem yT {s:Ptb} {i:Nat} (hi:i≤13):((allN s i).length)≤(allN s 13).length:=by
 obtain ⟨t,e⟩:=Ru s i (13 - i);rw [show i+(13 - i)=13 by omega] at e;rw [e];simp
def Ki (s:Ptb) (t lw:Int):Bool:=decide (t=0∧1≤lw∧lw≤((allN s 13).length:Int))
theorem wO_ok (G:Nat→List AV) (B:Nat) {s:Ptb} (hw:Wf s) (lw t:Int) {i:Nat} (hi:i<13) (hp:0<(s.at_ i).num):Lj (⟨Try.prog,G,B⟩:A3) (Jc 2505 35 (G5 [.agg (subL (subL (arT s 13) (i*7) 7) 0 6)] (vHp G (((HAd (.var 5 (encX s)) (.var 7 lw) (.var 22 (rowsU s (allN s 13))) (.var 8 (allN s 13).length) (.var 9 t) (.var 10 (((allN s i).length):Int)))++([some ⟨4294967291,.var 24 (rcW 0)⟩]:DHp))++([some ⟨1,.sub (.var 25 (arT s 13)) (.mul (.var 6 i) 7) (.lit 7)⟩]:DHp)))) (.tst (.var 19 (Mj t lw ((allN s i).length))) (.one (.bool (.lit false)) [.set 34 ⟨1,.of [.int .i64 (.var 27 ((((allN s i).length):Int)+1))]⟩,.set 35 ⟨4294967291,.var 26 (rcW 7)⟩]) (.one (.bool (.lit true)) [.set 34 ⟨1,.of [.int .i64 (.var 27 ((((allN s i).length):Int)+1))]⟩]))):=by
 refine lC rfl ?_;obtain ⟨h1,h2⟩:=rZ hi hp;have key:=y_w G B hw.thin (P5 (s.at_ i) (ptC s 13 i)) (row14 hi) lw t ((allN s i).length) (s.at_ i).num (s.at_ i).par (s.at_ i).grp (s.at_ i).usr (s.at_ i).en (s.at_ i).st h1 h2;have e1:subL (subL (arT s 13) (i*7) 7) 0 6=M3 (s.at_ i):=by rw [Ed hi];rfl
 have e2:(vHp G (((HAd (.var 5 (encX s)) (.var 7 lw) (.var 22 (rowsU s (allN s 13))) (.var 8 (allN s 13).length) (.var 9 t) (.var 10 (((allN s i).length):Int)))++([some ⟨4294967291,.var 24 (rcW 0)⟩]:DHp))++([some ⟨1,.sub (.var 25 (arT s 13)) (.mul (.var 6 i) 7) (.lit 7)⟩]:DHp)))=hpA s lw t ((allN s i).length)++([some (⟨4294967291,rcW 0⟩:Blk)])++[some (⟨1,P5 (s.at_ i) (ptC s 13 i)⟩:Blk)]:=by
  rw [Dw,Dw,hA,←Ed hi];rfl
 rw [e1,e2];refine key.mono ?_;rintro v H' ⟨g1,g2⟩;rcases Bool.eq_false_or_eq_true (Mj t lw ((allN s i).length)) with hb | hb
 ·obtain ⟨rfl,rfl⟩:=g1 hb;exact .inl ⟨hb,rfl,rfl⟩
 ·obtain ⟨rfl,rfl⟩:=g2 hb;exact .inr ⟨hb,rfl,rfl⟩
theorem Ap {s:Ptb} {lw t n:Int} {q:Nat}:(hpA s lw t n++[some (⟨4294967291,rcW q⟩:Blk)]).length=36:=by simp [Lc]
theorem dQ {s:Ptb} (hs:U7 s) {lw t n:Int} {q:Nat}:D7 36 (hpA s lw t n++[some (⟨4294967291,rcW q⟩:Blk)])=true:=
 hpB_app (uB hs (by omega)) (by simp only [D7,C6 (show 35≤36 by omega) _ (rcW_b q),Bool.and_self])
theorem vF {s:Ptb} (hs:U7 s) {lw t n:Int} {i:Nat} {H' E:Hp} (h:H'=hpA s lw t n++([some (⟨4294967291,rcW 0⟩:Blk)])++E):C8 36 [.yld 35,.agg (arT s 13),.int .i64 ((i+1:Nat):Int)] (hpA s lw t n++([some (⟨4294967291,rcW 0⟩:Blk)])) [.yld 35,.agg (arT s 13),.int .i64 ((i+1:Nat):Int)] H':=by
 subst h;refine C8.same (by rw [Ap];omega) ?_ ?_
 ·rw [Ap];exact dQ hs
 ·rw [Ap];refine ⟨⟨rfl,rfl⟩,⟨?_,rfl⟩,⟨rfl,rfl⟩,trivial⟩
  have:=pA s (m:=36) (by omega)
  simpa [bnd] using this
theorem aL7 (G:Nat→List AV) (B:Nat) {s:Ptb} (hw:Wf s) (lw t:Int) :
  AWp (⟨Try.prog,G,B⟩:A3) 36 (.loop (loopN Try.f76 0)) (fl 27 [0,11,12] [.yld 35,.agg (arT s 13),.int .i64 0]) (hpA s lw t ((allN s 0).length:Int)++([some (⟨4294967291,rcW 0⟩:Blk)])) (lv 27 [0,11,12] (LOut.post G 36 (.tst (.var 19 (Ki s t lw)) (.one .ret [.undef,.undef,.undef] ((HAd (.var 5 (encX s)) (.var 7 lw) (.var 22 (rowsU s (allN s 13))) (.var 8 (allN s 13).length) (.var 9 t) (.var 7 lw))++([some ⟨4294967291,.var 26 (rcW 7)⟩]:DHp))) (.one (.exit 0) [.undef,.undef,.undef] ((HAd (.var 5 (encX s)) (.var 7 lw) (.var 22 (rowsU s (allN s 13))) (.var 8 (allN s 13).length) (.var 9 t) (.ofN (.var 8 (allN s 13).length)))++([some ⟨4294967291,.var 24 (rcW 0)⟩]:DHp)))))):=by
 refine Yi (fun i=>¬(t=0∧1≤lw∧lw≤(((allN s i).length):Int))) 13 (fun i=>[.yld 35,.agg (arT s 13),.int .i64 (i:Int)]) (fun i=>hpA s lw t (((allN s i).length):Int)++([some (⟨4294967291,rcW 0⟩:Blk)])) (by show ¬(t=0∧1≤lw∧lw≤(((allN s 0).length:Nat):Int));rw [show (allN s 0).length=0 from rfl];omega) fun i hi hP=>?_
 have eH:hpA s lw t (((allN s i).length):Int)++([some (⟨4294967291,rcW 0⟩:Blk)])=vHp G ((HAd (.var 5 (encX s)) (.var 7 lw) (.var 22 (rowsU s (allN s 13))) (.var 8 (allN s 13).length) (.var 9 t) (.var 10 (((allN s i).length):Int)))++([some ⟨4294967291,.var 24 (rcW 0)⟩]:DHp)):=by rw [Dw,hA];rfl
 rw [eH];have al:=Zs s 13;have l36:((HAd (.var 5 (encX s)) (.var 7 lw) (.var 22 (rowsU s (allN s 13))) (.var 8 (allN s 13).length) (.var 9 t) (.var 10 (((allN s i).length):Int)))++([some ⟨4294967291,.var 24 (rcW 0)⟩]:DHp)).length=36:=rfl;have hmono:=yT (s:=s) hi;have h13:=bV s 13;by_cases him:i<13
 ·have er:=Ed (s:=s) (cc:=13) him;by_cases hpos:0<(s.at_ i).num
  ·refine E2 (C:=(⟨Try.prog,G,B⟩:A3)) (K:=Dr Try.prog [] [] [] [] (Jc 2505 35 (G5 [.agg (subL (subL (arT s 13) (i*7) 7) 0 6)] (vHp G (((HAd (.var 5 (encX s)) (.var 7 lw) (.var 22 (rowsU s (allN s 13))) (.var 8 (allN s 13).length) (.var 9 t) (.var 10 (((allN s i).length):Int)))++([some ⟨4294967291,.var 24 (rcW 0)⟩]:DHp))++([some ⟨1,.sub (.var 25 (arT s 13)) (.mul (.var 6 i) 7) (.lit 7)⟩]:DHp)))) (.tst (.var 19 (Mj t lw ((allN s i).length))) (.one (.bool (.lit false)) [.set 34 ⟨1,.of [.int .i64 (.var 27 ((((allN s i).length):Int)+1))]⟩,.set 35 ⟨4294967291,.var 26 (rcW 7)⟩]) (.one (.bool (.lit true)) [.set 34 ⟨1,.of [.int .i64 (.var 27 ((((allN s i).length):Int)+1))]⟩]))) 36) (At (mix G B) (by kernel_rfl) .nil .nil .none (wO_ok G B hw lw t him hpos)) (fuel:=300) (n0:=60) (m:=36) (c:=loopN Try.f76 0)
    (vs:=[.yld 35,.agg (.var 25 (arT s 13)),.int .i64 (.ofN (.var 6 i))]) (H:=((HAd (.var 5 (encX s)) (.var 7 lw) (.var 22 (rowsU s (allN s 13))) (.var 8 (allN s 13).length) (.var 9 t) (.var 10 (((allN s i).length):Int)))++([some ⟨4294967291,.var 24 (rcW 0)⟩]:DHp))) (by rw [l36];exact Nat.le_refl _) ?_
   rw [zE];have ek:(allN s (i+1)).length=((allN s i).length)+1:=by rw [Gf,if_pos hpos];simp
   have hat:=(rZ him hpos).1;refine ⟨fun h=>⟨decide_eq_true (by omega),h,A6.2 (by rw [al];omega),?_,?_,?_,fun hp=>⟨?_,F5,fun hk=>?_,fun hk=>?_⟩,fun hp=>?_⟩,fun h=>?_⟩
   ·rw [er];unfold ptC;cases s.sg i<;>rfl
   ·rw [er];rfl
   ·rw [er];rfl
   ·rw [er];rfl
   ·have hk':((t==0)&&((((allN s i).length):Int)+1==lw))=true:=hk;simp only [Bool.and_eq_true,beq_iff_eq] at hk';refine .inl ⟨show Ki s t lw=true from decide_eq_true ⟨hk'.1,by omega,by omega⟩,rfl,.inr ?_⟩;rw [hk'.2];refine C8.same (F:=vVs G [.undef,.undef,.undef]) (m:=36) (H:=hpA s lw t lw++([some (⟨4294967291,rcW 7⟩:Blk)])) (G:=[some (⟨1,subL (arT s 13) (i*7) 7⟩:Blk)]) (by rw [Ap];omega) (by rw [Ap];exact dQ hw.thin) ?_;trivial
   ·have hk':((t==0)&&((((allN s i).length):Int)+1==lw))=false:=hk;simp only [Bool.and_eq_false_iff,beq_eq_false_iff_ne,ne_eq] at hk';refine ⟨him,by rw [ek];omega,.inr ?_⟩;rw [D9 (by omega)];refine vF hw.thin (E:=[some (⟨1,subL (arT s 13) (i*7) 7⟩:Blk)]) ?_;rw [ek];show _=hpA s lw t ((((allN s i).length):Int)+1)++([some (⟨4294967291,rcW 0⟩:Blk)])++_;unfold hpA exA;simp only [List.append_assoc];rfl
   ·rw [er] at hp;exact absurd hpos (by have h:=of_decide_eq_false hp;exact h)
   ·exact absurd (of_decide_eq_false h) (by omega)
  ·refine E2 (C:=(⟨Try.prog,G,B⟩:A3)) (K:=Dr Try.prog [] [] [] [] (Jc 2505 35 (fun _=>false) (.tst (.var 19 false) (.one (.bool (.lit false)) [.set 34 ⟨1,.of [.int .i64 (.var 27 0)]⟩,.set 35 ⟨4294967291,.var 26 (rcW 7)⟩]) (.one (.bool (.lit true)) [.set 34 ⟨1,.of [.int .i64 (.var 27 0)]⟩]))) 36) (At (mix G B) (by kernel_rfl) .nil .nil .none tK) (fuel:=300) (n0:=60) (m:=36) (c:=loopN Try.f76 0)
    (vs:=[.yld 35,.agg (.var 25 (arT s 13)),.int .i64 (.ofN (.var 6 i))]) (H:=((HAd (.var 5 (encX s)) (.var 7 lw) (.var 22 (rowsU s (allN s 13))) (.var 8 (allN s 13).length) (.var 9 t) (.var 10 (((allN s i).length):Int)))++([some ⟨4294967291,.var 24 (rcW 0)⟩]:DHp))) (by rw [l36];exact Nat.le_refl _) ?_
   rw [zE];have ek:(allN s (i+1)).length=((allN s i).length):=by rw [Gf,if_neg hpos];simp
   refine ⟨fun h=>⟨decide_eq_true (by omega),h,A6.2 (by rw [al];omega),?_,?_,?_,fun hp=>?_,fun hp=>?_⟩,fun h=>?_⟩
   ·rw [er];unfold ptC;cases s.sg i<;>rfl
   ·rw [er];rfl
   ·rw [er];rfl
   ·rw [er] at hp;exact absurd (show 0<(s.at_ i).num from of_decide_eq_true hp) hpos
   ·refine ⟨him,by rw [ek];exact hP,.inr ?_⟩;rw [D9 (by omega)];refine vF hw.thin (E:=[some (⟨1,subL (arT s 13) (i*7) 7⟩:Blk)]) ?_;rw [ek];unfold hpA exA;simp only [List.append_assoc];rfl
   ·exact absurd (of_decide_eq_false h) (by omega)
 ·have:i=13:=by omega
  subst this
  refine E2 (C:=(⟨Try.prog,G,B⟩:A3)) (K:=Dr Try.prog [] [] [] [] (Jc 2505 35 (fun _=>false) (.tst (.var 19 false) (.one (.bool (.lit false)) [.set 34 ⟨1,.of [.int .i64 (.var 27 0)]⟩,.set 35 ⟨4294967291,.var 26 (rcW 7)⟩]) (.one (.bool (.lit true)) [.set 34 ⟨1,.of [.int .i64 (.var 27 0)]⟩]))) 36) (At (mix G B) (by kernel_rfl) .nil .nil .none tK) (fuel:=300) (n0:=60) (m:=36) (c:=loopN Try.f76 0)
   (vs:=[.yld 35,.agg (.var 25 (arT s 13)),.int .i64 (.ofN (.var 6 13))]) (H:=((HAd (.var 5 (encX s)) (.var 7 lw) (.var 22 (rowsU s (allN s 13))) (.var 8 (allN s 13).length) (.var 9 t) (.var 10 ((allN s 13).length:Int)))++([some ⟨4294967291,.var 24 (rcW 0)⟩]:DHp))) (by exact Nat.le_refl 36) ?_
  rw [zE];refine ⟨fun h=>absurd (of_decide_eq_true h) (by omega),fun h=>?_⟩;exact .inr ⟨show Ki s t lw=false from decide_eq_false hP,rfl,.inl ⟨by simp [wk,vVs,vV],rfl⟩⟩
theorem qB (G:Nat→List AV) (B:Nat) {s:Ptb} (hw:Wf s) (lw t:Int):ACalls (⟨Try.prog,G,B⟩:A3) 76 [.yld 35,.ptr (.rw 30) 0] (hpA s lw t 0++([some (⟨4294967291,rcW 0⟩:Blk)])) fun v H=>v=.tup []∧(((Ki s t lw)=true∧H.take 36=hpA s lw t lw++([some (⟨4294967291,rcW 7⟩:Blk)]))∨((Ki s t lw)=false∧H.take 36=hpA s lw t ((allN s 13).length:Int)++([some (⟨4294967291,rcW 0⟩:Blk)]))):=by
 have e0:hpA s lw t 0++([some (⟨4294967291,rcW 0⟩:Blk)])=vHp G ((HAd (.var 5 (encX s)) (.var 7 lw) (.var 22 (rowsU s (allN s 13))) (.var 8 (allN s 13).length) (.var 9 t) (.lit 0))++([some ⟨4294967291,.var 24 (rcW 0)⟩]:DHp)):=by rw [Dw];rfl
 have hlp:=aL7 G B hw lw t;rw [show (((allN s 0).length:Nat):Int)=0 from rfl,e0] at hlp;rw [e0]
 refine D3 (C:=(⟨Try.prog,G,B⟩:A3)) (K:=Dr Try.prog [36] [] [E5 2506 (G5 [.yld 35,.agg (arT s 13),.int .i64 0] (vHp G ((HAd (.var 5 (encX s)) (.var 7 lw) (.var 22 (rowsU s (allN s 13))) (.var 8 (allN s 13).length) (.var 9 t) (.lit 0))++([some ⟨4294967291,.var 24 (rcW 0)⟩]:DHp)))) 0 27 [0,11,12] (.tst (.var 19 (Ki s t lw)) (.one .ret [.undef,.undef,.undef] ((HAd (.var 5 (encX s)) (.var 7 lw) (.var 22 (rowsU s (allN s 13))) (.var 8 (allN s 13).length) (.var 9 t) (.var 7 lw))++([some ⟨4294967291,.var 26 (rcW 7)⟩]:DHp))) (.one (.exit 0) [.undef,.undef,.undef] ((HAd (.var 5 (encX s)) (.var 7 lw) (.var 22 (rowsU s (allN s 13))) (.var 8 (allN s 13).length) (.var 9 t) (.ofN (.var 8 (allN s 13).length)))++([some ⟨4294967291,.var 24 (rcW 0)⟩]:DHp))))] [] noY 36) (fuel:=300) (n0:=60) (f:=76) (fn:=Try.f76) (args:=[.yld 35,.ptr (.rw 30) (.lit 0)]) (H:=((HAd (.var 5 (encX s)) (.var 7 lw) (.var 22 (rowsU s (allN s 13))) (.var 8 (allN s 13).length) (.var 9 t) (.lit 0))++([some ⟨4294967291,.var 24 (rcW 0)⟩]:DHp))) (keep:=36)
  (R:=fun v H=>v=.tup []∧(((Ki s t lw)=true∧H=hpA s lw t lw++([some (⟨4294967291,rcW 7⟩:Blk)]))∨((Ki s t lw)=false∧H=hpA s lw t ((allN s 13).length:Int)++([some (⟨4294967291,rcW 0⟩:Blk)])))) (At (mix G B) (by kernel_rfl) .nil (.cast (.cons (i:=0) (by kernel_rfl) rfl (N5 rfl hlp) .nil) (by kernel_rfl)) .none Pl) (by kernel_rfl) (by kernel_rfl) (by kernel_rfl) ?_
 rw [wi_c]
 have et:I3 tsP [.int .i64 1,.agg (encX s)]=encT 1 s:=by
  show tsP.tb (B3 1 (P7 (encX s))) (P7 (encX s))=_;rw [C7 hw.thin];rfl
 have hst:G5 [.yld 35,.agg (arT s 13),.int .i64 0] (vHp G ((HAd (.var 5 (encX s)) (.var 7 lw) (.var 22 (rowsU s (allN s 13))) (.var 8 (allN s 13).length) (.var 9 t) (.lit 0))++([some ⟨4294967291,.var 24 (rcW 0)⟩]:DHp))) [.agg ([.yld 35,.agg (subL (I3 tsP [.int .i64 1,.agg (encX s)]) 1 91),.int .i64 0]:List AV),.agg (U9 (vHp G ((HAd (.var 5 (encX s)) (.var 7 lw) (.var 22 (rowsU s (allN s 13))) (.var 8 (allN s 13).length) (.var 9 t) (.lit 0))++([some ⟨4294967291,.var 24 (rcW 0)⟩]:DHp))))]=true:=by
  rw [et,uQ];exact F5
 have hb:isB (I3 tsP [.int .i64 1,.agg (encX s)]) 0=true:=by rw [et];rfl
 have hg:A5 (I3 tsP [.int .i64 1,.agg (encX s)]) 0=true:=by rw [et];rfl
 have hl:leB 92 (List.length (I3 tsP [.int .i64 1,.agg (encX s)]))=true:=A6.2 (by rw [et,Q8];omega);exact ⟨hb,fun _=>⟨hl,hst,fun h=>⟨rfl,.inl ⟨h,rfl⟩⟩,fun h=>⟨rfl,.inr ⟨h,rfl⟩⟩⟩,fun h=>by rw [hg] at h;cases h⟩
end Go.Am
namespace Go.Am
open Go.Proofs Crc
set_option maxRecDepth 100000
set_option maxHeartbeats 1000000
theorem wi_T (G:Nat→List AV) (B:Nat) {s:Ptb} (hw:Wf s) (lw t:Int) (h:(Ki s t lw)=true):ACalls (⟨Try.prog,G,B⟩:A3) 76 [.yld 35,.ptr (.rw 30) 0] (hpA s lw t 0++([some (⟨4294967291,rcW 0⟩:Blk)])) fun v H=>v=.tup []∧H=hpA s lw t lw++([some (⟨4294967291,rcW 7⟩:Blk)]):=by
 refine ACalls.keep (k:=36) ((qB G B hw lw t).monoK ?_) (by rw [Ap,Ap];exact Nat.le_refl _) (by rw [Ap];exact dQ hw.thin) rfl (by simp);rintro v H ⟨e,⟨_,g⟩ | ⟨h',_⟩⟩
 ·exact ⟨e,g⟩
 ·rw [h] at h';cases h'
theorem wi_F (G:Nat→List AV) (B:Nat) {s:Ptb} (hw:Wf s) (lw t:Int) (h:(Ki s t lw)=false):ACalls (⟨Try.prog,G,B⟩:A3) 76 [.yld 35,.ptr (.rw 30) 0] (hpA s lw t 0++([some (⟨4294967291,rcW 0⟩:Blk)])) fun v H=>v=.tup []∧H=hpA s lw t ((allN s 13).length:Int)++([some (⟨4294967291,rcW 0⟩:Blk)]):=by
 refine ACalls.keep (k:=36) ((qB G B hw lw t).monoK ?_) (by rw [Ap,Ap];exact Nat.le_refl _) (by rw [Ap];exact dQ hw.thin) rfl (by simp);rintro v H ⟨e,⟨h',_⟩ | ⟨_,g⟩⟩
 ·rw [h] at h';cases h'
 ·exact ⟨e,g⟩
theorem w_rng (G:Nat→List AV) (B:Nat) {s:Ptb} (hw:Wf s) (lw t:Int):AWp (⟨Try.prog,G,B⟩:A3) 28 (loopN Try.f30 2) pJ (hpA s lw t 0) (lv 133 [5,6,13,14,15,16,86] (LOut.post G 28 (.tst (.var 19 (Ki s t lw)) (.one (.exit 4) [.ptr (.rw 28) (.lit 0),.ptr (.rw 29) (.lit 0),.func 76 [.ptr (.rw 30) (.lit 0)],.ptr (.rw 32) (.lit 0),.ptr (.rw 33) (.lit 0),.ptr (.rw 34) (.lit 0),.func 76 [.ptr (.rw 30) (.lit 0)]] (HAd (.var 5 (encX s)) (.var 7 lw) (.var 22 (rowsU s (allN s 13))) (.var 8 (allN s 13).length) (.var 9 t) (.var 7 lw))) (.one .normal [.ptr (.rw 28) (.lit 0),.ptr (.rw 29) (.lit 0),.func 76 [.ptr (.rw 30) (.lit 0)],.ptr (.rw 32) (.lit 0),.ptr (.rw 33) (.lit 0),.ptr (.rw 34) (.lit 0),.func 76 [.ptr (.rw 30) (.lit 0)]] (HAd (.var 5 (encX s)) (.var 7 lw) (.var 22 (rowsU s (allN s 13))) (.var 8 (allN s 13).length) (.var 9 t) (.ofN (.var 8 (allN s 13).length))))))):=by
 have hv:∀ n:Int,C8 28 (vVs G [.ptr (.rw 28) (.lit 0),.ptr (.rw 29) (.lit 0),.func 76 [.ptr (.rw 30) (.lit 0)],.ptr (.rw 32) (.lit 0),.ptr (.rw 33) (.lit 0),.ptr (.rw 34) (.lit 0),.func 76 [.ptr (.rw 30) (.lit 0)]]) (hpA s lw t n) [.ptr (.rw 28) 0,.ptr (.rw 29) 0,.func 76 [.ptr (.rw 30) 0],.ptr (.rw 32) 0,.ptr (.rw 33) 0,.ptr (.rw 34) 0,.func 76 [.ptr (.rw 30) 0]] (hpA s lw t n++[none]):=fun n=>by
  refine C8.same (by rw [Lc];omega) (by rw [Lc];exact uB hw.thin (by omega)) ?_;rw [Lc];exact ⟨⟨rfl,rfl⟩,⟨rfl,rfl⟩,⟨rfl,rfl⟩,⟨rfl,rfl⟩,⟨rfl,rfl⟩,⟨rfl,rfl⟩,⟨rfl,rfl⟩,trivial⟩
 rw [N30_eq];refine AWp.rng (f:=76) (cap:=[.ptr (.rw 30) 0]) (by rw [Lc];omega) (by kernel_rfl) ?_;rw [Lc];rcases Bool.eq_false_or_eq_true (Ki s t lw) with hf | hf
 ·refine (wi_T G B hw lw t hf).monoK ?_;rintro v H ⟨rfl,rfl⟩;exact .inl ⟨hf,rfl,.inr (hv lw)⟩
 ·refine (wi_F G B hw lw t hf).monoK ?_;rintro v H ⟨rfl,rfl⟩;exact .inr ⟨hf,rfl,.inr (hv ((allN s 13).length:Int))⟩
def jA (s:Ptb) (lw:Int):Hp:=D2 1 (encX s)++(D1 15 (encX s)++[some ⟨1,[.int .i64 lw]⟩,some ⟨1,[.bool false]⟩,some ⟨1,[.ptr (.rw 0) 0]⟩,some ⟨6,rowsU s (allN s 13)⟩,some ⟨1,[.slice true (.rw 31) 0 (allN s 13).length]⟩])
def Xc (s:Ptb) (lw t:Int):Hp:=jA s lw++[some ⟨1,[.int .i64 t]⟩]
theorem hTd (G:Nat→List AV) (s:Ptb) (lw t:Int):vHp G (HTd (.var 5 (encX s)) (.var 7 lw) (.var 22 (rowsU s (allN s 13))) (.var 8 (allN s 13).length) (.var 9 t))=Xc s lw t:=rfl
theorem aS3 {s:Ptb} {lw:Int}:(jA s lw).length=33:=by simp [jA,D2,Ff,D1,Id]
theorem h33_b {s:Ptb} (hs:U7 s) {lw:Int} {m:Nat} (hm:32≤m):D7 m (jA s lw)=true:=by
 unfold jA;rw [show D2 1 (encX s)=_ from Ig hs 1,show D1 15 (encX s)=_ from If hs 15];refine hpB_app (N3 tsP_ok (by omega)) (hpB_app (N3 tsR_ok (by omega)) ?_);have e:∀ i,i<32→decide (i<m)=true:=fun i hi=>decide_eq_true (by omega);simp only [D7,Dg,A8,bnd,Bool.and_self,Bool.and_true,e 0 (by omega),e 31 (by omega)]
theorem C8.last {m N:Nat} {H E:Hp} {b:Blk} {F F':Fr} (hl:H.length=N) (hm:m≤N) (hs:H.all (·.isSome)=true) (hb:D7 N H=true) (hf:A8 0 b.cells=true) (hF:A8 (N+1) F=true)
  (hF':wk (rens ((List.range (N+1)).map fun j=>if j=N then N+E.length else j) F) F'):C8 m F (H++[some b]) F' (H++(E++[some b])):=by
 refine C8.fn (N:=N+1) (fun j=>if j=N then N+E.length else j) (by simp [hl]) (by omega) (fun j hj=>if_neg (by omega)) (fun i j hi hj h=>?_) (fun j hj=>?_) hF hF'
 ·by_cases a:i=N
  ·by_cases b:j=N
   ·omega
   ·rw [if_pos a,if_neg b] at h;omega
  ·by_cases b:j=N
   ·rw [if_neg a,if_pos b] at h;omega
   ·rw [if_neg a,if_neg b] at h;exact h
 ·by_cases hN:j=N
  ·subst hN;rw [if_pos rfl];refine ⟨b,b,?_,?_,rfl,C6 (Nat.zero_le _) _ hf,.inr (E0 _ _ hf).symm⟩
   ·rw [List.getElem?_append_right (by omega),hl,Nat.sub_self];rfl
   ·rw [List.getElem?_append_right (by omega),hl,Nat.add_sub_cancel_left,List.getElem?_append_right (Nat.le_refl _),Nat.sub_self];rfl
  ·rw [if_neg hN];have hj':j<H.length:=by omega
   rw [List.getElem?_append_left hj',List.getElem?_append_left hj'];have h1:=List.all_eq_true.1 hs _ (List.getElem_mem hj');obtain ⟨b',hb'⟩:=Option.isSome_iff_exists.1 h1;have hg:H[j]?=some (some b'):=by rw [List.getElem?_eq_getElem hj',hb']
   have hbn:=Oo hb j b' hg;refine ⟨b',b',hg,hg,rfl,C6 (by omega) _ hbn,.inr ?_⟩;exact (Aj (m:=N) (fun i hi=>by rw [Cp (by omega),if_neg (by omega)]) _ hbn).symm
theorem aE9 (s:Ptb) (lw:Int):(jA s lw).all (·.isSome)=true:=rfl
theorem w_turn {s:Ptb} (hs:U7 s) {lw t u:Int} {a b:Option Blk} (h:u=t):C8 28 [.ptr (.rw 28) 0,.ptr (.rw 29) 0,.func 76 [.ptr (.rw 30) 0],.ptr (.rw 32) 0,.ptr (.rw 33) 0] (Xc s lw t) [.ptr (.rw 28) 0,.ptr (.rw 29) 0,.func 76 [.ptr (.rw 30) 0],.ptr (.rw 32) 0,.ptr (.rw 35) 0] (jA s lw++([a,b]++[some ⟨1,[.int .i64 u]⟩])):=by
 subst h;refine C8.last (N:=33) aS3 (by omega) (aE9 s lw) (h33_b hs (by omega)) rfl rfl ?_;exact ⟨rfl,rfl,rfl,rfl,rfl,trivial⟩
theorem aL8 (G:Nat→List AV) (B:Nat) {s:Ptb} (hw:Wf s) (lw:Int):AWp (⟨Try.prog,G,B⟩:A3) 28 (.loop (loopN Try.f30 1)) (fl 133 [5,6,13,14,15] [.ptr (.rw 28) 0,.ptr (.rw 29) 0,.func 76 [.ptr (.rw 30) 0],.ptr (.rw 32) 0,.ptr (.rw 33) 0]) (Xc s lw ((0:Nat):Int)) (lv 133 [5,6,13,14,15] fun e vs H=>e=.exit 2∧wk [.ptr (.rw 28) 0,.ptr (.rw 29) 0,.undef,.undef,.undef] vs∧H=Xc s lw 2):=by
 refine Ko 2 (fun _=>[.ptr (.rw 28) 0,.ptr (.rw 29) 0,.func 76 [.ptr (.rw 30) 0],.ptr (.rw 32) 0,.ptr (.rw 33) 0]) (fun i=>Xc s lw (i:Int)) fun i hi=>?_;have hrng:=w_rng G B hw lw (i:Int);rw [←hTd G]
 refine E2 (C:=(⟨Try.prog,G,B⟩:A3)) (K:=Dr Try.prog [] [] [] [E5 2507 (G5 [.ptr (.rw 28) 0,.ptr (.rw 29) 0,.func 76 [.ptr (.rw 30) 0],.ptr (.rw 32) 0,.ptr (.rw 33) 0,.ptr (.rw 34) 0,.func 76 [.ptr (.rw 30) 0]] (hpA s lw (i:Int) 0)) 87 133 [5,6,13,14,15,16,86] (.tst (.var 19 (Ki s (i:Int) lw)) (.one (.exit 4) [.ptr (.rw 28) (.lit 0),.ptr (.rw 29) (.lit 0),.func 76 [.ptr (.rw 30) (.lit 0)],.ptr (.rw 32) (.lit 0),.ptr (.rw 33) (.lit 0),.ptr (.rw 34) (.lit 0),.func 76 [.ptr (.rw 30) (.lit 0)]] (HAd (.var 5 (encX s)) (.var 7 lw) (.var 22 (rowsU s (allN s 13))) (.var 8 (allN s 13).length) (.var 9 (i:Int)) (.var 7 lw))) (.one .normal [.ptr (.rw 28) (.lit 0),.ptr (.rw 29) (.lit 0),.func 76 [.ptr (.rw 30) (.lit 0)],.ptr (.rw 32) (.lit 0),.ptr (.rw 33) (.lit 0),.ptr (.rw 34) (.lit 0),.func 76 [.ptr (.rw 30) (.lit 0)]] (HAd (.var 5 (encX s)) (.var 7 lw) (.var 22 (rowsU s (allN s 13))) (.var 8 (allN s 13).length) (.var 9 (i:Int)) (.ofN (.var 8 (allN s 13).length)))))] noY 28) (by
   rw [show loopsOf (loopN Try.f30 1)=[loopN Try.f30 2] by kernel_rfl]
   exact At (mix G B) (by kernel_rfl) .nil (.skip (by kernel_rfl) .nil) (.cons (i:=87) (by kernel_rfl) rfl (Ya rfl hrng) .nil) Pl) (fuel:=300) (n0:=60) (m:=28) (c:=loopN Try.f30 1)
  (vs:=[.ptr (.rw 28) (.lit 0),.ptr (.rw 29) (.lit 0),.func 76 [.ptr (.rw 30) (.lit 0)],.ptr (.rw 32) (.lit 0),.ptr (.rw 33) (.lit 0)]) (H:=HTd (.var 5 (encX s)) (.var 7 lw) (.var 22 (rowsU s (allN s 13))) (.var 8 (allN s 13).length) (.var 9 (i:Int))) (by show 28≤34;decide) ?_
 rw [wi_tb];refine ⟨fun h=>?_,fun h=>?_⟩
 ·have h2:i<2:=by have:=of_decide_eq_true h;omega
  have ew:IntKind.wrap .i64 ((i:Int)+1)=((i+1:Nat):Int):=by rw [D9 (by omega)];omega
  have nx:∀ (a b:Option Blk) (H':Hp),H'=jA s lw++([a,b]++[some ⟨1,[.int .i64 (IntKind.wrap .i64 ((i:Int)+1))]⟩])→(i<2∧((([.ptr (.rw 28) 0,.ptr (.rw 29) 0,.func 76 [.ptr (.rw 30) 0],.ptr (.rw 32) 0,.ptr (.rw 35) 0]:List AV)=[.ptr (.rw 28) 0,.ptr (.rw 29) 0,.func 76 [.ptr (.rw 30) 0],.ptr (.rw 32) 0,.ptr (.rw 33) 0]∧H'=Xc s lw ((i+1:Nat):Int))∨C8 28 [.ptr (.rw 28) 0,.ptr (.rw 29) 0,.func 76 [.ptr (.rw 30) 0],.ptr (.rw 32) 0,.ptr (.rw 33) 0] (Xc s lw ((i+1:Nat):Int)) [.ptr (.rw 28) 0,.ptr (.rw 29) 0,.func 76 [.ptr (.rw 30) 0],.ptr (.rw 32) 0,.ptr (.rw 35) 0] H')):=fun a b H' e=>by
   subst e;exact ⟨h2,.inr (w_turn hw.thin ew)⟩
  have hst:G5 [.ptr (.rw 28) 0,.ptr (.rw 29) 0,.func 76 [.ptr (.rw 30) 0],.ptr (.rw 32) 0,.ptr (.rw 33) 0,.ptr (.rw 34) 0,.func 76 [.ptr (.rw 30) 0]] (hpA s lw (i:Int) 0) [.agg [.ptr (.rw 28) 0,.ptr (.rw 29) 0,.func 76 [.ptr (.rw 30) 0],.ptr (.rw 32) 0,.ptr (.rw 33) 0,.ptr (.rw 34) 0,.func 76 [.ptr (.rw 30) 0]],.agg (U9 (hpA s lw (i:Int) 0))]=true:=F5;have nope:∀ {b:Bool} {P:Prop},b=true→b=false→P:=fun h1 h2=>by rw [h1] at h2;cases h2
  refine ⟨hst,fun hs=>⟨fun h1=>⟨fun _=>⟨?_,nx (some ⟨1,[.int .i64 (i:Int)]⟩) _ _ rfl⟩,fun _=>?_⟩,fun h1=>⟨fun h0=>⟨fun _=>nx (some ⟨1,[.int .i64 (i:Int)]⟩) _ _ rfl,fun _=>⟨beq_self_eq_true _,nx (some ⟨1,[.int .i64 (i:Int)]⟩) _ _ rfl⟩⟩,fun _=>nx (some ⟨1,[.int .i64 (i:Int)]⟩) _ _ rfl⟩⟩,
   fun hs=>⟨fun h1=>⟨beq_self_eq_true _,?_,nx (some ⟨1,[.int .i64 (i:Int)]⟩) _ _ rfl⟩,fun h1=>⟨fun h0=>⟨beq_self_eq_true _,nx (some ⟨1,[.int .i64 (i:Int)]⟩) _ _ rfl⟩,fun _=>nx (some ⟨1,[.int .i64 (i:Int)]⟩) _ _ rfl⟩⟩⟩
  ·have h1':(i:Int)=1:=eq_of_beq h1;rw [h1'];rfl
  ·have h1':(i:Int)=1:=eq_of_beq h1
   have:=of_decide_eq_true (show decide _=true from hs)
   omega
  ·have h1':(i:Int)=1:=eq_of_beq h1;rw [h1'];rfl
 ·have:i=2:=by have:=of_decide_eq_false h;omega
  subst this;exact ⟨rfl,by simp [wk,vVs,vV,vR,vN,vI],rfl⟩
theorem aC1 (G:Nat→List AV) (B:Nat) {s:Ptb} (hw:Wf s) (lw:Int):ACalls (⟨Try.prog,G,B⟩:A3) 30 [.ptr (.rw 0) 0,.ptr (.rw 14) 0,.int .i64 lw] (J1 0 [(tsP,s),(tsR,s)]) fun v H'=>v=.bool true∧H'=J1 0 [(tsP,s),(tsR,s)]:=by
 have l0:AWp (⟨Try.prog,G,B⟩:A3) 28 (.loop (loopN Try.f30 0)) (fl 133 [0,1,5,6,7] [.ptr (.rw 0) 0,.ptr (.rw 14) 0,.ptr (.rw 28) 0,.ptr (.rw 29) 0,.int .i64 (-1)]) (Nl s lw) (lv 133 [0,1,5,6,7] (LOut.post G 28 (.one (.exit 0) [.ptr (.rw 0) (.lit 0),.ptr (.rw 14) (.lit 0),.ptr (.rw 28) (.lit 0),.ptr (.rw 29) (.lit 0),.undef] (Ce 1 (.var 5 (encX s))++Cd 15 (.var 5 (encX s))++([some ⟨1,.of [.int .i64 (.var 7 lw)]⟩,some ⟨1,.of [.bool (.lit false)]⟩]:DHp))))):=(aN5 G B hw lw).lmono fun e vs H ⟨h1,h2,h3⟩=>⟨h1,.inl ⟨h2,h3⟩⟩
 have l1:AWp (⟨Try.prog,G,B⟩:A3) 28 (.loop (loopN Try.f30 1)) (fl 133 [5,6,13,14,15] [.ptr (.rw 28) 0,.ptr (.rw 29) 0,.func 76 [.ptr (.rw 30) 0],.ptr (.rw 32) 0,.ptr (.rw 33) 0]) (Xc s lw 0) (lv 133 [5,6,13,14,15] (LOut.post G 28 (.one (.exit 2) [.ptr (.rw 28) (.lit 0),.ptr (.rw 29) (.lit 0),.undef,.undef,.undef] (HTd (.var 5 (encX s)) (.var 7 lw) (.var 22 (rowsU s (allN s 13))) (.var 8 (allN s 13).length) (.lit 2))))):=(aL8 G B hw lw).lmono fun e vs H ⟨h1,h2,h3⟩=>⟨h1,.inl ⟨h2,h3⟩⟩
 have h:=D3 (C:=(⟨Try.prog,G,B⟩:A3)) (K:=Dr Try.prog [54] [(65,kX 2251 (F6 tsR))] [E5 2508 (G5 [.ptr (.rw 0) 0,.ptr (.rw 14) 0,.ptr (.rw 28) 0,.ptr (.rw 29) 0,.int .i64 (-1)] (Nl s lw)) 0 133 [0,1,5,6,7] (.one (.exit 0) [.ptr (.rw 0) (.lit 0),.ptr (.rw 14) (.lit 0),.ptr (.rw 28) (.lit 0),.ptr (.rw 29) (.lit 0),.undef] (Ce 1 (.var 5 (encX s))++Cd 15 (.var 5 (encX s))++([some ⟨1,.of [.int .i64 (.var 7 lw)]⟩,some ⟨1,.of [.bool (.lit false)]⟩]:DHp))),E5 2509 (G5 [.ptr (.rw 28) 0,.ptr (.rw 29) 0,.func 76 [.ptr (.rw 30) 0],.ptr (.rw 32) 0,.ptr (.rw 33) 0] (Xc s lw 0)) 2 133 [5,6,13,14,15] (.one (.exit 2) [.ptr (.rw 28) (.lit 0),.ptr (.rw 29) (.lit 0),.undef,.undef,.undef] (HTd (.var 5 (encX s)) (.var 7 lw) (.var 22 (rowsU s (allN s 13))) (.var 8 (allN s 13).length) (.lit 2)))] [] noY 28) (fuel:=900) (n0:=20) (f:=30) (fn:=Try.f30) (args:=[.ptr (.rw 0) (.lit 0),.ptr (.rw 14) (.lit 0),.int .i64 (.var 7 lw)]) (H:=Ce 1 (.var 5 (encX s))++Cd 15 (.var 5 (encX s))) (keep:=28)
  (R:=fun v H=>v=.bool true∧H=J1 0 [(tsP,s),(tsR,s)]) (by
   rw [show loopsOf (bodyOf Try.f30)=[loopN Try.f30 0,loopN Try.f30 1,loopN Try.f30 2] by kernel_rfl]
   exact At (mix G B) (by kernel_rfl) (.cons (aH6 tsR_ok (fun s hw=>r_all G B hw)) .nil) (.cons (i:=0) (by kernel_rfl) rfl (N5 rfl l0) (.cons (i:=2) (by kernel_rfl) rfl (N5 rfl l1) (.skip (by kernel_rfl) .nil))) .none Pl) (by kernel_rfl) (by kernel_rfl) (by kernel_rfl) (by
  rw [wi_f];have o2:F6 tsR (U5 15 (encX s))=true:=aZ hw 15;have eL:Zv [.agg (encX s)]=rowsU s (allN s 13):=by simp only [Zv,C7 hw.thin]
  have eN:Zu [.agg (encX s)]=(allN s 13).length:=by simp only [Zu,C7 hw.thin]
  rw [eL,eN];have s1:G5 [.ptr (.rw 0) 0,.ptr (.rw 14) 0,.ptr (.rw 28) 0,.ptr (.rw 29) 0,.int .i64 (-1)] (Nl s lw) [.agg [.ptr (.rw 0) 0,.ptr (.rw 14) 0,.ptr (.rw 28) 0,.ptr (.rw 29) 0,.int .i64 (-1)],.agg (U9 (Nl s lw))]=true:=F5;have s2:G5 [.ptr (.rw 28) 0,.ptr (.rw 29) 0,.func 76 [.ptr (.rw 30) 0],.ptr (.rw 32) 0,.ptr (.rw 33) 0] (Xc s lw 0) [.agg [.ptr (.rw 28) 0,.ptr (.rw 29) 0,.func 76 [.ptr (.rw 30) 0],.ptr (.rw 32) 0,.ptr (.rw 33) 0],.agg (U9 (Xc s lw 0))]=true:=F5;refine ⟨s1,o2,s2,rfl,?_⟩
  rw [show D2 1 (encX s)=_ from Ig hw.thin 1,show D1 15 (encX s)=_ from If hw.thin 15]
  simp only [J1,List.append_nil])
 have e0:vHp G (Ce 1 (.var 5 (encX s))++Cd 15 (.var 5 (encX s)))=J1 0 [(tsP,s),(tsR,s)]:=hObj2 hw.thin G;rw [e0] at h;have lo:(J1 0 [(tsP,s),(tsR,s)]).length=28:=by rw [Ie];rfl
 refine ACalls.keep (k:=28) h (Nat.le_refl _) ?_ rfl (by simp);rw [lo];refine Ub (fun o ho=>?_) (by show 0+14*2≤28;omega);simp only [List.mem_cons,List.not_mem_nil,or_false] at ho;rcases ho with rfl | rfl
 ·exact tsP_ok
 ·exact tsR_ok
end Go.Am
namespace Go.Am
open Go.Proofs Crc
set_option maxRecDepth 100000
variable {C:A3}
def Kk (ok okr eqx:List AV→Bool):DSum:=fun args H=>match args with
 | [.ptr (.rw i) (.lit 0),.ptr (.rw j) (.lit 0),.int .i64 _]=>match Z0 2101 H i,Z0 2251 H j with
  | some o,some q=>match Jn (B7 i o.b++B7 j q.b) with
   | true=>some (.chk (Hv 2101 ok o) (.chk (Hv 2251 okr q) (.chk (.uf 2472 eqx [.agg o.x,.agg q.x]) (.one (.bool (.lit true)) []))))
   | false=>none
  | _,_=>none
 | _=>none
theorem sM {f:FuncId} (h:∀ s,Wf s→∀ lw:Int,ACalls C f [.ptr (.rw 0) 0,.ptr (.rw 14) 0,.int .i64 lw] (J1 0 [(tsP,s),(tsR,s)]) fun v H'=>v=.bool true∧H'=J1 0 [(tsP,s),(tsR,s)]) :
  G0 C f (Kk (F6 tsP) (F6 tsR) Nh):=by
 intro args H o ho;unfold Kk at ho;split at ho
 ·rename_i i j lw;split at ho
  ·rename_i oa ob hoa hob;split at ho
   ·rename_i hnd;simp only [Option.some.injEq] at ho;subst ho;intro h1 h2 h3;have h1:F6 tsP [.int .i64 (oa.b:Int),.agg (vL C.G oa.x),.tup (vVs C.G (.agg oa.c0::oa.cs.map EV.agg))]=true:=h1;have h2:F6 tsR [.int .i64 (ob.b:Int),.agg (vL C.G ob.x),.tup (vVs C.G (.agg ob.c0::ob.cs.map EV.agg))]=true:=h2;have h3:Nh [.agg (vL C.G oa.x),.agg (vL C.G ob.x)]=true:=h3;obtain ⟨s,hw,hx,hc⟩:=Q9.1 h1;obtain ⟨s2,hw2,hx2,hc2⟩:=Q9.1 h2;have h3:=bO.1 h3
    have es:s2=s:=by
     rw [hx,hx2] at h3;rw [←C7 hw.thin,h3,C7 hw2.thin]
    subst es;rw [Int.toNat_natCast] at hc hc2;have hA:=kL (C:=C) tsP_ok hoa hc;have hB:=kL (C:=C) tsR_ok hob hc2;have hpl:Xw [(tsP,s2),(tsR,s2)] [(i,oa.b),(j,ob.b)] (vHp C.G H):=⟨tsP_ok,hA,tsR_ok,hB,trivial⟩;have ef:L9 [(i,oa.b),(j,ob.b)]=B7 i oa.b++B7 j ob.b:=by simp [L9]
    have lθ:(B7 i oa.b++B7 j ob.b).length=28:=by rw [List.length_append,B5,B5]
    have l0:(J1 0 [(tsP,s2),(tsR,s2)]).length=28:=by rw [Ie];rfl
    have live:∀ (k:Nat) b,(J1 0 [(tsP,s2),(tsR,s2)])[k]?=some b→∃ b0,b=some b0∧A8 (B7 i oa.b++B7 j ob.b).length b0.cells=true∧(vHp C.G H)[(B7 i oa.b++B7 j ob.b).getD k 0]?=some (some (F9 (B7 i oa.b++B7 j ob.b) b0)):=by
     intro k b' hb';obtain ⟨b0,e,g1,g2,_⟩:=Uc (θ:=B7 i oa.b++B7 j ob.b) (L:=0) hpl (fun k _=>by rw [ef,Nat.zero_add]) (by rw [lθ];show 0+14*2≤28;omega) k b' hb';rw [ef] at g1;exact ⟨b0,e,g2,g1⟩
    have same:lay (J0 (B7 i oa.b++B7 j ob.b) (vHp C.G H).length 0) (B7 i oa.b++B7 j ob.b) (J1 0 [(tsP,s2),(tsR,s2)]) (vHp C.G H)=vHp C.G H:=by
     refine Ft _ _ _ _ fun q b hk hb=>?_;obtain ⟨b0,rfl,g1,g2⟩:=live q b hb;rw [g2];simp only [K7,Option.map_some,F9,Z8 _ g1]
    refine E1.fr (θ:=B7 i oa.b++B7 j ob.b) (H0:=J1 0 [(tsP,s2),(tsR,s2)]) (H1:=J1 0 [(tsP,s2),(tsR,s2)]) (v0:=.bool true) (args0:=[.ptr (.rw 0) 0,.ptr (.rw 14) 0,.int .i64 (vI C.G lw)])
     (Mo hnd) (by rw [lθ,l0]) live (by rw [lθ];rfl) ?_ (h s2 hw _) (Nat.le_refl _) (by rw [l0];rfl) ?_ rfl ?_
    ·show [AV.ptr (.rw i) 0,.ptr (.rw j) 0,.int .i64 (vI C.G lw)]=rens _ _;simp only [rens,ren];have e0:(B7 i oa.b++B7 j ob.b).getD 0 0=i:=rfl
     have e1:(B7 i oa.b++B7 j ob.b).getD 14 0=j:=by
      simp only [List.getD];rw [List.getElem?_append_right (by rw [B5];omega),B5];rfl
     rw [e0,e1]
    ·rw [l0];refine Ub (fun o ho=>?_) (by show 0+14*2≤28;omega);simp only [List.mem_cons,List.not_mem_nil,or_false] at ho;rcases ho with rfl | rfl
     ·exact tsP_ok
     ·exact tsR_ok
    ·unfold L4;rw [l0,lθ,Nat.sub_self,List.drop_of_length_le (by rw [l0];omega)];show vHp C.G H=lay _ _ _ _++[];rw [List.append_nil];exact same.symm
   ·cases ho
  ·cases ho
 ·cases ho
theorem pz_a (G:Nat→List AV) (okP1 okR1 eqx okS:List AV→Bool) (x:List AV) (k n i:Nat) (lw:Int) (Q:Ex→List AV→Hp→Prop) (R:AV→Hp→Prop):vT G Q R (J6 (Dc Try.prog [] [(18,doD okP1 okR1 eqx okS),(30,Kk okP1 okR1 eqx)] [] 0) 600 20 0 (loopN Try.f8 0) 62 [0,1,4,5,6,7] [.slice true (.ro (.var 2 k)) (.lit 0) (.var 3 n),.int .i64 (.var 7 lw),.bool (.lit false),.ptr (.rw 0) (.lit 0),.ptr (.rw 14) (.lit 0),.int .i64 (.ofN (.var 4 i))] (Ce 1 (.var 5 x)++Cd 15 (.var 5 x)))=(
  (decide ((((i:Nat):Int):Int)<((n:Nat):Int))=true→(decide ((((i:Nat):Int):Int)<200)=true→decide ((0:Int)≤((i:Nat):Int))=true∧decide ((((i:Nat):Int):Int)<((n:Nat):Int))=true∧Ea (G (k)) ((i)*4) [.int .i64,.int .i64,.int .i64,.int .i64]=true∧(okP1) (W9 (1) x)=true∧(okR1) (U5 (15) x)=true∧(eqx) [.agg x,.agg x]=true∧(okS) [.agg ([.int .i64 (A0 (G (k)) ((i)*4)),.int .i64 (A0 (G (k)) ((i)*4+1)),.int .i64 (A0 (G (k)) ((i)*4+2)),.int .i64 (A0 (G (k)) ((i)*4+3))]:List AV)]=true∧(((Int.tmod (((i:Nat):Int)) (5):Int)==0)=true→(okP1) (W9 (29) ((Cq) [.agg x,.agg ([.int .i64 (A0 (G (k)) ((i)*4)),.int .i64 (A0 (G (k)) ((i)*4+1)),.int .i64 (A0 (G (k)) ((i)*4+2)),.int .i64 (A0 (G (k)) ((i)*4+3))]:List AV)]))=true∧(okR1) (U5 (43) ((Cq) [.agg x,.agg ([.int .i64 (A0 (G (k)) ((i)*4)),.int .i64 (A0 (G (k)) ((i)*4+1)),.int .i64 (A0 (G (k)) ((i)*4+2)),.int .i64 (A0 (G (k)) ((i)*4+3))]:List AV)]))=true∧(eqx) [.agg ((Cq) [.agg x,.agg ([.int .i64 (A0 (G (k)) ((i)*4)),.int .i64 (A0 (G (k)) ((i)*4+1)),.int .i64 (A0 (G (k)) ((i)*4+2)),.int .i64 (A0 (G (k)) ((i)*4+3))]:List AV)]),.agg ((Cq) [.agg x,.agg ([.int .i64 (A0 (G (k)) ((i)*4)),.int .i64 (A0 (G (k)) ((i)*4+1)),.int .i64 (A0 (G (k)) ((i)*4+2)),.int .i64 (A0 (G (k)) ((i)*4+3))]:List AV)])]=true∧
 Q .normal [.slice true (.ro (k)) (0) (n),.int .i64 (lw),.bool (false),.ptr (.rw 28) (0),.ptr (.rw 42) (0),.int .i64 (IntKind.wrap .i64 (((i:Nat):Int)+1))] ([none,none,none,none,none,none,none,none,none,none,none,none,none,none,none,none,none,none,none,none,none,none,none,none,none,none,none,none]++(D2 (29) ((Cq) [.agg x,.agg ([.int .i64 (A0 (G (k)) ((i)*4)),.int .i64 (A0 (G (k)) ((i)*4+1)),.int .i64 (A0 (G (k)) ((i)*4+2)),.int .i64 (A0 (G (k)) ((i)*4+3))]:List AV)])++D1 (43) ((Cq) [.agg x,.agg ([.int .i64 (A0 (G (k)) ((i)*4)),.int .i64 (A0 (G (k)) ((i)*4+1)),.int .i64 (A0 (G (k)) ((i)*4+2)),.int .i64 (A0 (G (k)) ((i)*4+3))]:List AV)]))))∧(((Int.tmod (((i:Nat):Int)) (5):Int)==0)=false→Q .normal [.slice true (.ro (k)) (0) (n),.int .i64 (lw),.bool (false),.ptr (.rw 28) (0),.ptr (.rw 42) (0),.int .i64 (IntKind.wrap .i64 (((i:Nat):Int)+1))] ([none,none,none,none,none,none,none,none,none,none,none,none,none,none,none,none,none,none,none,none,none,none,none,none,none,none,none,none]++(D2 (29) ((Cq) [.agg x,.agg ([.int .i64 (A0 (G (k)) ((i)*4)),.int .i64 (A0 (G (k)) ((i)*4+1)),.int .i64 (A0 (G (k)) ((i)*4+2)),.int .i64 (A0 (G (k)) ((i)*4+3))]:List AV)])++D1 (43) ((Cq) [.agg x,.agg ([.int .i64 (A0 (G (k)) ((i)*4)),.int .i64 (A0 (G (k)) ((i)*4+1)),.int .i64 (A0 (G (k)) ((i)*4+2)),.int .i64 (A0 (G (k)) ((i)*4+3))]:List AV)])))))∧(decide ((((i:Nat):Int):Int)<200)=false→Q (.exit 0) [.slice true (.ro (k)) (0) (n),.int .i64 (lw),.bool (false),.ptr (.rw 0) (0),.ptr (.rw 14) (0),.int .i64 (((i:Nat):Int))] (D2 (1) x++D1 (15) x)))∧(decide ((((i:Nat):Int):Int)<((n:Nat):Int))=false→
 Q (.exit 0) [.slice true (.ro (k)) (0) (n),.int .i64 (lw),.bool (false),.ptr (.rw 0) (0),.ptr (.rw 14) (0),.int .i64 (((i:Nat):Int))] (D2 (1) x++D1 (15) x))):=by kernel_rfl
theorem pz_c (G:Nat→List AV) (okP1 okR1 eqx ra:List AV→Bool) (x:List AV) (k n:Nat) (lw:Int) (Q:Ex→List AV→Hp→Prop) (R:AV→Hp→Prop):vT G Q R (dlaw (Dc Try.prog [] [(9,knownS),(10,fX 2101 tsP),(17,fX 2251 tsR),(30,Kk okP1 okR1 eqx)] [E5 2512 (ra) 0 62 [0,1,4,5,6,7] (.one (.exit 0) [.undef,.int .i64 (.var 7 lw),.bool (.lit false),.ptr (.rw 0) (.lit 0),.ptr (.rw 14) (.lit 0),.undef] (Ce 1 (.var 5 x)++Cd 15 (.var 5 x)))] 0) 900 20 Try.f8 [.slice true (.ro (.var 2 k)) (.lit 0) (.var 3 n),.int .i64 (.var 7 lw)] [])=(
  (okP1) (W9 (1) ((L8) []))=true∧(okR1) (U5 (15) ((L8) []))=true∧(eqx) [.agg ((L8) []),.agg ((L8) [])]=true∧
 (ra) [.agg ([.slice true (.ro (k)) (0) (n),.int .i64 (lw),.bool (false),.ptr (.rw 0) (0),.ptr (.rw 14) (0),.int .i64 (0)]:List AV),.agg ([.tup [.int .i64 (1),.agg ((I3 tsP) [.int .i64 (1),.agg ((L8) [])])],.tup [.int .i64 (1),.agg ((A7 tsP 0) [.agg ((L8) [])])],.tup [.int .i64 (1),.agg ((A7 tsP 1) [.agg ((L8) [])])],.tup [.int .i64 (1),.agg ((A7 tsP 2) [.agg ((L8) [])])],.tup [.int .i64 (1),.agg ((A7 tsP 3) [.agg ((L8) [])])],.tup [.int .i64 (1),.agg ((A7 tsP 4) [.agg ((L8) [])])],.tup [.int .i64 (1),.agg ((A7 tsP 5) [.agg ((L8) [])])],.tup [.int .i64 (1),.agg ((A7 tsP 6) [.agg ((L8) [])])],.tup [.int .i64 (1),.agg ((A7 tsP 7) [.agg ((L8) [])])],.tup [.int .i64 (1),.agg ((A7 tsP 8) [.agg ((L8) [])])],.tup [.int .i64 (1),.agg ((A7 tsP 9) [.agg ((L8) [])])],.tup [.int .i64 (1),.agg ((A7 tsP 10) [.agg ((L8) [])])],.tup [.int .i64 (1),.agg ((A7 tsP 11) [.agg ((L8) [])])],.tup [.int .i64 (1),.agg ((A7 tsP 12) [.agg ((L8) [])])],.tup [.int .i64 (1),.agg ((I3 tsR) [.int .i64 (15),.agg ((L8) [])])],.tup [.int .i64 (1),.agg ((A7 tsR 0) [.agg ((L8) [])])],.tup [.int .i64 (1),.agg ((A7 tsR 1) [.agg ((L8) [])])],.tup [.int .i64 (1),.agg ((A7 tsR 2) [.agg ((L8) [])])],.tup [.int .i64 (1),.agg ((A7 tsR 3) [.agg ((L8) [])])],.tup [.int .i64 (1),.agg ((A7 tsR 4) [.agg ((L8) [])])],.tup [.int .i64 (1),.agg ((A7 tsR 5) [.agg ((L8) [])])],.tup [.int .i64 (1),.agg ((A7 tsR 6) [.agg ((L8) [])])],.tup [.int .i64 (1),.agg ((A7 tsR 7) [.agg ((L8) [])])],.tup [.int .i64 (1),.agg ((A7 tsR 8) [.agg ((L8) [])])],.tup [.int .i64 (1),.agg ((A7 tsR 9) [.agg ((L8) [])])],.tup [.int .i64 (1),.agg ((A7 tsR 10) [.agg ((L8) [])])],.tup [.int .i64 (1),.agg ((A7 tsR 11) [.agg ((L8) [])])],.tup [.int .i64 (1),.agg ((A7 tsR 12) [.agg ((L8) [])])]]:List AV)]=true∧
 (okP1) (W9 (1) x)=true∧(okR1) (U5 (15) x)=true∧(eqx) [.agg x,.agg x]=true∧R (.bool (true)) []):=by kernel_rfl
end Go.Am
namespace Go.Am
open Go.Proofs Crc
set_option maxRecDepth 100000
set_option maxHeartbeats 1000000
theorem aE (G:Nat→List AV) (B:Nat):G0 (⟨Try.prog,G,B⟩:A3) 30 (Kk (F6 tsP) (F6 tsR) Nh):=sM (fun s hw lw=>aC1 G B hw lw)
theorem aP3 (G:Nat→List AV) (B:Nat) (k n:Nat) (lw:Int) (hk:aA (G k) n):AWp (⟨Try.prog,G,B⟩:A3) 0 (.loop (loopN Try.f8 0)) (fl 62 [0,1,4,5,6,7] [.slice true (.ro k) 0 n,.int .i64 lw,.bool false,.ptr (.rw 0) 0,.ptr (.rw 14) 0,.int .i64 0]) (J1 0 [(tsP,new0),(tsR,new0)]) (lv 62 [0,1,4,5,6,7] (LOut.post G 0 (.one (.exit 0) [.undef,.int .i64 (.var 7 lw),.bool (.lit false),.ptr (.rw 0) (.lit 0),.ptr (.rw 14) (.lit 0),.undef] (Ce 1 (.var 5 (encX (W7 (G k) (min n 200))))++Cd 15 (.var 5 (encX (W7 (G k) (min n 200)))))))):=by
 refine Ko (min n 200) (fun i=>[.slice true (.ro k) 0 n,.int .i64 lw,.bool false,.ptr (.rw 0) 0,.ptr (.rw 14) 0,.int .i64 (i:Int)]) (fun i=>J1 0 [(tsP,(W7 (G k) i)),(tsR,(W7 (G k) i))]) fun i hi=>?_;have hw:=Yk (G k) i;have hw1:=Yk (G k) (i+1);rw [←hObj2 hw.thin G]
 refine E2 (C:=(⟨Try.prog,G,B⟩:A3)) (K:=Dc Try.prog [] [(18,doD (F6 tsP) (F6 tsR) Nh Pe),(30,Kk (F6 tsP) (F6 tsR) Nh)] [] 0) (fuel:=600) (n0:=20) (m:=0) (c:=loopN Try.f8 0)
  (vs:=[.slice true (.ro (.var 2 k)) (.lit 0) (.var 3 n),.int .i64 (.var 7 lw),.bool (.lit false),.ptr (.rw 0) (.lit 0),.ptr (.rw 14) (.lit 0),.int .i64 (.ofN (.var 4 i))]) (H:=(Ce 1 (.var 5 (encX (W7 (G k) i)))++Cd 15 (.var 5 (encX (W7 (G k) i))))) (by
   rw [show loopsOf (loopN Try.f8 0)=[] by kernel_rfl]
   exact dgood (mix G B) (by kernel_rfl) (.cons (aT6 G B) (.cons (aE G B) .nil)) .nil) (Nat.zero_le _) ?_
 rw [pz_a]
 have out:¬(i<n∧i<200)→LOut.post G 0 (.one (.exit 0) [.undef,.int .i64 (.var 7 lw),.bool (.lit false),.ptr (.rw 0) (.lit 0),.ptr (.rw 14) (.lit 0),.undef] (Ce 1 (.var 5 (encX (W7 (G k) (min n 200))))++Cd 15 (.var 5 (encX (W7 (G k) (min n 200)))))) (.exit 0) [.slice true (.ro k) 0 n,.int .i64 lw,.bool false,.ptr (.rw 0) 0,.ptr (.rw 14) 0,.int .i64 (i:Int)] (D2 1 (encX (W7 (G k) i))++D1 15 (encX (W7 (G k) i))):=fun h=>by
  have e:i=min n 200:=by omega
  subst e;exact ⟨rfl,.inl ⟨by simp [wk,vVs,vV,vR,vN,vB,vI],rfl⟩⟩
 refine ⟨fun h1=>⟨fun h2=>?_,fun h2=>out fun h=>by have:=of_decide_eq_false h2;omega⟩,fun h1=>out fun h=>by have:=of_decide_eq_false h1;omega⟩;have h1':i<n:=by have:=of_decide_eq_true h1;omega
 have h2':i<200:=by have:=of_decide_eq_true h2;omega
 have eS:Cq [.agg (encX (W7 (G k) i)),.agg [.int .i64 (A0 (G k) (i*4)),.int .i64 (A0 (G k) (i*4+1)),.int .i64 (A0 (G k) (i*4+2)),.int .i64 (A0 (G k) (i*4+3))]]=encX (W7 (G k) (i+1)):=sL hw.thin;rw [eS]
 have nx:i<min n 200∧(([.slice true (.ro k) 0 n,.int .i64 lw,.bool false,.ptr (.rw 28) 0,.ptr (.rw 42) 0,.int .i64 (IntKind.wrap .i64 ((i:Int)+1))]:List AV)=[.slice true (.ro k) 0 n,.int .i64 lw,.bool false,.ptr (.rw 0) 0,.ptr (.rw 14) 0,.int .i64 ((i+1:Nat):Int)]∧(List.replicate 28 none++(D2 29 (encX (W7 (G k) (i+1)))++D1 43 (encX (W7 (G k) (i+1)))):Hp)=J1 0 [(tsP,(W7 (G k) (i+1))),(tsR,(W7 (G k) (i+1)))]∨C8 0 [.slice true (.ro k) 0 n,.int .i64 lw,.bool false,.ptr (.rw 0) 0,.ptr (.rw 14) 0,.int .i64 ((i+1:Nat):Int)] (J1 0 [(tsP,(W7 (G k) (i+1))),(tsR,(W7 (G k) (i+1)))]) [.slice true (.ro k) 0 n,.int .i64 lw,.bool false,.ptr (.rw 28) 0,.ptr (.rw 42) 0,.int .i64 (IntKind.wrap .i64 ((i:Int)+1))] (List.replicate 28 none++(D2 29 (encX (W7 (G k) (i+1)))++D1 43 (encX (W7 (G k) (i+1)))))):=by
  refine ⟨by omega,.inr ?_⟩;rw [D9 (by omega)];refine C8.objs (m:=0) (os:=[(tsP,(W7 (G k) (i+1))),(tsR,(W7 (G k) (i+1)))]) (pl:=[(28,29),(42,43)]) (Nat.zero_le _) ⟨tsP_ok,Tj.word rfl hw1.thin rfl (Qt ⟨rfl,rfl,rfl,rfl,rfl,rfl,rfl,rfl,rfl,rfl,rfl,rfl,rfl⟩),tsR_ok,Tj.word rfl hw1.thin rfl (Qt ⟨rfl,rfl,rfl,rfl,rfl,rfl,rfl,rfl,rfl,rfl,rfl,rfl,rfl⟩),trivial⟩ (by decide) rfl ?_;exact ⟨rfl,rfl,rfl,rfl,rfl,rfl,trivial⟩
 exact ⟨decide_eq_true (by omega),h1,leafs4 hk.ok h1',cZ hw 1,aZ hw 15,Uy _,vW hk h1',fun _=>⟨cZ hw1 29,aZ hw1 43,Uy _,nx⟩,fun _=>nx⟩
theorem sK (G:Nat→List AV) (B:Nat) (k n:Nat) (lw:Int) (hk:aA (G k) n):ACalls (⟨Try.prog,G,B⟩:A3) 8 [.slice true (.ro k) 0 n,.int .i64 lw] [] fun v _=>v=.bool true:=by
 have hl:=aP3 G B k n lw hk;have hw:=Yk (G k) (min n 200)
 have:=aT7 (C:=(⟨Try.prog,G,B⟩:A3)) (K:=Dc Try.prog [] [(9,knownS),(10,fX 2101 tsP),(17,fX 2251 tsR),(30,Kk (F6 tsP) (F6 tsR) Nh)] [E5 2512 (G5 [.slice true (.ro k) 0 n,.int .i64 lw,.bool false,.ptr (.rw 0) 0,.ptr (.rw 14) 0,.int .i64 0] (J1 0 [(tsP,new0),(tsR,new0)])) 0 62 [0,1,4,5,6,7] (.one (.exit 0) [.undef,.int .i64 (.var 7 lw),.bool (.lit false),.ptr (.rw 0) (.lit 0),.ptr (.rw 14) (.lit 0),.undef] (Ce 1 (.var 5 (encX (W7 (G k) (min n 200))))++Cd 15 (.var 5 (encX (W7 (G k) (min n 200))))))] 0) (fuel:=900) (n0:=20) (f:=8) (fn:=Try.f8) (args:=[.slice true (.ro (.var 2 k)) (.lit 0) (.var 3 n),.int .i64 (.var 7 lw)]) (H:=[]) (R:=fun v _=>v=.bool true) (by
   rw [show loopsOf (bodyOf Try.f8)=[loopN Try.f8 0] by kernel_rfl]
   exact dgood (mix G B) (by kernel_rfl) (.cons (xP G B) (.cons (qZ tsP_ok (p_new G B)) (.cons (qZ tsR_ok (r_new G B)) (.cons (aE G B) .nil)))) (.cons (i:=0) (by kernel_rfl) rfl (N5 rfl hl) .nil)) (by kernel_rfl) (by kernel_rfl) (by kernel_rfl) (by
  rw [pz_c]
  have e0:J1 0 [(tsP,new0),(tsR,new0)]=D2 1 (encX new0)++D1 15 (encX new0):=by
   rw [show D2 1 (encX new0)=_ from Ig Oj.thin 1,show D1 15 (encX new0)=_ from If Oj.thin 15];simp only [J1,List.append_nil]
  rw [e0];have hs:G5 [.slice true (.ro k) 0 n,.int .i64 lw,.bool false,.ptr (.rw 0) 0,.ptr (.rw 14) 0,.int .i64 0] (D2 1 (encX new0)++D1 15 (encX new0)) [.agg [.slice true (.ro k) 0 n,.int .i64 lw,.bool false,.ptr (.rw 0) 0,.ptr (.rw 14) 0,.int .i64 0],.agg (U9 (D2 1 (encX new0)++D1 15 (encX new0)))]=true:=F5
  exact ⟨cZ Oj 1,aZ Oj 15,Uy _,hs,cZ hw 1,aZ hw 15,Uy _,rfl⟩)
 exact this
end Go.Am
