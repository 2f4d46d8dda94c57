/-
  Processes: the document's Kill: the call's tree. Processes: the document's Kill: the call.
-/
import Derived.Test.YtkabjomhnddnoaaPart23
import Derived.Test.YtkabjomhnddnoaaPart21
import Derived.Test.YtkabjomhnddnoaaPart13
import Derived.Test.YtkabjomhnddnoaaBase10
import Derived.Test.YtkabjomhnddnoaaPart14
namespace Go.Am
open Go.Proofs Crc
set_option maxRecDepth 100000
theorem kk_c (G:Nat→List AV) (rd rl:List AV→Bool) (pu:List AV→List AV) (tb sl tk sk:List AV) (n to sg:Int) (k1 k2:Bool) (Q:Ex→List AV→Hp→Prop) (R:AV→Hp→Prop):vT G Q R (D0 (Df Try.prog [(75,1,13)] [67,60,70] [(71,Gb (Jh (rd) (pu)))] [E5 2374 (rl) 0 100 [0,1,2,3,10,11,12] (.one (.exit 0) [.undef,.undef,.undef,.undef,.bool (.var 6 k1),.bool (.var 7 k2),.undef] (hp3 [some ⟨1,.var 21 tk⟩] (.var 22 sk) []))] 14) 300 40 Try.f46 [.ptr (.rw 0) (.lit 0),.int .i64 (.var 3 n),.int .i64 (.var 4 to),.int .i64 (.var 5 sg)] (hp3 [some ⟨1,.var 1 tb⟩] (.var 2 sl) []) 14)=(
  (decide ((n:Int)≥1)=true→(decide ((n:Int)≤12)=true→decide ((0:Int)≤n)=true∧decide ((n:Int)<13)=true∧isI .i64 tb ((Int.toNat (n))*6)=true∧(((A0 tb ((Int.toNat (n))*6):Int)==n)=true→decide ((0:Int)≤n)=true∧decide ((n:Int)<13)=true∧isB tb ((Int.toNat (n))*6+4)=true∧(A5 tb ((Int.toNat (n))*6+4)=true→R (.int .i64 (6)) ([some ⟨1,tb⟩]++A2 sl))∧(A5 tb ((Int.toNat (n))*6+4)=false→(decide ((sg:Int)<0)=true→R (.int .i64 (2)) ([some ⟨1,tb⟩]++A2 sl))∧(decide ((sg:Int)<0)=false→(decide ((sg:Int)>15)=true→R (.int .i64 (2)) ([some ⟨1,tb⟩]++A2 sl))∧(decide ((sg:Int)>15)=false→(((to:Int)==0)=true→R (.int .i64 (2)) ([some ⟨1,tb⟩]++A2 sl))∧(((to:Int)==0)=false→(decide ((to:Int)>0)=true→(decide ((to:Int)>12)=true→R (.int .i64 (6)) ([some ⟨1,tb⟩]++A2 sl))∧(decide ((to:Int)>12)=false→decide ((0:Int)≤to)=true∧decide ((to:Int)<13)=true∧isI .i64 tb ((Int.toNat (to))*6)=true∧(((A0 tb ((Int.toNat (to))*6):Int)==0)=true→R (.int .i64 (6)) ([some ⟨1,tb⟩]++A2 sl))∧(((A0 tb ((Int.toNat (to))*6):Int)==0)=false→decide ((0:Int)≤n)=true∧decide ((n:Int)<13)=true∧isI .i64 tb ((Int.toNat (n))*6+3)=true∧(((A0 tb ((Int.toNat (n))*6+3):Int)==0)=true→decide ((0:Int)≤to)=true∧decide ((to:Int)<13)=true∧isB tb ((Int.toNat (to))*6+4)=true∧(A5 tb ((Int.toNat (to))*6+4)=true→R (.int .i64 (0)) ([some ⟨1,tb⟩]++A2 sl))∧(A5 tb ((Int.toNat (to))*6+4)=false→decide ((0:Int)≤to)=true∧decide ((to:Int)<13)=true∧(B4 tb (Int.toNat (to)+78)=true→False)∧(B4 tb (Int.toNat (to)+78)=false→J4 1 13 tb (Int.toNat (to)+78)=true∧Nat.beq (K4 tb (Int.toNat (to)+78)) (0)=true∧leB (A4 1 tb (Int.toNat (to)+78)+1) (13)=true∧rowsA sl (rp 13 sl)=true∧leB (A4 1 tb (Int.toNat (to)+78)+1) (List.length sl)=true∧(rd) [.agg (A1 sl (A4 1 tb (Int.toNat (to)+78)))]=true∧
 R (.int .i64 (0)) ([some ⟨1,tb⟩]++A2 (D5 sl (A4 1 tb (Int.toNat (to)+78)) (B1 [.agg (W6 [.agg ((pu) [.agg (A1 sl (A4 1 tb (Int.toNat (to)+78)))]),.int .i64 (sg)])]))))))∧(((A0 tb ((Int.toNat (n))*6+3):Int)==0)=false→decide ((0:Int)≤n)=true∧decide ((n:Int)<13)=true∧isI .i64 tb ((Int.toNat (n))*6+3)=true∧decide ((0:Int)≤to)=true∧decide ((to:Int)<13)=true∧isI .i64 tb ((Int.toNat (to))*6+3)=true∧(((A0 tb ((Int.toNat (n))*6+3):Int)==A0 tb ((Int.toNat (to))*6+3))=true→decide ((0:Int)≤to)=true∧decide ((to:Int)<13)=true∧isB tb ((Int.toNat (to))*6+4)=true∧(A5 tb ((Int.toNat (to))*6+4)=true→R (.int .i64 (0)) ([some ⟨1,tb⟩]++A2 sl))∧(A5 tb ((Int.toNat (to))*6+4)=false→decide ((0:Int)≤to)=true∧decide ((to:Int)<13)=true∧(B4 tb (Int.toNat (to)+78)=true→False)∧(B4 tb (Int.toNat (to)+78)=false→J4 1 13 tb (Int.toNat (to)+78)=true∧Nat.beq (K4 tb (Int.toNat (to)+78)) (0)=true∧leB (A4 1 tb (Int.toNat (to)+78)+1) (13)=true∧rowsA sl (rp 13 sl)=true∧leB (A4 1 tb (Int.toNat (to)+78)+1) (List.length sl)=true∧(rd) [.agg (A1 sl (A4 1 tb (Int.toNat (to)+78)))]=true∧R (.int .i64 (0)) ([some ⟨1,tb⟩]++A2 (D5 sl (A4 1 tb (Int.toNat (to)+78)) (B1 [.agg (W6 [.agg ((pu) [.agg (A1 sl (A4 1 tb (Int.toNat (to)+78)))]),.int .i64 (sg)])]))))))∧(((A0 tb ((Int.toNat (n))*6+3):Int)==A0 tb ((Int.toNat (to))*6+3))=false→R (.int .i64 (8)) ([some ⟨1,tb⟩]++A2 sl))))))∧(decide ((to:Int)>0)=false→(rl) [.agg ([.ptr (.rw 0) (0),.int .i64 (n),.int .i64 (to),.int .i64 (sg),.bool (false),.bool (false),.int .i64 (1)]:List AV),.agg ((Ez [.tup [.int .i64 (1),.agg tb]] sl []):List AV)]=true∧(k1=true→(k2=true→R (.int .i64 (0)) ([some ⟨1,tk⟩]++A2 sk))∧(k2=false→R (.int .i64 (8)) ([some ⟨1,tk⟩]++A2 sk)))∧(k1=false→
 R (.int .i64 (6)) ([some ⟨1,tk⟩]++A2 sk))))))))∧(((A0 tb ((Int.toNat (n))*6):Int)==n)=false→R (.int .i64 (6)) ([some ⟨1,tb⟩]++A2 sl)))∧(decide ((n:Int)≤12)=false→R (.int .i64 (6)) ([some ⟨1,tb⟩]++A2 sl)))∧(decide ((n:Int)≥1)=false→R (.int .i64 (6)) ([some ⟨1,tb⟩]++A2 sl))):=by kernel_rfl
end Go.Am
namespace Go.Am
open Go.Proofs Crc
set_option maxRecDepth 100000
theorem kR_0 {s:Ptb} (hw:Wf s) (to sg me:Int):kR s to sg me (0+1)=(s,false,false):=by
 show (if 0<(s.at_ 0).num then _ else _)=_;rw [if_neg]
 ·rfl
 ·rw [(hw.z 0 (.inl rfl)).1];show ¬(0:Int)<0;omega
theorem aE0 (G:Nat→List AV) (B:Nat) {s:Ptb} (hw:Wf s) {n:Int} (hl:live s n=true) {to sg:Int} (hto:to<0) (hmin:-9223372036854775808≤to) :
  AWp (⟨Try.prog,G,B⟩:A3) 14 (.loop (loopN Try.f46 0)) (fl 100 [0,1,2,3,10,11,12] [.ptr (.rw 0) 0,.int .i64 n,.int .i64 to,.int .i64 sg,.bool false,.bool false,.int .i64 1]) (vHp G (hp3 [some ⟨1,.var 1 (B2 1 s)⟩] (.var 2 (setsL encR s)) [])) (lv 100 [0,1,2,3,10,11,12] (LOut.post G 14 (.one (.exit 0) [.undef,.undef,.undef,.undef,.bool (.var 6 (kR s to sg (s.at_ n.toNat).usr 13).2.2),.bool (.var 7 (kR s to sg (s.at_ n.toNat).usr 13).2.1),.undef] (hp3 [some ⟨1,.var 21 (B2 1 (kR s to sg (s.at_ n.toNat).usr 13).1)⟩] (.var 22 (setsL encR (kR s to sg (s.at_ n.toNat).usr 13).1)) [])))):=by
 have h:=aR6 G B hw hl (sg:=sg) hto hmin;rw [kR_0 hw] at h;rw [hU];refine h.lmono ?_;rintro e vs H ⟨rfl,h1,rfl⟩;exact ⟨rfl,.inl ⟨h1,(hU G (kR s to sg (s.at_ n.toNat).usr 13).1).symm⟩⟩
theorem Sq {x:Pc} {me:Int}:X7 x me=true↔me=0∨me=x.usr:=by
 unfold X7;simp
theorem qN (G:Nat→List AV) (B:Nat) {s:Ptb} (hw:Wf s) (n to sg:Int) (q:List AV→Bool) (hd:I9 (⟨Try.prog,G,B⟩:A3) (Df Try.prog [(75,1,13)] [67,60,70] [(71,Gb W2)] [E5 2374 q 0 100 [0,1,2,3,10,11,12] (.one (.exit 0) [.undef,.undef,.undef,.undef,.bool (.var 6 (kR s to sg (s.at_ n.toNat).usr 13).2.2),.bool (.var 7 (kR s to sg (s.at_ n.toNat).usr 13).2.1),.undef] (hp3 [some ⟨1,.var 21 (B2 1 (kR s to sg (s.at_ n.toNat).usr 13).1)⟩] (.var 22 (setsL encR (kR s to sg (s.at_ n.toNat).usr 13).1)) []))] 14) (loopsOf (bodyOf Try.f46))) (hq:live s n=true→to<0→q [.agg [.ptr (.rw 0) 0,.int .i64 n,.int .i64 to,.int .i64 sg,.bool false,.bool false,.int .i64 1],.agg (U9 (vHp G (hp3 [some ⟨1,.var 1 (B2 1 s)⟩] (.var 2 (setsL encR s)) [])))]=true):ACalls (⟨Try.prog,G,B⟩:A3) 46 [.ptr (.rw 0) 0,.int .i64 n,.int .i64 to,.int .i64 sg] (B0 tsR s) fun v H'=>v=.int .i64 (R0 s n to sg)∧H'=B0 tsR (L5 s n to sg):=by
 have h:=D3 (C:=(⟨Try.prog,G,B⟩:A3)) (K:=Df Try.prog [(75,1,13)] [67,60,70] [(71,Gb W2)] [E5 2374 q 0 100 [0,1,2,3,10,11,12] (.one (.exit 0) [.undef,.undef,.undef,.undef,.bool (.var 6 (kR s to sg (s.at_ n.toNat).usr 13).2.2),.bool (.var 7 (kR s to sg (s.at_ n.toNat).usr 13).2.1),.undef] (hp3 [some ⟨1,.var 21 (B2 1 (kR s to sg (s.at_ n.toNat).usr 13).1)⟩] (.var 22 (setsL encR (kR s to sg (s.at_ n.toNat).usr 13).1)) []))] 14) (fuel:=300) (n0:=40) (f:=46) (fn:=Try.f46) (args:=[.ptr (.rw 0) (.lit 0),.int .i64 (.var 3 n),.int .i64 (.var 4 to),.int .i64 (.var 5 sg)]) (H:=(hp3 [some ⟨1,.var 1 (B2 1 s)⟩] (.var 2 (setsL encR s)) [])) (keep:=14)
  (R:=fun v H=>v=.int .i64 (R0 s n to sg)∧H7 tsR (L5 s n to sg) 13 H) hd (by kernel_rfl) (by kernel_rfl) (by kernel_rfl) (by
  unfold W2;rw [kk_c];refine Z2 1 (fun hl=>?_) fun hl=>?_
  ·have hlv:=H6.1 hl
   have bad:Ck to sg=true→(AV.int .i64 2=.int .i64 (R0 s n to sg)∧H7 tsR (L5 s n to sg) 13 (some ⟨1,B2 1 s⟩::(List.range 13).map fun n=>some ⟨1,A1 (setsL encR s) n⟩)):=fun hg=>by
    unfold R0 L5;rw [if_pos hl,if_pos hl,if_pos hg,if_pos hg];exact ⟨rfl,D4⟩
   refine ⟨fun h1=>bad ?_,fun h1=>⟨fun h2=>bad ?_,fun h2=>⟨fun h3=>bad ?_,fun h3=>?_⟩⟩⟩
   ·unfold Ck;rw [h1];rfl
   ·unfold Ck;rw [h2];simp
   ·unfold Ck;rw [h3];simp
   have hg:¬Ck to sg=true:=by unfold Ck;rw [h1,h2,h3];simp
   have t0:to≠0:=fun e=>by rw [e] at h3;cases h3
   have eE:R0 s n to sg=if (kR s to sg (s.at_ n.toNat).usr 13).2.2=true then (if (kR s to sg (s.at_ n.toNat).usr 13).2.1=true then 0 else 8) else 6:=by
    unfold R0 Qy;rw [if_pos hl,if_neg hg]
   have eX:L5 s n to sg=(kR s to sg (s.at_ n.toNat).usr 13).1:=by
    unfold L5 Qy;rw [if_pos hl,if_neg hg]
   have tm:=Zy (b:=1) (s:=s) (n:=n.toNat) (by omega);have dn0:decide ((0:Int)≤n)=true:=decide_eq_true (by omega);have dn13:decide (n<13)=true:=decide_eq_true (by omega);refine ⟨fun h4=>?_,fun h4=>?_⟩
   ·have h4:=of_decide_eq_true h4;have one:=kR_one hw (sg:=sg) (me:=(s.at_ n.toNat).usr) (show 0<to by omega)
    have none:¬(to≤12∧(s.at_ to.toNat).num≠0)→(AV.int .i64 6=.int .i64 (R0 s n to sg)∧H7 tsR (L5 s n to sg) 13 (some ⟨1,B2 1 s⟩::(List.range 13).map fun n=>some ⟨1,A1 (setsL encR s) n⟩)):=fun hh=>by
     rw [eE,eX,one,if_neg hh];exact ⟨rfl,D4⟩
    refine ⟨fun h5=>none ?_,fun h5=>?_⟩
    ·have:=of_decide_eq_true h5;omega
    have h5:=of_decide_eq_false h5;have t1:to≤12:=by omega
    have d0:decide ((0:Int)≤to)=true:=decide_eq_true (by omega);have d13:decide (to<13)=true:=decide_eq_true (by omega);have tn:=Vm (b:=1) (s:=s) (n:=to.toNat) (by omega);have te:=pC (b:=1) (s:=s) (n:=to.toNat) (by omega);have tu:=Zy (b:=1) (s:=s) (n:=to.toNat) (by omega);rw [tn.2,te.2,tu.2,tm.2];refine ⟨d0,d13,tn.1,fun h6=>none ?_,fun h6=>?_⟩
    ·have:=eq_of_beq h6;omega
    have h6:(s.at_ to.toNat).num≠0:=beq_eq_false_iff_ne.1 h6;rw [if_pos ⟨t1,h6⟩] at one;obtain ⟨p,hp⟩:=(hw.there h6).2.2.2;obtain ⟨f1,f2,f3,f4,f5⟩:=Gt (by omega) hp;have ed:C1 s to.toNat=p:=by unfold C1;rw [hp];rfl
    have yes:X7 (s.at_ to.toNat) (s.at_ n.toNat).usr=true→((s.at_ to.toNat).en=true→(AV.int .i64 0=.int .i64 (R0 s n to sg)∧H7 tsR (L5 s n to sg) 13 (some ⟨1,B2 1 s⟩::(List.range 13).map fun n=>some ⟨1,A1 (setsL encR s) n⟩)))∧
      ((s.at_ to.toNat).en=false→∀ l,l=encR (U1 p sg)→(AV.int .i64 0=.int .i64 (R0 s n to sg)∧H7 tsR (L5 s n to sg) 13 (some ⟨1,B2 1 s⟩::(List.range 13).map fun j=>some ⟨1,A1 (D5 (setsL encR s) to.toNat l) j⟩))):=fun hm=>by
     rw [eE,eX,one,if_pos hm];refine ⟨fun he=>?_,fun he l hl'=>?_⟩
     ·rw [if_pos he];exact ⟨rfl,D4⟩
     ·rw [if_neg (show ¬(s.at_ to.toNat).en=true by rw [he];simp),ed];exact ⟨rfl,Nn hp hl'⟩
    have send:∀ (hm:X7 (s.at_ to.toNat) (s.at_ n.toNat).usr=true),_:=fun hm=>(yes hm).2
    refine ⟨dn0,dn13,tm.1,fun h7=>⟨d0,d13,te.1,(yes (Sq.2 (.inl (eq_of_beq h7)))).1,fun h8=>⟨d0,d13,(fun h=>by rw [f1] at h;cases h),fun _=>(by
      rw [f3,f4,f5,Ai];refine ⟨f2,rfl,A6.2 (by omega),D6 _ 13,A6.2 (by rw [F8];omega),Cc p,?_⟩
      exact (yes (Sq.2 (.inl (eq_of_beq h7)))).2 h8 _ (by rw [De,E3]))⟩⟩,
     fun h7=>⟨dn0,dn13,tm.1,d0,d13,tu.1,fun h9=>⟨d0,d13,te.1,(yes (Sq.2 (.inr (eq_of_beq h9)))).1,fun h8=>⟨d0,d13,(fun h=>by rw [f1] at h;cases h),fun _=>(by
      rw [f3,f4,f5,Ai];refine ⟨f2,rfl,A6.2 (by omega),D6 _ 13,A6.2 (by rw [F8];omega),Cc p,?_⟩
      exact (yes (Sq.2 (.inr (eq_of_beq h9)))).2 h8 _ (by rw [De,E3]))⟩⟩,fun h9=>?_⟩⟩
    have hm:¬X7 (s.at_ to.toNat) (s.at_ n.toNat).usr=true:=fun h=>by
     rcases Sq.1 h with h | h
     ·rw [h] at h7;cases h7
     ·rw [h,beq_self_eq_true] at h9;cases h9
    rw [eE,eX,one,if_neg hm];exact ⟨rfl,D4⟩
   ·have h4:=of_decide_eq_false h4;refine ⟨hq hl (by omega),fun k1=>⟨fun k2=>?_,fun k2=>?_⟩,fun k1=>?_⟩
    ·rw [eE,eX,if_pos k1,if_pos k2];exact ⟨rfl,D4⟩
    ·rw [eE,eX,if_pos k1,if_neg (by rw [k2];simp)];exact ⟨rfl,D4⟩
    ·rw [eE,eX,if_neg (by rw [k1];simp)];exact ⟨rfl,D4⟩
  ·unfold R0 L5
   rw [hl];exact ⟨rfl,D4⟩)
 rw [hU] at h;exact Og tsR_ok h rfl
theorem r_kill (G:Nat→List AV) (B:Nat) {s:Ptb} (hw:Wf s) (n to sg:Int) (hmin:-9223372036854775808≤to):ACalls (⟨Try.prog,G,B⟩:A3) 46 [.ptr (.rw 0) 0,.int .i64 n,.int .i64 to,.int .i64 sg] (B0 tsR s) fun v H'=>v=.int .i64 (R0 s n to sg)∧H'=B0 tsR (L5 s n to sg):=by
 have base:∀ (q:List AV→Bool) (hl:O9 (⟨Try.prog,G,B⟩:A3) 14 (loopN Try.f46 0) (E5 2374 q 0 100 [0,1,2,3,10,11,12] (.one (.exit 0) [.undef,.undef,.undef,.undef,.bool (.var 6 (kR s to sg (s.at_ n.toNat).usr 13).2.2),.bool (.var 7 (kR s to sg (s.at_ n.toNat).usr 13).2.1),.undef] (hp3 [some ⟨1,.var 21 (B2 1 (kR s to sg (s.at_ n.toNat).usr 13).1)⟩] (.var 22 (setsL encR (kR s to sg (s.at_ n.toNat).usr 13).1)) [])))),I9 (⟨Try.prog,G,B⟩:A3) (Df Try.prog [(75,1,13)] [67,60,70] [(71,Gb W2)] [E5 2374 q 0 100 [0,1,2,3,10,11,12] (.one (.exit 0) [.undef,.undef,.undef,.undef,.bool (.var 6 (kR s to sg (s.at_ n.toNat).usr 13).2.2),.bool (.var 7 (kR s to sg (s.at_ n.toNat).usr 13).2.1),.undef] (hp3 [some ⟨1,.var 21 (B2 1 (kR s to sg (s.at_ n.toNat).usr 13).1)⟩] (.var 22 (setsL encR (kR s to sg (s.at_ n.toNat).usr 13).1)) []))] 14) (loopsOf (bodyOf Try.f46)):=fun q hl=>
  dgoodf (mix G B) (by kernel_rfl) (.cons (Rb (Fc G) (qM G B)) .nil) (.cast (.cons (i:=0) (by kernel_rfl) rfl hl .nil) (by kernel_rfl))
 by_cases hc:live s n=true∧to<0
 ·exact qN G B hw n to sg (G5 [.ptr (.rw 0) 0,.int .i64 n,.int .i64 to,.int .i64 sg,.bool false,.bool false,.int .i64 1] (vHp G (hp3 [some ⟨1,.var 1 (B2 1 s)⟩] (.var 2 (setsL encR s)) []))) (base _ (N5 rfl (aE0 G B hw hc.1 hc.2 hmin))) fun _ _=>F5
 ·exact qN G B hw n to sg (fun _=>false) (base _ (aB (cb:=false) (vs0:=[.ptr (.rw 0) 0,.int .i64 n,.int .i64 to,.int .i64 sg,.bool false,.bool false,.int .i64 1]) (H0:=[]) rfl fun h=>by cases h)) fun h1 h2=>absurd ⟨h1,h2⟩ hc
end Go.Am
namespace Go.Am
open Go.Proofs Crc
set_option maxRecDepth 100000
theorem ku_b (G:Nat→List AV) (tb sl ys:List AV) (n:Int) (c i:Nat) (Q:Ex→List AV→Hp→Prop) (R:AV→Hp→Prop):vT G Q R (J6 (Dc Try.prog [] [] [] 0) 300 40 14 (loopN Try.f61 0) 44 [0,1,4,5,6] [.ptr (.rw 0) (.lit 0),.int .i64 (.var 3 n),.nils,.slice true (.rw 14) (.lit 0) (.var 6 c),.int .i64 (.ofN (.var 8 i))] (hp3 [some ⟨1,.var 1 tb⟩] (.var 2 sl) [some ⟨1,.var 22 ys⟩]))=(
  (decide ((((i:Nat):Int):Int)≤12)=true→(decide ((n:Int)≥1)=true→decide ((0:Int)≤((i:Nat):Int))=true∧decide ((((i:Nat):Int):Int)<13)=true∧isI .i64 tb ((i)*6)=true∧(((A0 tb ((i)*6):Int)==((i:Nat):Int))=true→decide ((0:Int)≤((i:Nat):Int))=true∧decide ((((i:Nat):Int):Int)<13)=true∧isI .i64 tb ((i)*6+1)=true∧(((A0 tb ((i)*6+1):Int)==n)=true→leB ((c+1)*8) (140737488355328)=true∧Nat.beq (List.length ys) (c)=true∧Q .normal [.ptr (.rw 0) (0),.int .i64 (n),.nils,.slice true (.rw 16) (0) (c+1),.int .i64 (IntKind.wrap .i64 (((i:Nat):Int)+1))] ([some ⟨1,tb⟩]++(A2 sl++([none,some ⟨1,([.int .i64 (((i:Nat):Int))]:List AV)⟩,some ⟨1,(ys++([.int .i64 (((i:Nat):Int))]:List AV))⟩]))))∧(((A0 tb ((i)*6+1):Int)==n)=false→Q .normal [.ptr (.rw 0) (0),.int .i64 (n),.nils,.slice true (.rw 14) (0) (c),.int .i64 (IntKind.wrap .i64 (((i:Nat):Int)+1))] ([some ⟨1,tb⟩]++(A2 sl++[some ⟨1,ys⟩]))))∧(((A0 tb ((i)*6):Int)==((i:Nat):Int))=false→Q .normal [.ptr (.rw 0) (0),.int .i64 (n),.nils,.slice true (.rw 14) (0) (c),.int .i64 (IntKind.wrap .i64 (((i:Nat):Int)+1))] ([some ⟨1,tb⟩]++(A2 sl++[some ⟨1,ys⟩]))))∧(decide ((n:Int)≥1)=false→Q (.exit 0) [.ptr (.rw 0) (0),.int .i64 (n),.nils,.slice true (.rw 14) (0) (c),.int .i64 (((i:Nat):Int))] ([some ⟨1,tb⟩]++(A2 sl++[some ⟨1,ys⟩]))))∧(decide ((((i:Nat):Int):Int)≤12)=false→Q (.exit 0) [.ptr (.rw 0) (0),.int .i64 (n),.nils,.slice true (.rw 14) (0) (c),.int .i64 (((i:Nat):Int))] ([some ⟨1,tb⟩]++(A2 sl++[some ⟨1,ys⟩])))):=by kernel_rfl
theorem ku_c (G:Nat→List AV) (rl:List AV→Bool) (tb sl ys:List AV) (n:Int) (c:Nat) (Q:Ex→List AV→Hp→Prop) (R:AV→Hp→Prop):vT G Q R (D0 (Dc Try.prog [] [] [E5 2371 (rl) 0 44 [0,1,4,5,6] (.one (.exit 0) [.undef,.undef,.undef,.slice true (.rw 14) (.lit 0) (.var 6 c),.undef] (hp3 [some ⟨1,.var 1 tb⟩] (.var 2 sl) [some ⟨1,.var 22 ys⟩]))] 14) 300 40 Try.f61 [.ptr (.rw 0) (.lit 0),.int .i64 (.var 3 n)] (hp3 [some ⟨1,.var 1 tb⟩] (.var 2 sl) []) 15)=(
  (rl) [.agg ([.ptr (.rw 0) (0),.int .i64 (n),.nils,.nils,.int .i64 (1)]:List AV),.agg ((Ez [.tup [.int .i64 (1),.agg tb]] sl []):List AV)]=true∧R (.slice true (.rw 14) (0) (c)) ([some ⟨1,tb⟩]++(A2 sl++[some ⟨1,ys⟩]))):=by kernel_rfl
end Go.Am
namespace Go.Am
open Go.Proofs Crc
set_option maxRecDepth 100000
theorem hUL (G:Nat→List AV) (s:Ptb) (ys:List AV):vHp G (hp3 [some ⟨1,.var 1 (B2 1 s)⟩] (.var 2 (setsL encR s)) [some ⟨1,.var 22 ys⟩])=B0 tsR s++[some ⟨1,ys⟩]:=by
 rw [←V3 (t:=tsR) (s:=s)];rfl
def Dl (s:Ptb) (n:Int) (i:Nat):Hp:=B0 tsR s++[some ⟨1,nl (kidT s n i)⟩]
theorem aE4 {s:Ptb} {n:Int} {i:Nat}:(Dl s n i).length=15:=by simp [Dl,A9]
theorem hpKu_bnd {s:Ptb} {n:Int} {i m:Nat} (h:14≤m):D7 m (Dl s n i)=true:=by
 unfold Dl;exact hpB_app (N3 tsR_ok (s:=s) (b:=1) (by omega)) (by simp only [D7,bm (L3 0 _),Bool.and_self])
theorem ku_app {s:Ptb} {n:Int} {i:Nat} {m:Int} {ks:List Nat} (b:Option Blk) (hk:kidT s n i=ks):C8 14 [.ptr (.rw 0) 0,.int .i64 n,.nils,.slice true (.rw 14) 0 ks.length,.int .i64 m] (Dl s n i) [.ptr (.rw 0) 0,.int .i64 n,.nils,.slice true (.rw 16) 0 ks.length,.int .i64 m] (B0 tsR s++[none,b,some ⟨1,nl ks⟩]):=by
 subst hk;refine C8.fn (N:=15) (fun j=>if j=14 then 16 else j) aE4 (by omega) (fun j hj=>if_neg (by omega)) (fun i j hi hj h=>?_) (fun j hj=>?_) rfl ?_
 ·by_cases a:i=14
  ·by_cases b:j=14
   ·omega
   ·rw [if_pos a,if_neg b] at h;omega
  ·by_cases b:j=14
   ·rw [if_neg a,if_pos b] at h;omega
   ·rw [if_neg a,if_neg b] at h;exact h
 ·have th:∀ j,j<15→((List.range 15).map fun j=>if j=14 then 16 else j).getD j 0=if j=14 then 16 else j:=fun j hj=>Cp hj
  by_cases h14:j=14
  ·subst h14;rw [if_pos rfl];unfold Dl;rw [List.getElem?_append_right (by rw [A9];omega),A9,List.getElem?_append_right (by rw [A9];omega),A9];refine ⟨_,_,rfl,rfl,rfl,bm (L3 0 _),.inr ?_⟩;exact (E0 _ _ (L3 0 _)).symm
  ·rw [if_neg h14];unfold Dl;rw [List.getElem?_append_left (by rw [A9];omega),List.getElem?_append_left (by rw [A9];omega)];cases j with
   | zero=>
    refine ⟨_,_,rfl,rfl,rfl,tsR_ok.bnd 15 (B3 1 s) s fun n hn=>Bx (by omega),.inr ?_⟩;exact (X4 tsR_ok (b:=1) (b':=1) fun n hn=>by rw [th _ (by omega),if_neg (by omega)]).symm
   | succ k=>
    have hg:(B0 tsR s)[k+1]?=some (some ⟨1,I4 encR (s.sg k)⟩):=Do (t:=tsR) (p:=B3 1 s) (s:=s) (s':=s) (by omega);exact ⟨_,_,hg,hg,rfl,Au tsR_ok _ _,.inr (Y8 tsR_ok _ _).symm⟩
 ·simp only [rens,ren];rw [show ((List.range 15).map fun j=>if j=14 then 16 else j).getD 0 0=0 from rfl,show ((List.range 15).map fun j=>if j=14 then 16 else j).getD 14 0=16 from rfl];simp [wk]
end Go.Am
namespace Go.Am
open Go.Proofs Crc
set_option maxRecDepth 100000
theorem aR5 (G:Nat→List AV) (B:Nat) {s:Ptb} (hw:Wf s) (n:Int) :
  AWp (⟨Try.prog,G,B⟩:A3) 14 (.loop (loopN Try.f61 0)) (fl 44 [0,1,4,5,6] [.ptr (.rw 0) 0,.int .i64 n,.nils,.slice true (.rw 14) 0 (kidT s n 1).length,.int .i64 ((0+1:Nat):Int)]) (Dl s n (0+1)) (lv 44 [0,1,4,5,6] fun e vs H=>e=.exit 0∧wk [.undef,.undef,.undef,.slice true (.rw 14) 0 (kidT s n 13).length,.undef] vs∧H=Dl s n 13):=by
 refine Ko 12 (fun r=>[.ptr (.rw 0) 0,.int .i64 n,.nils,.slice true (.rw 14) 0 (kidT s n (r+1)).length,.int .i64 ((r+1:Nat):Int)]) (fun r=>Dl s n (r+1)) fun r hr=>?_;have eH:Dl s n (r+1)=vHp G (hp3 [some ⟨1,.var 1 (B2 1 s)⟩] (.var 2 (setsL encR s)) [some ⟨1,.var 22 (nl (kidT s n (r+1)))⟩]):=by rw [hUL];rfl
 rw [eH]
 refine E2 (C:=(⟨Try.prog,G,B⟩:A3)) (K:=Dc Try.prog [] [] [] 0) (by rw [show loopsOf (loopN Try.f61 0)=[] by kernel_rfl];exact dgood (mix G B) (by kernel_rfl) .nil .nil) (fuel:=300) (n0:=40) (m:=14) (c:=loopN Try.f61 0)
  (vs:=[.ptr (.rw 0) (.lit 0),.int .i64 (.var 3 n),.nils,.slice true (.rw 14) (.lit 0) (.var 6 (kidT s n (r+1)).length),.int .i64 (.ofN (.var 8 (r+1)))]) (H:=(hp3 [some ⟨1,.var 1 (B2 1 s)⟩] (.var 2 (setsL encR s)) [some ⟨1,.var 22 (nl (kidT s n (r+1)))⟩])) (Nat.le_of_ble_eq_true rfl) ?_
 rw [ku_b];have hle:=Fu s n (r+1);have nx:∀ v:Int,r+1≤12→v=IntKind.wrap .i64 (((r+1:Nat):Int)+1)→v=((r+1+1:Nat):Int):=fun v h e=>by rw [e,D9 (by omega)];omega
 have same:∀ (H:Hp),r+1≤12→S5 s n (r+1)=false→H=vHp G (hp3 [some ⟨1,.var 1 (B2 1 s)⟩] (.var 2 (setsL encR s)) [some ⟨1,.var 22 (nl (kidT s n (r+1)))⟩])→(r<12∧((([.ptr (.rw 0) 0,.int .i64 n,.nils,.slice true (.rw 14) 0 (kidT s n (r+1)).length,.int .i64 (IntKind.wrap .i64 (((r+1:Nat):Int)+1))]:List AV)=[.ptr (.rw 0) 0,.int .i64 n,.nils,.slice true (.rw 14) 0 (kidT s n (r+1+1)).length,.int .i64 ((r+1+1:Nat):Int)]∧H=Dl s n (r+1+1))∨C8 14 [.ptr (.rw 0) 0,.int .i64 n,.nils,.slice true (.rw 14) 0 (kidT s n (r+1+1)).length,.int .i64 ((r+1+1:Nat):Int)] (Dl s n (r+1+1)) [.ptr (.rw 0) 0,.int .i64 n,.nils,.slice true (.rw 14) 0 (kidT s n (r+1)).length,.int .i64 (IntKind.wrap .i64 (((r+1:Nat):Int)+1))] H)):=fun H h hb e=>by
  have ek:kidT s n (r+1+1)=kidT s n (r+1):=by rw [kidT_succ,hb];simp
  refine ⟨by omega,.inl ⟨?_,?_⟩⟩
  ·rw [ek,nx _ h rfl]
  ·rw [e,←eH];unfold Dl;rw [ek]
 refine ⟨fun h1=>⟨fun h2=>?_,fun h2=>?_⟩,fun h1=>?_⟩
 ·have h12:r+1≤12:=by have:=of_decide_eq_true h1;omega
  have t:=Vm (b:=1) (s:=s) (n:=r+1) (by omega);have t2:=U_par (b:=1) (s:=s) (n:=r+1) (by omega);rw [t.2,t2.2];refine ⟨decide_eq_true (by omega),decide_eq_true (by omega),t.1,fun h3=>⟨decide_eq_true (by omega),decide_eq_true (by omega),t2.1,fun h4=>⟨A6.2 (by omega),by rw [Qr];exact Nat.beq_refl _,?_⟩,fun h4=>?_⟩,fun h3=>?_⟩
  ·have hb:S5 s n (r+1)=true:=by
    have h3:=eq_of_beq h3;unfold S5 Bd;rw [show ((s.at_ (r+1)).par==n)=true from h4,show decide (n≥1)=true from h2,show decide (0<(s.at_ (r+1)).num)=true from decide_eq_true (by omega)];rfl
   have ek:kidT s n (r+1+1)=kidT s n (r+1)++[r+1]:=by rw [kidT_succ,hb];rfl
   have v:=ku_app (s:=s) (n:=n) (i:=r+1+1) (m:=((r+1+1:Nat):Int)) (some ⟨1,[.int .i64 ((r+1:Nat):Int)]⟩) ek;refine ⟨by omega,.inr ?_⟩;rw [nx _ h12 rfl];rw [ek];rw [Qs,List.length_append] at v;have e0:B0 tsR s=some ⟨1,B2 1 s⟩::A2 (setsL encR s):=(V3 (t:=tsR) (s:=s)).symm;rw [e0] at v;rw [List.length_append];exact v
  ·refine same _ h12 ?_ rfl;unfold S5 Bd;rw [show ((s.at_ (r+1)).par==n)=false from h4,Bool.and_false,Bool.and_false]
  ·refine same _ h12 ?_ rfl
   have h0:(s.at_ (r+1)).num=0:=by
    by_cases e:(s.at_ (r+1)).num=0
    ·exact e
    ·have:=(hw.there e).1
     rw [this,beq_self_eq_true] at h3;cases h3
   unfold S5;rw [h0];rfl
 ·have hz:∀ i,kidT s n i=[]:=fun i=>by
   unfold kidT;rw [List.filter_eq_nil_iff];intro c _ hc;unfold S5 Bd at hc;rw [show decide (n≥1)=false from h2,Bool.false_and,Bool.and_false] at hc;cases hc
  refine ⟨rfl,?_,?_⟩
  ·show wk _ [_,_,_,AV.slice true (.rw 14) 0 (kidT s n (r+1)).length,_];rw [hz,hz];simp [wk]
  ·have e:Dl s n 13=Dl s n (r+1):=by unfold Dl;rw [hz,hz]
   rw [e,eH];rfl
 ·have hr12:r=12:=by have:=of_decide_eq_false h1;omega
  subst hr12;exact ⟨rfl,by simp [wk,vVs,vV,vR,vN,vI],by rw [eH];rfl⟩
theorem kid1 {s:Ptb} (hw:Wf s) (n:Int):kidT s n 1=[]:=by
 have h:(s.at_ 0).num=0:=by rw [(hw.z 0 (.inl rfl)).1];rfl
 unfold kidT;rw [List.filter_eq_nil_iff];intro c hc hk;have hc:=List.mem_range.1 hc
 have:c=0:=by omega
 subst this;unfold S5 at hk;rw [h] at hk;cases hk
theorem aD9 (G:Nat→List AV) (B:Nat) {s:Ptb} (hw:Wf s) (n:Int):AWp (⟨Try.prog,G,B⟩:A3) 14 (.loop (loopN Try.f61 0)) (fl 44 [0,1,4,5,6] [.ptr (.rw 0) 0,.int .i64 n,.nils,.nils,.int .i64 1]) (vHp G (hp3 [some ⟨1,.var 1 (B2 1 s)⟩] (.var 2 (setsL encR s)) [])) (lv 44 [0,1,4,5,6] (LOut.post G 14 (.one (.exit 0) [.undef,.undef,.undef,.slice true (.rw 14) (.lit 0) (.var 6 (kidT s n 13).length),.undef] (hp3 [some ⟨1,.var 1 (B2 1 s)⟩] (.var 2 (setsL encR s)) [some ⟨1,.var 22 (nl (kidT s n 13))⟩])))):=by
 have h1:=kid1 hw n;have hl:(vHp G (hp3 [some ⟨1,.var 1 (B2 1 s)⟩] (.var 2 (setsL encR s)) [])).length=14:=by rw [C0];rfl
 refine AWp.nilL [.ptr (.rw 0) 0,.int .i64 n,.nils,.slice true (.rw 14) 0 0,.int .i64 1] 1 (by rw [hl];omega) (by rw [hl];exact ⟨.inl rfl,.inl rfl,.inl rfl,.inr ⟨rfl,rfl⟩,.inl rfl,trivial⟩) ?_;have key:=aR5 G B hw n;rw [h1] at key
 have e:Dl s n (0+1)=vHp G (hp3 [some ⟨1,.var 1 (B2 1 s)⟩] (.var 2 (setsL encR s)) [])++[some ⟨1,[]⟩]:=by
  unfold Dl;rw [h1,hU];rfl
 rw [e] at key;refine key.lmono ?_;rintro ex vs H ⟨rfl,h2,rfl⟩;exact ⟨rfl,.inl ⟨h2,(hUL G s (nl (kidT s n 13))).symm⟩⟩
theorem wN (G:Nat→List AV) (B:Nat) {s:Ptb} (hw:Wf s) (n:Int):ACalls (⟨Try.prog,G,B⟩:A3) 61 [.ptr (.rw 0) 0,.int .i64 n] (B0 tsR s) fun v H'=>v=.slice true (.rw 14) 0 (kidT s n 13).length∧H'=B0 tsR s++[some ⟨1,nl (kidT s n 13)⟩]:=by
 have h:=D3 (C:=(⟨Try.prog,G,B⟩:A3)) (K:=Dc Try.prog [] [] [E5 0x943 (G5 [.ptr (.rw 0) 0,.int .i64 n,.nils,.nils,.int .i64 1] (vHp G (hp3 [some ⟨1,.var 1 (B2 1 s)⟩] (.var 2 (setsL encR s)) []))) 0 44 [0,1,4,5,6] (.one (.exit 0) [.undef,.undef,.undef,.slice true (.rw 14) (.lit 0) (.var 6 (kidT s n 13).length),.undef] (hp3 [some ⟨1,.var 1 (B2 1 s)⟩] (.var 2 (setsL encR s)) [some ⟨1,.var 22 (nl (kidT s n 13))⟩]))] 14) (fuel:=300) (n0:=40) (f:=61) (fn:=Try.f61) (args:=[.ptr (.rw 0) (.lit 0),.int .i64 (.var 3 n)]) (H:=(hp3 [some ⟨1,.var 1 (B2 1 s)⟩] (.var 2 (setsL encR s)) [])) (keep:=15)
  (R:=fun v H=>v=.slice true (.rw 14) 0 (kidT s n 13).length∧H=vHp G (hp3 [some ⟨1,.var 1 (B2 1 s)⟩] (.var 2 (setsL encR s)) [some ⟨1,.var 22 (nl (kidT s n 13))⟩])) (dgood (mix G B) (by kernel_rfl) .nil (.cast (.cons (i:=0) (by kernel_rfl) rfl (N5 rfl (aD9 G B hw n)) .nil) (by kernel_rfl))) (by kernel_rfl) (by kernel_rfl) (by kernel_rfl) (by
  have:=ku_c G (G5 [.ptr (.rw 0) 0,.int .i64 n,.nils,.nils,.int .i64 1] (vHp G (hp3 [some ⟨1,.var 1 (B2 1 s)⟩] (.var 2 (setsL encR s)) []))) (B2 1 s) (setsL encR s) (nl (kidT s n 13)) n (kidT s n 13).length (fun _ _ _=>False) (fun v H=>v=.slice true (.rw 14) 0 (kidT s n 13).length∧H=vHp G (hp3 [some ⟨1,.var 1 (B2 1 s)⟩] (.var 2 (setsL encR s)) [some ⟨1,.var 22 (nl (kidT s n 13))⟩]))
  exact Eq.mpr this ⟨F5,rfl,rfl⟩)
 rw [hU,hUL] at h;have hl:(B0 tsR s++[some (⟨1,nl (kidT s n 13)⟩:Blk)]).length=15:=by simp [A9]
 refine ACalls.keep (k:=15) h ?_ ?_ ?_ (by simp)
 ·rw [hl,A9];omega
 ·rw [hl];exact hpB_app (N3 tsR_ok (s:=s) (b:=1) (by omega)) (by simp only [D7,bm (L3 0 _),Bool.and_self])
 ·rw [hl];rfl
end Go.Am
namespace Go.Am
open Go.Proofs Crc
set_option maxRecDepth 100000
theorem wu_b (G:Nat→List AV) (tb sl ks:List AV) (w:Int) (c i:Nat) (wb:Bool) (Q:Ex→List AV→Hp→Prop) (R:AV→Hp→Prop):vT G Q R (J6 (Dc Try.prog [69] [] [] 0) 300 40 14 (loopN Try.f43 0) 83 [0,2,6,7,8,9,11,12,13] [.ptr (.rw 0) (.lit 0),.int .i64 (.var 4 w),.int .i64 (.lit 0),.int .i64 (.lit 0),.bool (.lit false),.int .i64 (.lit 0),.slice true (.rw 14) (.lit 0) (.var 6 c),.bool (.var 7 wb),.int .i64 (.ofN (.var 8 i))] (hp3 [some ⟨1,.var 1 tb⟩] (.var 2 sl) [some ⟨1,.var 22 ks⟩]))=(
  (decide ((((i:Nat):Int):Int)<((c:Nat):Int))=true→(((w:Int)==(-1))=true→decide ((0:Int)≤((i:Nat):Int))=true∧decide ((((i:Nat):Int):Int)<((c:Nat):Int))=true∧isI .i64 ks (i)=true∧decide ((0:Int)≤A0 ks (i))=true∧decide ((A0 ks (i):Int)<13)=true∧isB tb ((Int.toNat (A0 ks (i)))*6+4)=true∧(A5 tb ((Int.toNat (A0 ks (i)))*6+4)=true→decide ((0:Int)≤((i:Nat):Int))=true∧decide ((((i:Nat):Int):Int)<((c:Nat):Int))=true∧isI .i64 ks (i)=true∧decide ((0:Int)≤A0 ks (i))=true∧decide ((A0 ks (i):Int)<13)=true∧isI .i64 tb ((Int.toNat (A0 ks (i)))*6+5)=true∧decide ((0:Int)≤((i:Nat):Int))=true∧decide ((((i:Nat):Int):Int)<((c:Nat):Int))=true∧isI .i64 ks (i)=true∧decide ((0:Int)≤A0 ks (i))=true∧decide ((A0 ks (i):Int)<13)=true∧leB ((Int.toNat (A0 ks (i)))*6+6) (List.length tb)=true∧decide ((0:Int)≤A0 ks (i))=true∧decide ((A0 ks (i):Int)<13)=true∧leB (Int.toNat (A0 ks (i))+79) (List.length (setPart tb ((Int.toNat (A0 ks (i)))*6) (.agg ([.int .i64 (0),.int .i64 (0),.int .i64 (0),.int .i64 (0),.bool (false),.int .i64 (0)]:List AV))))=true∧decide ((0:Int)≤((i:Nat):Int))=true∧decide ((((i:Nat):Int):Int)<((c:Nat):Int))=true∧isI .i64 ks (i)=true∧Q .ret [.ptr (.rw 0) (0),.int .i64 (w),.int .i64 (A0 ks (i)),.int .i64 (A0 tb ((Int.toNat (A0 ks (i)))*6+5)),.bool (false),.int .i64 (0),.slice true (.rw 14) (0) (c),.bool (true),.int .i64 (((i:Nat):Int))] ([some ⟨1,(setPart (setPart tb ((Int.toNat (A0 ks (i)))*6) (.agg ([.int .i64 (0),.int .i64 (0),.int .i64 (0),.int .i64 (0),.bool (false),.int .i64 (0)]:List AV))) (Int.toNat (A0 ks (i))+78) (.nilp))⟩]++(A2 sl++[some ⟨1,ks⟩])))∧(A5 tb ((Int.toNat (A0 ks (i)))*6+4)=false→
 Q .normal [.ptr (.rw 0) (0),.int .i64 (w),.int .i64 (0),.int .i64 (0),.bool (false),.int .i64 (0),.slice true (.rw 14) (0) (c),.bool (true),.int .i64 (IntKind.wrap .i64 (((i:Nat):Int)+1))] ([some ⟨1,tb⟩]++(A2 sl++[some ⟨1,ks⟩]))))∧(((w:Int)==(-1))=false→decide ((0:Int)≤((i:Nat):Int))=true∧decide ((((i:Nat):Int):Int)<((c:Nat):Int))=true∧isI .i64 ks (i)=true∧(((A0 ks (i):Int)==w)=true→decide ((0:Int)≤((i:Nat):Int))=true∧decide ((((i:Nat):Int):Int)<((c:Nat):Int))=true∧isI .i64 ks (i)=true∧decide ((0:Int)≤A0 ks (i))=true∧decide ((A0 ks (i):Int)<13)=true∧isB tb ((Int.toNat (A0 ks (i)))*6+4)=true∧(A5 tb ((Int.toNat (A0 ks (i)))*6+4)=true→decide ((0:Int)≤((i:Nat):Int))=true∧decide ((((i:Nat):Int):Int)<((c:Nat):Int))=true∧isI .i64 ks (i)=true∧decide ((0:Int)≤A0 ks (i))=true∧decide ((A0 ks (i):Int)<13)=true∧isI .i64 tb ((Int.toNat (A0 ks (i)))*6+5)=true∧decide ((0:Int)≤((i:Nat):Int))=true∧decide ((((i:Nat):Int):Int)<((c:Nat):Int))=true∧isI .i64 ks (i)=true∧decide ((0:Int)≤A0 ks (i))=true∧decide ((A0 ks (i):Int)<13)=true∧leB ((Int.toNat (A0 ks (i)))*6+6) (List.length tb)=true∧decide ((0:Int)≤A0 ks (i))=true∧decide ((A0 ks (i):Int)<13)=true∧leB (Int.toNat (A0 ks (i))+79) (List.length (setPart tb ((Int.toNat (A0 ks (i)))*6) (.agg ([.int .i64 (0),.int .i64 (0),.int .i64 (0),.int .i64 (0),.bool (false),.int .i64 (0)]:List AV))))=true∧decide ((0:Int)≤((i:Nat):Int))=true∧decide ((((i:Nat):Int):Int)<((c:Nat):Int))=true∧isI .i64 ks (i)=true∧
 Q .ret [.ptr (.rw 0) (0),.int .i64 (w),.int .i64 (A0 ks (i)),.int .i64 (A0 tb ((Int.toNat (A0 ks (i)))*6+5)),.bool (false),.int .i64 (0),.slice true (.rw 14) (0) (c),.bool (true),.int .i64 (((i:Nat):Int))] ([some ⟨1,(setPart (setPart tb ((Int.toNat (A0 ks (i)))*6) (.agg ([.int .i64 (0),.int .i64 (0),.int .i64 (0),.int .i64 (0),.bool (false),.int .i64 (0)]:List AV))) (Int.toNat (A0 ks (i))+78) (.nilp))⟩]++(A2 sl++[some ⟨1,ks⟩])))∧(A5 tb ((Int.toNat (A0 ks (i)))*6+4)=false→Q .normal [.ptr (.rw 0) (0),.int .i64 (w),.int .i64 (0),.int .i64 (0),.bool (false),.int .i64 (0),.slice true (.rw 14) (0) (c),.bool (true),.int .i64 (IntKind.wrap .i64 (((i:Nat):Int)+1))] ([some ⟨1,tb⟩]++(A2 sl++[some ⟨1,ks⟩]))))∧(((A0 ks (i):Int)==w)=false→Q .normal [.ptr (.rw 0) (0),.int .i64 (w),.int .i64 (0),.int .i64 (0),.bool (false),.int .i64 (0),.slice true (.rw 14) (0) (c),.bool (wb),.int .i64 (IntKind.wrap .i64 (((i:Nat):Int)+1))] ([some ⟨1,tb⟩]++(A2 sl++[some ⟨1,ks⟩])))))∧(decide ((((i:Nat):Int):Int)<((c:Nat):Int))=false→Q (.exit 0) [.ptr (.rw 0) (0),.int .i64 (w),.int .i64 (0),.int .i64 (0),.bool (false),.int .i64 (0),.slice true (.rw 14) (0) (c),.bool (wb),.int .i64 (((i:Nat):Int))] ([some ⟨1,tb⟩]++(A2 sl++[some ⟨1,ks⟩])))):=by kernel_rfl
end Go.Am
namespace Go.Am
open Go.Proofs Crc
set_option maxRecDepth 100000
theorem aL6 (G:Nat→List AV) (B:Nat) {s:Ptb} (hw:Wf s) (n w:Int):AWp (⟨Try.prog,G,B⟩:A3) 14 (.loop (loopN Try.f43 0)) (fl 83 [0,2,6,7,8,9,11,12,13] [.ptr (.rw 0) 0,.int .i64 w,.int .i64 0,.int .i64 0,.bool false,.int .i64 0,.slice true (.rw 14) 0 (kidT s n 13).length,.bool false,.int .i64 0]) (vHp G (hp3 [some ⟨1,.var 1 (B2 1 s)⟩] (.var 2 (setsL encR s)) [some ⟨1,.var 22 (nl (kidT s n 13))⟩])) (lv 83 [0,2,6,7,8,9,11,12,13] (LOut.post G 14 (.tst (.var 9 (((kidT s n 13).find? (E4 s w)).isSome)) (.one .ret [.undef,.undef,.int .i64 (.var 10 ((((kidT s n 13).find? (E4 s w)).getD 0):Int)),.int .i64 (.var 11 (s.at_ (((kidT s n 13).find? (E4 s w)).getD 0)).st),.bool (.lit false),.int .i64 (.lit 0),.undef,.undef,.undef] (hp3 [some ⟨1,.var 21 (B2 1 (J2 s (((kidT s n 13).find? (E4 s w)).getD 0)))⟩] (.var 2 (setsL encR s)) [some ⟨1,.var 22 (nl (kidT s n 13))⟩])) (.one (.exit 0) [.undef,.undef,.int .i64 (.lit 0),.int .i64 (.lit 0),.bool (.lit false),.int .i64 (.lit 0),.undef,.bool (.var 7 ((kidT s n 13).any (L0 w))),.undef] (hp3 [some ⟨1,.var 1 (B2 1 s)⟩] (.var 2 (setsL encR s)) [some ⟨1,.var 22 (nl (kidT s n 13))⟩]))))):=by
 refine Yi (fun i=>∀ j,(hj:j<(kidT s n 13).length)→j<i→E4 s w (kidT s n 13)[j]=false) (kidT s n 13).length (fun i=>[.ptr (.rw 0) 0,.int .i64 w,.int .i64 0,.int .i64 0,.bool false,.int .i64 0,.slice true (.rw 14) 0 (kidT s n 13).length,.bool (((kidT s n 13).take i).any (L0 w)),.int .i64 (i:Int)]) (fun _=>vHp G (hp3 [some ⟨1,.var 1 (B2 1 s)⟩] (.var 2 (setsL encR s)) [some ⟨1,.var 22 (nl (kidT s n 13))⟩])) (fun j hj h=>by omega) fun i hi hP=>?_
 refine E2 (C:=(⟨Try.prog,G,B⟩:A3)) (K:=Dc Try.prog [69] [] [] 0) (by rw [show loopsOf (loopN Try.f43 0)=[] by kernel_rfl];exact dgood (mix G B) (by kernel_rfl) .nil .nil) (fuel:=300) (n0:=40) (m:=14) (c:=loopN Try.f43 0)
  (vs:=[.ptr (.rw 0) (.lit 0),.int .i64 (.var 4 w),.int .i64 (.lit 0),.int .i64 (.lit 0),.bool (.lit false),.int .i64 (.lit 0),.slice true (.rw 14) (.lit 0) (.var 6 (kidT s n 13).length),.bool (.var 7 (((kidT s n 13).take i).any (L0 w))),.int .i64 (.ofN (.var 8 i))]) (H:=(hp3 [some ⟨1,.var 1 (B2 1 s)⟩] (.var 2 (setsL encR s)) [some ⟨1,.var 22 (nl (kidT s n 13))⟩])) (Nat.le_of_ble_eq_true rfl) ?_
 rw [wu_b];have hle:=Fu s n 13;refine ⟨fun h=>?_,fun h=>?_⟩
 ·have hlt:i<(kidT s n 13).length:=by have:=of_decide_eq_true h;omega
  obtain ⟨k1,k2⟩:=Yt (l:=(kidT s n 13)) hlt;obtain ⟨c1,c2,c3,c4⟩:=Kx (List.getElem_mem hlt);have ten:=pC (b:=1) (s:=s) c1;have tst:=U_st (b:=1) (s:=s) c1;have ew:IntKind.wrap .i64 ((i:Int)+1)=((i+1:Nat):Int):=by rw [D9 (by omega)];rfl
  rw [k2,Int.toNat_natCast,ten.2,tst.2];have en0:decide ((0:Int)≤((kidT s n 13)[i]:Int))=true:=decide_eq_true (by omega);have en13:decide (((kidT s n 13)[i]:Int)<13)=true:=decide_eq_true (by omega);have i0:decide ((0:Int)≤(i:Int))=true:=decide_eq_true (by omega);have lT:leB ((kidT s n 13)[i]*6+6) (B2 1 s).length=true:=A6.2 (by rw [Gc];omega);have eR:=fB (p:=B3 1 s) (n:=(kidT s n 13)[i]) (s:=s) (x:=zc) c1
  have lT2:leB ((kidT s n 13)[i]+79) (setPart (B2 1 s) ((kidT s n 13)[i]*6) (.agg [.int .i64 0,.int .i64 0,.int .i64 0,.int .i64 0,.bool false,.int .i64 0])).length=true:=by
   rw [show setPart (B2 1 s) ((kidT s n 13)[i]*6) (.agg [.int .i64 0,.int .i64 0,.int .i64 0,.int .i64 0,.bool false,.int .i64 0])=C3 (B3 1 s) (V7 s (kidT s n 13)[i] zc) from eR];exact A6.2 (by show _≤(C3 _ _).length;simp [C3,I2];omega)
  have e9:setPart (setPart (B2 1 s) ((kidT s n 13)[i]*6) (.agg [.int .i64 0,.int .i64 0,.int .i64 0,.int .i64 0,.bool false,.int .i64 0])) ((kidT s n 13)[i]+78) .nilp=B2 1 (J2 s (kidT s n 13)[i]):=W_free (b:=1) (s:=s) c1;rw [e9]
  have nexts:E4 s w (kidT s n 13)[i]=false→∀ j,(hj:j<(kidT s n 13).length)→j<i+1→E4 s w (kidT s n 13)[j]=false:=fun h0 j hj hji=>by
   by_cases e:j=i
   ·subst e;exact h0
   ·exact hP j hj (by omega)
  have found:L0 w (kidT s n 13)[i]=true→(s.at_ (kidT s n 13)[i]).en=true→LOut.post G 14 (.tst (.var 9 (((kidT s n 13).find? (E4 s w)).isSome)) (.one .ret [.undef,.undef,.int .i64 (.var 10 ((((kidT s n 13).find? (E4 s w)).getD 0):Int)),.int .i64 (.var 11 (s.at_ (((kidT s n 13).find? (E4 s w)).getD 0)).st),.bool (.lit false),.int .i64 (.lit 0),.undef,.undef,.undef] (hp3 [some ⟨1,.var 21 (B2 1 (J2 s (((kidT s n 13).find? (E4 s w)).getD 0)))⟩] (.var 2 (setsL encR s)) [some ⟨1,.var 22 (nl (kidT s n 13))⟩])) (.one (.exit 0) [.undef,.undef,.int .i64 (.lit 0),.int .i64 (.lit 0),.bool (.lit false),.int .i64 (.lit 0),.undef,.bool (.var 7 ((kidT s n 13).any (L0 w))),.undef] (hp3 [some ⟨1,.var 1 (B2 1 s)⟩] (.var 2 (setsL encR s)) [some ⟨1,.var 22 (nl (kidT s n 13))⟩]))) .ret [.ptr (.rw 0) 0,.int .i64 w,.int .i64 ((kidT s n 13)[i]:Int),.int .i64 (s.at_ (kidT s n 13)[i]).st,.bool false,.int .i64 0,.slice true (.rw 14) 0 (kidT s n 13).length,.bool true,.int .i64 (i:Int)] (some ⟨1,B2 1 (J2 s (kidT s n 13)[i])⟩::(A2 (setsL encR s)++[some ⟨1,nl (kidT s n 13)⟩])):=fun hm he=>by
   have hf:(kidT s n 13).find? (E4 s w)=some (kidT s n 13)[i]:=Zf hlt (by unfold E4;rw [hm,he];rfl) hP;have e1:(((kidT s n 13).find? (E4 s w)).getD 0)=(kidT s n 13)[i]:=by rw [hf];rfl
   refine .inl ⟨by show Option.isSome _=true;rw [hf];rfl,rfl,.inl ⟨?_,?_⟩⟩
   ·simp only [vVs,vV,vI,vB,e1];simp [wk]
   ·rw [e1];rfl
  refine ⟨fun h1=>⟨i0,h,k1,en0,en13,ten.1,fun he=>?_,fun he=>?_⟩,fun h1=>⟨i0,h,k1,fun h2=>⟨i0,h,k1,en0,en13,ten.1,fun he=>?_,fun he=>?_⟩,fun h2=>?_⟩⟩
  ·have hm:L0 w (kidT s n 13)[i]=true:=by unfold L0;rw [show (w==-1)=true from h1];rfl
   exact ⟨i0,h,k1,en0,en13,tst.1,i0,h,k1,en0,en13,lT,en0,en13,lT2,i0,h,k1,found hm he⟩
  ·have hm:L0 w (kidT s n 13)[i]=true:=by unfold L0;rw [show (w==-1)=true from h1];rfl
   exact ⟨hlt,nexts (by unfold E4;rw [he,Bool.and_false]),.inl ⟨by rw [ew,Pa hlt,hm,Bool.or_true],rfl⟩⟩
  ·have hm:L0 w (kidT s n 13)[i]=true:=by unfold L0;rw [eq_of_beq h2,beq_self_eq_true,Bool.or_true]
   exact ⟨i0,h,k1,en0,en13,tst.1,i0,h,k1,en0,en13,lT,en0,en13,lT2,i0,h,k1,found hm he⟩
  ·have hm:L0 w (kidT s n 13)[i]=true:=by unfold L0;rw [eq_of_beq h2,beq_self_eq_true,Bool.or_true]
   exact ⟨hlt,nexts (by unfold E4;rw [he,Bool.and_false]),.inl ⟨by rw [ew,Pa hlt,hm,Bool.or_true],rfl⟩⟩
  ·have h2':(w==((kidT s n 13)[i]:Int))=false:=by
    rw [beq_eq_false_iff_ne] at h2 ⊢;exact fun e=>h2 e.symm
   have hm:L0 w (kidT s n 13)[i]=false:=by unfold L0;rw [h2',show (w==-1)=false from h1];rfl
   exact ⟨hlt,nexts (by unfold E4;rw [hm];rfl),.inl ⟨by rw [ew,Pa hlt,hm,Bool.or_false],rfl⟩⟩
 ·have he:i=(kidT s n 13).length:=by have:=of_decide_eq_false h;omega
  have hn:(kidT s n 13).find? (E4 s w)=none:=Ra fun j hj=>hP j hj (by omega);refine .inr ⟨by show Option.isSome _=false;rw [hn];rfl,rfl,.inl ⟨?_,rfl⟩⟩;rw [he,List.take_length];simp [wk,vVs,vV,vI,vB]
end Go.Am
namespace Go.Am
open Crc
def O5:List AV→Nat:=fun vs=>match vs with
 | [.agg x,.int _ n]=>(kidT (P7 x) n 13).length
 | _=>0
def H4:List AV→List AV:=fun vs=>match vs with
 | [.agg x,.int _ n]=>nl (kidT (P7 x) n 13)
 | _=>[]
def nM (ok:List AV→Bool) (xo:List AV→List AV):DSum:=fun (args:List EV) (H:List (Option DBlk))=>match args with
 | [.ptr (.rw 0) (.lit 0),.int .i64 n]=>match H[(0:Nat)]? with
  | some (some ⟨1,l⟩)=>match Gu H 1 13 with
   | some (z1,L,ls)=>match Nat.beq z1 1 with
    | true=>some (.chk (.rows L ls) (.chk (.uf 2206 ok [.agg l,.agg L]) (.one (.slice true (.rw H.length) (.lit 0) (.uf 2381 O5 [.agg (.uf 2205 xo [.agg l,.agg L]),.int .i64 n])) [.new ⟨1,.uf 2382 H4 [.agg (.uf 2205 xo [.agg l,.agg L]),.int .i64 n]⟩])))
    | false=>none
   | none=>none
  | _=>none
 | _=>none
noncomputable def kidsRS:DSum:=nM (Ne tsR) (Ke tsR)
theorem xQ {C:A3} {f:FuncId} (h:∀ s,Wf s→∀ n,ACalls C f [.ptr (.rw 0) 0,.int .i64 n] (B0 tsR s) fun v H'=>v=.slice true (.rw 14) 0 (kidT s n 13).length∧H'=B0 tsR s++[some ⟨1,nl (kidT s n 13)⟩]):G0 C f kidsRS:=by
 intro args H o ho;unfold kidsRS nM at ho;split at ho
 ·rename_i n;split at ho
  ·rename_i l h0;split at ho
   ·rename_i z1 L ls hf;split at ho
    ·rename_i hz;have hz:=Nat.eq_of_beq_eq_true hz;subst hz;simp only [Option.some.injEq] at ho;subst ho;intro h1 h2;have h1:rowsA (vL C.G L) (vVs C.G ls)=true:=h1;have h2:Ne tsR [.agg (vL C.G l),.agg (vL C.G L)]=true:=h2;obtain ⟨s,hw,e1,e2⟩:=Pj.1 h2;have ht:=yD h0 hf h1;rw [e1,e2,V3] at ht;have ex:vL C.G (.uf 2205 (Ke tsR) [.agg l,.agg L])=encX s:=by simp only [vL,vVs,vV,e1,e2];exact Rw Yf hw
     have hN:vN C.G (.uf 2381 O5 [.agg (.uf 2205 (Ke tsR) [.agg l,.agg L]),.int .i64 n])=(kidT s (vI C.G n) 13).length:=by
      show O5 [.agg (vL C.G (.uf 2205 (Ke tsR) [.agg l,.agg L])),.int .i64 (vI C.G n)]=_;rw [ex];simp only [O5,C7 hw.thin]
     have hL:vL C.G (.uf 2382 H4 [.agg (.uf 2205 (Ke tsR) [.agg l,.agg L]),.int .i64 n])=nl (kidT s (vI C.G n) 13):=by
      show H4 [.agg (vL C.G (.uf 2205 (Ke tsR) [.agg l,.agg L])),.int .i64 (vI C.G n)]=_;rw [ex];simp only [H4,C7 hw.thin]
     refine E1.readN (k:=14) (H0:=B0 tsR s) (args0:=[.ptr (.rw 0) 0,.int .i64 (vI C.G n)]) (v0:=.slice true (.rw 14) 0 (kidT s (vI C.G n) 13).length) A9 ht (fun i b hb=>?_) rfl rfl ?_ ?_ rfl ?_
     ·obtain ⟨b0,hb0⟩:∃ b0,b=some b0:=by
       have hi:=(List.getElem?_eq_some_iff.1 hb).1;rw [A9] at hi;cases i with
       | zero=>exact ⟨_,(Option.some.inj hb).symm⟩
       | succ k=>
        have:=Do (t:=tsR) (p:=B3 1 s) (s:=s) (s':=s) (n:=k) (by omega)
        exact ⟨_,by rw [show (B0 tsR s)[k+1]?=_ from this] at hb;exact (Option.some.inj hb).symm⟩
      subst hb0;exact ⟨b0,rfl,Oo (Bi tsR_ok s) i b0 hb⟩
     ·have:=h s hw (vI C.G n)
      simp only [C9,hL];exact this
     ·simp only [C9,hL];exact L3 0 _
     ·simp only [vV,vR,hN,vN];show _=AV.slice true (.rw ((J0 (List.range 14) H.length 1).getD 14 0)) 0 _;rw [Me (by simp) (by simp)];simp;exact hN
    ·cases ho
   ·cases ho
  ·cases ho
 ·cases ho
end Go.Am
