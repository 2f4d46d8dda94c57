/-
  Kill: a signal to a group, process by process. Processes: the document's Kill: the group's loop.
-/
import Derived.Test.YtkabjomhnddnoaaPart19
import Derived.Test.YtkabjomhnddnoaaPart24
import Derived.Test.YtkabjomhnddnoaaPart23
import Derived.Test.YtkabjomhnddnoaaPart13
import Derived.Test.YtkabjomhnddnoaaPart22
namespace Go.Am
open Crc
theorem kR_neg {s:Ptb} (hw:Wf s) {to sg me:Int} (hto:to≤0) {i:Nat} (h1:1≤i) (h2:i≤12) :
  kR s to sg me (i+1)=if live s (i:Int)=true∧-(s.at_ i).grp=to then (if kMy (s.at_ i) me=true then (updS (kR s to sg me i).1 i (some (sendX (sgD (kR s to sg me i).1 i) sg)),true,true) else ((kR s to sg me i).1,(kR s to sg me i).2.1,true)) else kR s to sg me i:=by
 have ki:=(kR_inv hw to sg me i).at_
 show (if 0<(s.at_ i).num then _ else _)=_
 by_cases hp:0<(s.at_ i).num
 ·have hn:=(hw.there (n:=i) (by omega)).1
  rw [if_pos hp]
  have hlv:live s (i:Int)=!(s.at_ i).en:=by
   unfold live
   rw [isP_iff.2 ⟨by omega,by omega,hn⟩];rfl
  have hmt:kMt (s.at_ i) to=(-(s.at_ i).grp==to&&!(s.at_ i).en):=by
   unfold kMt
   rw [show (to==(s.at_ i).num)=false by rw [beq_eq_false_iff_ne];omega,Bool.false_or]
  unfold kNx
  rw [ki,hmt,hlv]
  cases he:(s.at_ i).en with
  | true=>simp
  | false=>
   by_cases hg:-(s.at_ i).grp=to
   ·rw [hg]
    cases hm:kMy (s.at_ i) me<;>simp
   ·rw [show (-(s.at_ i).grp==to)=false by rw [beq_eq_false_iff_ne];exact hg]
    simp [hg]
 ·rw [if_neg hp,if_neg]
  rintro ⟨hl,_⟩
  have:=live_iff.1 hl
  have h3:(s.at_ i).num=(i:Int):=this.2.2.1
  omega
theorem kR_skip {s:Ptb} (hw:Wf s) {to sg me:Int} (hto:0<to) {i:Nat} (h:¬((s.at_ i).num=to)):kR s to sg me (i+1)=kR s to sg me i:=by
 have ki:=(kR_inv hw to sg me i).at_
 show (if 0<(s.at_ i).num then _ else _)=_
 by_cases hp:0<(s.at_ i).num
 ·rw [if_pos hp]
  have hg:=hw.grp (n:=i) (by omega)
  have hmt:kMt (s.at_ i) to=false:=by
   unfold kMt
   rw [show (to==(s.at_ i).num)=false by rw [beq_eq_false_iff_ne];exact fun e=>h e.symm,show (-(s.at_ i).grp==to)=false by rw [beq_eq_false_iff_ne];omega];rfl
  unfold kNx
  rw [ki,hmt]
  simp
 ·rw [if_neg hp]
theorem kR_one {s:Ptb} (hw:Wf s) {to sg me:Int} (hto:0<to):kR s to sg me 13=if to≤12∧(s.at_ to.toNat).num≠0 then (if kMy (s.at_ to.toNat) me=true then (if (s.at_ to.toNat).en=true then (s,true,true) else (updS s to.toNat (some (sendX (sgD s to.toNat) sg)),true,true)) else (s,false,true)) else (s,false,false):=by
 have lo:∀ j:Nat,(j:Int)≤to→kR s to sg me j=(s,false,false):=fun j=>by
  induction j with
  | zero=>intro _;rfl
  | succ j ih=>
   intro hj
   rw [kR_skip hw hto,ih (by omega)]
   intro e
   have:=(hw.there (n:=j) (by omega)).1
   omega
 by_cases hc:to≤12∧(s.at_ to.toNat).num≠0
 ·rw [if_pos hc]
  have hn:=(hw.there hc.2).1
  have hi:∀ d:Nat,kR s to sg me (to.toNat+1+d)=kR s to sg me (to.toNat+1):=fun d=>by
   induction d with
   | zero=>rfl
   | succ d ih=>
    rw [show to.toNat+1+(d+1)=(to.toNat+1+d)+1 by omega,kR_skip hw hto,ih]
    intro e
    have:=(hw.there (n:=to.toNat+1+d) (by omega)).1
    omega
  have e13:=hi (12 - to.toNat)
  rw [show to.toNat+1+(12 - to.toNat)=13 by omega] at e13
  rw [e13]
  show (if 0<(s.at_ to.toNat).num then _ else _)=_
  rw [if_pos (by omega),lo to.toNat (by omega)]
  have hmt:kMt (s.at_ to.toNat) to=true:=by
   unfold kMt
   rw [show (to==(s.at_ to.toNat).num)=true by rw [beq_iff_eq];omega];rfl
  unfold kNx
  rw [hmt]
  cases hm:kMy (s.at_ to.toNat) me<;>cases he:(s.at_ to.toNat).en<;>simp [hm,he]
 ·rw [if_neg hc]
  have all:∀ j:Nat,j≤13→kR s to sg me j=(s,false,false):=fun j=>by
   induction j with
   | zero=>intro _;rfl
   | succ j ih=>
    intro hj
    rw [kR_skip hw hto,ih (by omega)]
    intro e
    have:=(hw.there (n:=j) (by omega)).1
    refine hc ⟨by omega,?_⟩
    rw [show to.toNat=j by omega];omega
  exact all 13 (Nat.le_refl _)
end Go.Am
namespace Go.Am
open Go.Proofs Crc
set_option maxRecDepth 100000
set_option maxHeartbeats 1000000
theorem kk_loop (G:Nat→List AV) (B:Nat) {s:Ptb} (hw:Wf s) {n:Int} (hl:live s n=true) {to sg:Int} (hto:to<0) (hmin:-9223372036854775808≤to) :
  AWp (⟨Try.prog,G,B⟩:Ctx) 14 (.loop (loopN Try.f46 0)) (fl 100 [0,1,2,3,10,11,12] [.ptr (.rw 0) 0,.int .i64 n,.int .i64 to,.int .i64 sg,.bool (kR s to sg (s.at_ n.toNat).usr (0+1)).2.2,.bool (kR s to sg (s.at_ n.toNat).usr (0+1)).2.1,.int .i64 ((0+1:Nat):Int)]) (can tsR (kR s to sg (s.at_ n.toNat).usr (0+1)).1) (lv 100 [0,1,2,3,10,11,12] fun e vs H=>e=.exit 0∧wk [.undef,.undef,.undef,.undef,.bool (kR s to sg (s.at_ n.toNat).usr 13).2.2,.bool (kR s to sg (s.at_ n.toNat).usr 13).2.1,.undef] vs∧H=can tsR (kR s to sg (s.at_ n.toNat).usr 13).1):=by
 refine scan 12 (fun r=>[.ptr (.rw 0) 0,.int .i64 n,.int .i64 to,.int .i64 sg,.bool (kR s to sg (s.at_ n.toNat).usr (r+1)).2.2,.bool (kR s to sg (s.at_ n.toNat).usr (r+1)).2.1,.int .i64 ((r+1:Nat):Int)]) (fun r=>can tsR (kR s to sg (s.at_ n.toNat).usr (r+1)).1) fun r hr=>?_
 have eH:can tsR (kR s to sg (s.at_ n.toNat).usr (r+1)).1=vHp G (hp3 [some ⟨1,.var 1 (encU 1 (kR s to sg (s.at_ n.toNat).usr (r+1)).1)⟩] (.var 2 (setsL encR (kR s to sg (s.at_ n.toNat).usr (r+1)).1)) []):=(hU G (kR s to sg (s.at_ n.toNat).usr (r+1)).1).symm
 rw [eH]
 refine dloop_ok (C:=(⟨Try.prog,G,B⟩:Ctx)) (K:=Df Try.prog [(75,1,13)] [67,60,70] [(71,fSendS sideD)] [] 0) (by rw [show loopsOf (loopN Try.f46 0)=[] by kernel_rfl];exact dgoodf (mix G B) (by kernel_rfl) (.cons (fSendS_ok (sideD_ok G) (r_send' G B)) .nil) .nil) (fuel:=300) (n0:=20) (m:=14) (c:=loopN Try.f46 0)
  (vs:=[.ptr (.rw 0) (.lit 0),.int .i64 (.var 3 n),.int .i64 (.var 4 to),.int .i64 (.var 5 sg),.bool (.var 6 (kR s to sg (s.at_ n.toNat).usr (r+1)).2.2),.bool (.var 7 (kR s to sg (s.at_ n.toNat).usr (r+1)).2.1),.int .i64 (.ofN (.var 8 (r+1)))]) (H:=(hp3 [some ⟨1,.var 1 (encU 1 (kR s to sg (s.at_ n.toNat).usr (r+1)).1)⟩] (.var 2 (setsL encR (kR s to sg (s.at_ n.toNat).usr (r+1)).1)) [])) (Nat.le_of_ble_eq_true rfl) ?_
 unfold sideD
 rw [kk_b]
 have ki:=kR_inv hw to sg (s.at_ n.toNat).usr (r+1)
 have hlv:=live_iff.1 hl
 have canE:∀ s':Ptb,can tsR s'=[some ⟨1,encU 1 s'⟩]++rows13 (setsL encR s'):=fun s'=>(hp_can (t:=tsR) (s:=s')).symm
 have leaf:∀ (b1 b2:Bool) (s':Ptb) (H:Hp),r+1≤12→kR s to sg (s.at_ n.toNat).usr (r+1+1)=(s',b2,b1)→H=can tsR s'→(r<12∧((([.ptr (.rw 0) 0,.int .i64 n,.int .i64 to,.int .i64 sg,.bool b1,.bool b2,.int .i64 (IntKind.wrap .i64 (((r+1:Nat):Int)+1))]:List AV)=[.ptr (.rw 0) 0,.int .i64 n,.int .i64 to,.int .i64 sg,.bool (kR s to sg (s.at_ n.toNat).usr (r+1+1)).2.2,.bool (kR s to sg (s.at_ n.toNat).usr (r+1+1)).2.1,.int .i64 ((r+1+1:Nat):Int)]∧H=can tsR (kR s to sg (s.at_ n.toNat).usr (r+1+1)).1)∨View 14 [.ptr (.rw 0) 0,.int .i64 n,.int .i64 to,.int .i64 sg,.bool (kR s to sg (s.at_ n.toNat).usr (r+1+1)).2.2,.bool (kR s to sg (s.at_ n.toNat).usr (r+1+1)).2.1,.int .i64 ((r+1+1:Nat):Int)] (can tsR (kR s to sg (s.at_ n.toNat).usr (r+1+1)).1) [.ptr (.rw 0) 0,.int .i64 n,.int .i64 to,.int .i64 sg,.bool b1,.bool b2,.int .i64 (IntKind.wrap .i64 (((r+1:Nat):Int)+1))] H)):=fun b1 b2 s' H h e1 e2=>by
  rw [e1,e2,i64_in (by omega)]
  exact ⟨by omega,.inl ⟨rfl,rfl⟩⟩
 refine ⟨fun h1=>?_,fun h1=>?_⟩
 ·have h12:r+1≤12:=by have:=of_decide_eq_true h1;omega
  have step:=kR_neg hw (sg:=sg) (me:=(s.at_ n.toNat).usr) (show to≤0 by omega) (i:=r+1) (by omega) h12
  have tn:=U_num (b:=1) (s:=(kR s to sg (s.at_ n.toNat).usr (r+1)).1) (n:=r+1) (by omega)
  have te:=U_en (b:=1) (s:=(kR s to sg (s.at_ n.toNat).usr (r+1)).1) (n:=r+1) (by omega)
  have tg:=U_grp (b:=1) (s:=(kR s to sg (s.at_ n.toNat).usr (r+1)).1) (n:=r+1) (by omega)
  have tu:=U_usr (b:=1) (s:=(kR s to sg (s.at_ n.toNat).usr (r+1)).1) (n:=r+1) (by omega)
  have tm:=U_usr (b:=1) (s:=(kR s to sg (s.at_ n.toNat).usr (r+1)).1) (n:=n.toNat) (by omega)
  rw [ki.at_] at tn te tg tu tm
  have d0:decide ((0:Int)≤((r+1:Nat):Int))=true:=decide_eq_true (by omega)
  have d13:decide (((r+1:Nat):Int)<13)=true:=decide_eq_true (by omega)
  have dn0:decide ((0:Int)≤n)=true:=decide_eq_true (by omega)
  have dn13:decide (n<13)=true:=decide_eq_true (by omega)
  rw [tn.2,te.2,tg.2,tu.2,tm.2]
  have gq:(s.at_ (r+1)).num=((r+1:Nat):Int)→((s.at_ (r+1)).grp=IntKind.wrap .i64 (0 - to)↔-(s.at_ (r+1)).grp=to):=fun hnum=>by
   have hg:=hw.grp (n:=r+1) (by omega)
   by_cases hm:to=-9223372036854775808
   ·subst hm
    rw [show IntKind.wrap .i64 (0 - -9223372036854775808)=-9223372036854775808 by decide]
    omega
   ·rw [i64_in (by omega)];omega
  have no:∀ H:Hp,¬(live s ((r+1:Nat):Int)=true∧-(s.at_ (r+1)).grp=to)→H=can tsR (kR s to sg (s.at_ n.toNat).usr (r+1)).1→_:=fun H hh e=>leaf (kR s to sg (s.at_ n.toNat).usr (r+1)).2.2 (kR s to sg (s.at_ n.toNat).usr (r+1)).2.1 (kR s to sg (s.at_ n.toNat).usr (r+1)).1 H h12 (by rw [step,if_neg hh]) e
  have lv1:live s ((r+1:Nat):Int)=true↔(s.at_ (r+1)).num=((r+1:Nat):Int)∧(s.at_ (r+1)).en=false:=by
   rw [live_iff,Int.toNat_natCast]
   exact ⟨fun h=>⟨h.2.2.1,h.2.2.2⟩,fun h=>⟨by omega,by omega,h.1,h.2⟩⟩
  refine ⟨fun h2=>⟨h1,d0,d13,tn.1,fun h3=>⟨d0,d13,te.1,fun h4=>no _ (fun h=>?_) (canE _).symm,fun h4=>⟨d0,d13,tg.1,fun h5=>?_,fun h5=>no _ (fun h=>?_) (canE _).symm⟩⟩,fun h3=>no _ (fun h=>?_) (canE _).symm⟩,fun h2=>absurd (of_decide_eq_false h2) (by omega)⟩
  ·rw [(lv1.1 h.1).2] at h4;cases h4
  ·have h3:=eq_of_beq h3
   have h5:=eq_of_beq h5
   have hlv1:=lv1.2 ⟨h3,h4⟩
   have hg:live s ((r+1:Nat):Int)=true∧-(s.at_ (r+1)).grp=to:=⟨hlv1,(gq h3).1 h5⟩
   rw [if_pos hg] at step
   obtain ⟨p,hp⟩:=(ki.wf.there (n:=r+1) (by rw [ki.at_];omega)).2.2.2
   obtain ⟨f1,f2,f3,f4,f5⟩:=famU_facts (by omega) hp
   have ed:sgD (kR s to sg (s.at_ n.toNat).usr (r+1)).1 (r+1)=p:=by unfold sgD;rw [hp];rfl
   have sent:[some ⟨1,encU 1 (kR s to sg (s.at_ n.toNat).usr (r+1)).1⟩]++rows13 (putA (setsL encR (kR s to sg (s.at_ n.toNat).usr (r+1)).1) (r+1) (encRU [.agg (sendXU [.agg (encP p),.int .i64 sg])]))=can tsR (updS (kR s to sg (s.at_ n.toNat).usr (r+1)).1 (r+1) (some (sendX (sgD (kR s to sg (s.at_ n.toNat).usr (r+1)).1 (r+1)) sg))):=by
    rw [canE,ed,sendXU_enc,encRU_enc]
    have e1:encU 1 (updS (kR s to sg (s.at_ n.toNat).usr (r+1)).1 (r+1) (some (sendX p sg)))=encU 1 (kR s to sg (s.at_ n.toNat).usr (r+1)).1:=by
     show encW (ptrs 1 (updS (kR s to sg (s.at_ n.toNat).usr (r+1)).1 (r+1) (some (sendX p sg)))) (updS (kR s to sg (s.at_ n.toNat).usr (r+1)).1 (r+1) (some (sendX p sg)))=encW (ptrs 1 (kR s to sg (s.at_ n.toNat).usr (r+1)).1) (kR s to sg (s.at_ n.toNat).usr (r+1)).1
     rw [ptrs_updS hp];rfl
    rw [e1,show putA (setsL encR (kR s to sg (s.at_ n.toNat).usr (r+1)).1) (r+1) (encR (sendX p sg))=setsL encR (updS (kR s to sg (s.at_ n.toNat).usr (r+1)).1 (r+1) (some (sendX p sg))) from setsL_put (t:=tsR) (by omega)]
   have yes:kMy (s.at_ (r+1)) (s.at_ n.toNat).usr=true→kR s to sg (s.at_ n.toNat).usr (r+1+1)=(updS (kR s to sg (s.at_ n.toNat).usr (r+1)).1 (r+1) (some (sendX (sgD (kR s to sg (s.at_ n.toNat).usr (r+1)).1 (r+1)) sg)),true,true):=fun hm=>by rw [step,if_pos hm]
   refine ⟨dn0,dn13,tm.1,fun h6=>⟨d0,d13,(fun h=>by rw [f1] at h;cases h),fun _=>(by
   rw [f3,f4,f5,toPU_enc]
   refine ⟨f2,rfl,leB_iff.2 (by omega),rowsA_same _ 13,leB_iff.2 (by rw [setsL_len];omega),okRd_enc p,?_⟩
   exact leaf true true _ _ h12 (yes (by unfold kMy;rw [h6];rfl)) (sent))⟩,fun h6=>⟨dn0,dn13,tm.1,d0,d13,tu.1,fun h7=>⟨d0,d13,(fun h=>by rw [f1] at h;cases h),fun _=>(by
   rw [f3,f4,f5,toPU_enc]
   refine ⟨f2,rfl,leB_iff.2 (by omega),rowsA_same _ 13,leB_iff.2 (by rw [setsL_len];omega),okRd_enc p,?_⟩
   exact leaf true true _ _ h12 (yes (by unfold kMy;rw [h7,Bool.or_true])) (sent))⟩,fun h7=>?_⟩⟩
   refine leaf true (kR s to sg (s.at_ n.toNat).usr (r+1)).2.1 (kR s to sg (s.at_ n.toNat).usr (r+1)).1 _ h12 ?_ (canE _).symm
   rw [step,if_neg]
   unfold kMy;rw [h6,h7];simp
  ·have h3:=eq_of_beq h3
   exact beq_eq_false_iff_ne.1 h5 ((gq h3).2 h.2)
  ·rw [(lv1.1 h.1).1,beq_self_eq_true] at h3;cases h3
 ·have:r=12:=by have:=of_decide_eq_false h1;omega
  subst this
  exact ⟨rfl,by simp [wk,vVs,vV,vI,vB],(canE _).symm⟩
end Go.Am
namespace Go.Am
open Go.Proofs Crc
set_option maxRecDepth 100000
theorem kk_c (G:Nat→List AV) (rd rl:List AV→Bool) (pu:List AV→List AV) (tb sl tk sk:List AV) (n to sg:Int) (k1 k2:Bool) (Q:Ex→List AV→Hp→Prop) (R:AV→Hp→Prop):vT G Q R (dcall (Df Try.prog [(75,1,13)] [67,60,70] [(71,fSendS (sideQ (rd) (pu)))] [DLat 2374 (rl) 0 100 [0,1,2,3,10,11,12] (.one (.exit 0) [.undef,.undef,.undef,.undef,.bool (.var 6 k1),.bool (.var 7 k2),.undef] (hp3 [some ⟨1,.var 21 tk⟩] (.var 22 sk) []))] 14) 300 40 Try.f46 [.ptr (.rw 0) (.lit 0),.int .i64 (.var 3 n),.int .i64 (.var 4 to),.int .i64 (.var 5 sg)] (hp3 [some ⟨1,.var 1 tb⟩] (.var 2 sl) []) 14)=(
  (decide ((n:Int)≥1)=true→
 (decide ((n:Int)≤12)=true→
 decide ((0:Int)≤n)=true∧
 decide ((n:Int)<13)=true∧
 isI .i64 tb ((Int.toNat (n))*6)=true∧
 (((getI tb ((Int.toNat (n))*6):Int)==n)=true→
 decide ((0:Int)≤n)=true∧
 decide ((n:Int)<13)=true∧
 isB tb ((Int.toNat (n))*6+4)=true∧
 (getB tb ((Int.toNat (n))*6+4)=true→
 R (.int .i64 (6)) ([some ⟨1,tb⟩]++rows13 sl))∧
 (getB tb ((Int.toNat (n))*6+4)=false→
 (decide ((sg:Int)<0)=true→
 R (.int .i64 (2)) ([some ⟨1,tb⟩]++rows13 sl))∧
 (decide ((sg:Int)<0)=false→
 (decide ((sg:Int)>15)=true→
 R (.int .i64 (2)) ([some ⟨1,tb⟩]++rows13 sl))∧
 (decide ((sg:Int)>15)=false→
 (((to:Int)==0)=true→
 R (.int .i64 (2)) ([some ⟨1,tb⟩]++rows13 sl))∧
 (((to:Int)==0)=false→
 (decide ((to:Int)>0)=true→
 (decide ((to:Int)>12)=true→
 R (.int .i64 (6)) ([some ⟨1,tb⟩]++rows13 sl))∧
 (decide ((to:Int)>12)=false→
 decide ((0:Int)≤to)=true∧
 decide ((to:Int)<13)=true∧
 isI .i64 tb ((Int.toNat (to))*6)=true∧
 (((getI tb ((Int.toNat (to))*6):Int)==0)=true→
 R (.int .i64 (6)) ([some ⟨1,tb⟩]++rows13 sl))∧
 (((getI tb ((Int.toNat (to))*6):Int)==0)=false→
 decide ((0:Int)≤n)=true∧
 decide ((n:Int)<13)=true∧
 isI .i64 tb ((Int.toNat (n))*6+3)=true∧
 (((getI tb ((Int.toNat (n))*6+3):Int)==0)=true→
 decide ((0:Int)≤to)=true∧
 decide ((to:Int)<13)=true∧
 isB tb ((Int.toNat (to))*6+4)=true∧
 (getB tb ((Int.toNat (to))*6+4)=true→
 R (.int .i64 (0)) ([some ⟨1,tb⟩]++rows13 sl))∧
 (getB tb ((Int.toNat (to))*6+4)=false→
 decide ((0:Int)≤to)=true∧
 decide ((to:Int)<13)=true∧
 (isNilA tb (Int.toNat (to)+78)=true→
 False)∧
 (isNilA tb (Int.toNat (to)+78)=false→
 isPA 1 13 tb (Int.toNat (to)+78)=true∧
 Nat.beq (foA tb (Int.toNat (to)+78)) (0)=true∧
 leB (fkA 1 tb (Int.toNat (to)+78)+1) (13)=true∧
 rowsA sl (rp 13 sl)=true∧
 leB (fkA 1 tb (Int.toNat (to)+78)+1) (List.length sl)=true∧
 (rd) [.agg (rowA sl (fkA 1 tb (Int.toNat (to)+78)))]=true∧
 R (.int .i64 (0)) ([some ⟨1,tb⟩]++rows13 (putA sl (fkA 1 tb (Int.toNat (to)+78)) (encRU [.agg (sendXU [.agg ((pu) [.agg (rowA sl (fkA 1 tb (Int.toNat (to)+78)))]),.int .i64 (sg)])]))))))∧
 (((getI tb ((Int.toNat (n))*6+3):Int)==0)=false→
 decide ((0:Int)≤n)=true∧
 decide ((n:Int)<13)=true∧
 isI .i64 tb ((Int.toNat (n))*6+3)=true∧
 decide ((0:Int)≤to)=true∧
 decide ((to:Int)<13)=true∧
 isI .i64 tb ((Int.toNat (to))*6+3)=true∧
 (((getI tb ((Int.toNat (n))*6+3):Int)==getI tb ((Int.toNat (to))*6+3))=true→
 decide ((0:Int)≤to)=true∧
 decide ((to:Int)<13)=true∧
 isB tb ((Int.toNat (to))*6+4)=true∧
 (getB tb ((Int.toNat (to))*6+4)=true→
 R (.int .i64 (0)) ([some ⟨1,tb⟩]++rows13 sl))∧
 (getB tb ((Int.toNat (to))*6+4)=false→
 decide ((0:Int)≤to)=true∧
 decide ((to:Int)<13)=true∧
 (isNilA tb (Int.toNat (to)+78)=true→
 False)∧
 (isNilA tb (Int.toNat (to)+78)=false→
 isPA 1 13 tb (Int.toNat (to)+78)=true∧
 Nat.beq (foA tb (Int.toNat (to)+78)) (0)=true∧
 leB (fkA 1 tb (Int.toNat (to)+78)+1) (13)=true∧
 rowsA sl (rp 13 sl)=true∧
 leB (fkA 1 tb (Int.toNat (to)+78)+1) (List.length sl)=true∧
 (rd) [.agg (rowA sl (fkA 1 tb (Int.toNat (to)+78)))]=true∧
 R (.int .i64 (0)) ([some ⟨1,tb⟩]++rows13 (putA sl (fkA 1 tb (Int.toNat (to)+78)) (encRU [.agg (sendXU [.agg ((pu) [.agg (rowA sl (fkA 1 tb (Int.toNat (to)+78)))]),.int .i64 (sg)])]))))))∧
 (((getI tb ((Int.toNat (n))*6+3):Int)==getI tb ((Int.toNat (to))*6+3))=false→
 R (.int .i64 (8)) ([some ⟨1,tb⟩]++rows13 sl))))))∧
 (decide ((to:Int)>0)=false→
 (rl) [.agg ([.ptr (.rw 0) (0),.int .i64 (n),.int .i64 (to),.int .i64 (sg),.bool (false),.bool (false),.int .i64 (1)]:List AV),.agg ((tp3 [.tup [.int .i64 (1),.agg tb]] sl []):List AV)]=true∧
 (k1=true→
 (k2=true→
 R (.int .i64 (0)) ([some ⟨1,tk⟩]++rows13 sk))∧
 (k2=false→
 R (.int .i64 (8)) ([some ⟨1,tk⟩]++rows13 sk)))∧
 (k1=false→
 R (.int .i64 (6)) ([some ⟨1,tk⟩]++rows13 sk))))))))∧
 (((getI tb ((Int.toNat (n))*6):Int)==n)=false→
 R (.int .i64 (6)) ([some ⟨1,tb⟩]++rows13 sl)))∧
 (decide ((n:Int)≤12)=false→
 R (.int .i64 (6)) ([some ⟨1,tb⟩]++rows13 sl)))∧
 (decide ((n:Int)≥1)=false→
 R (.int .i64 (6)) ([some ⟨1,tb⟩]++rows13 sl))):=by kernel_rfl
end Go.Am
namespace Go.Am
open Go.Proofs Crc
set_option maxRecDepth 100000
theorem kR_0 {s:Ptb} (hw:Wf s) (to sg me:Int):kR s to sg me (0+1)=(s,false,false):=by
 show (if 0<(s.at_ 0).num then _ else _)=_
 rw [if_neg]
 ·rfl
 ·rw [(hw.z 0 (.inl rfl)).1];show ¬(0:Int)<0;omega
theorem kk_loop0 (G:Nat→List AV) (B:Nat) {s:Ptb} (hw:Wf s) {n:Int} (hl:live s n=true) {to sg:Int} (hto:to<0) (hmin:-9223372036854775808≤to) :
  AWp (⟨Try.prog,G,B⟩:Ctx) 14 (.loop (loopN Try.f46 0)) (fl 100 [0,1,2,3,10,11,12] [.ptr (.rw 0) 0,.int .i64 n,.int .i64 to,.int .i64 sg,.bool false,.bool false,.int .i64 1]) (vHp G (hp3 [some ⟨1,.var 1 (encU 1 s)⟩] (.var 2 (setsL encR s)) [])) (lv 100 [0,1,2,3,10,11,12] (LOut.post G 14 (.one (.exit 0) [.undef,.undef,.undef,.undef,.bool (.var 6 (kR s to sg (s.at_ n.toNat).usr 13).2.2),.bool (.var 7 (kR s to sg (s.at_ n.toNat).usr 13).2.1),.undef] (hp3 [some ⟨1,.var 21 (encU 1 (kR s to sg (s.at_ n.toNat).usr 13).1)⟩] (.var 22 (setsL encR (kR s to sg (s.at_ n.toNat).usr 13).1)) [])))):=by
 have h:=kk_loop G B hw hl (sg:=sg) hto hmin
 rw [kR_0 hw] at h
 rw [hU]
 refine h.lmono ?_
 rintro e vs H ⟨rfl,h1,rfl⟩
 exact ⟨rfl,.inl ⟨h1,(hU G (kR s to sg (s.at_ n.toNat).usr 13).1).symm⟩⟩
theorem kMy_iff {x:Pc} {me:Int}:kMy x me=true↔me=0∨me=x.usr:=by
 unfold kMy;simp
theorem r_killQ (G:Nat→List AV) (B:Nat) {s:Ptb} (hw:Wf s) (n to sg:Int) (q:List AV→Bool) (hd:DGood (⟨Try.prog,G,B⟩:Ctx) (Df Try.prog [(75,1,13)] [67,60,70] [(71,fSendS sideD)] [DLat 2374 q 0 100 [0,1,2,3,10,11,12] (.one (.exit 0) [.undef,.undef,.undef,.undef,.bool (.var 6 (kR s to sg (s.at_ n.toNat).usr 13).2.2),.bool (.var 7 (kR s to sg (s.at_ n.toNat).usr 13).2.1),.undef] (hp3 [some ⟨1,.var 21 (encU 1 (kR s to sg (s.at_ n.toNat).usr 13).1)⟩] (.var 22 (setsL encR (kR s to sg (s.at_ n.toNat).usr 13).1)) []))] 14) (loopsOf (bodyOf Try.f46))) (hq:live s n=true→to<0→q [.agg [.ptr (.rw 0) 0,.int .i64 n,.int .i64 to,.int .i64 sg,.bool false,.bool false,.int .i64 1],.agg (encHB (vHp G (hp3 [some ⟨1,.var 1 (encU 1 s)⟩] (.var 2 (setsL encR s)) [])))]=true):ACalls (⟨Try.prog,G,B⟩:Ctx) 46 [.ptr (.rw 0) 0,.int .i64 n,.int .i64 to,.int .i64 sg] (can tsR s) fun v H'=>v=.int .i64 (killE s n to sg)∧H'=can tsR (killX s n to sg):=by
 have h:=dcall_ok (C:=(⟨Try.prog,G,B⟩:Ctx)) (K:=Df Try.prog [(75,1,13)] [67,60,70] [(71,fSendS sideD)] [DLat 2374 q 0 100 [0,1,2,3,10,11,12] (.one (.exit 0) [.undef,.undef,.undef,.undef,.bool (.var 6 (kR s to sg (s.at_ n.toNat).usr 13).2.2),.bool (.var 7 (kR s to sg (s.at_ n.toNat).usr 13).2.1),.undef] (hp3 [some ⟨1,.var 21 (encU 1 (kR s to sg (s.at_ n.toNat).usr 13).1)⟩] (.var 22 (setsL encR (kR s to sg (s.at_ n.toNat).usr 13).1)) []))] 14) (fuel:=300) (n0:=40) (f:=46) (fn:=Try.f46) (args:=[.ptr (.rw 0) (.lit 0),.int .i64 (.var 3 n),.int .i64 (.var 4 to),.int .i64 (.var 5 sg)]) (H:=(hp3 [some ⟨1,.var 1 (encU 1 s)⟩] (.var 2 (setsL encR s)) [])) (keep:=14)
  (R:=fun v H=>v=.int .i64 (killE s n to sg)∧Seen tsR (killX s n to sg) 13 H) hd (by kernel_rfl) (by kernel_rfl) (by kernel_rfl) (by
  unfold sideD
  rw [kk_c]
  refine liveU_tree 1 (fun hl=>?_) fun hl=>?_
  ·have hlv:=live_iff.1 hl
   have bad:killG to sg=true→(AV.int .i64 2=.int .i64 (killE s n to sg)∧Seen tsR (killX s n to sg) 13 (some ⟨1,encU 1 s⟩::(List.range 13).map fun n=>some ⟨1,rowA (setsL encR s) n⟩)):=fun hg=>by
    unfold killE killX
    rw [if_pos hl,if_pos hl,if_pos hg,if_pos hg];exact ⟨rfl,seenU_same⟩
   refine ⟨fun h1=>bad ?_,fun h1=>⟨fun h2=>bad ?_,fun h2=>⟨fun h3=>bad ?_,fun h3=>?_⟩⟩⟩
   ·unfold killG;rw [h1];rfl
   ·unfold killG;rw [h2];simp
   ·unfold killG;rw [h3];simp
   have hg:¬killG to sg=true:=by unfold killG;rw [h1,h2,h3];simp
   have t0:to≠0:=fun e=>by rw [e] at h3;cases h3
   have eE:killE s n to sg=if (kR s to sg (s.at_ n.toNat).usr 13).2.2=true then (if (kR s to sg (s.at_ n.toNat).usr 13).2.1=true then 0 else 8) else 6:=by
    unfold killE killU;rw [if_pos hl,if_neg hg]
   have eX:killX s n to sg=(kR s to sg (s.at_ n.toNat).usr 13).1:=by
    unfold killX killU;rw [if_pos hl,if_neg hg]
   have tm:=U_usr (b:=1) (s:=s) (n:=n.toNat) (by omega)
   have dn0:decide ((0:Int)≤n)=true:=decide_eq_true (by omega)
   have dn13:decide (n<13)=true:=decide_eq_true (by omega)
   refine ⟨fun h4=>?_,fun h4=>?_⟩
   ·have h4:=of_decide_eq_true h4
    have one:=kR_one hw (sg:=sg) (me:=(s.at_ n.toNat).usr) (show 0<to by omega)
    have none:¬(to≤12∧(s.at_ to.toNat).num≠0)→(AV.int .i64 6=.int .i64 (killE s n to sg)∧Seen tsR (killX s n to sg) 13 (some ⟨1,encU 1 s⟩::(List.range 13).map fun n=>some ⟨1,rowA (setsL encR s) n⟩)):=fun hh=>by
     rw [eE,eX,one,if_neg hh];exact ⟨rfl,seenU_same⟩
    refine ⟨fun h5=>none ?_,fun h5=>?_⟩
    ·have:=of_decide_eq_true h5;omega
    have h5:=of_decide_eq_false h5
    have t1:to≤12:=by omega
    have d0:decide ((0:Int)≤to)=true:=decide_eq_true (by omega)
    have d13:decide (to<13)=true:=decide_eq_true (by omega)
    have tn:=U_num (b:=1) (s:=s) (n:=to.toNat) (by omega)
    have te:=U_en (b:=1) (s:=s) (n:=to.toNat) (by omega)
    have tu:=U_usr (b:=1) (s:=s) (n:=to.toNat) (by omega)
    rw [tn.2,te.2,tu.2,tm.2]
    refine ⟨d0,d13,tn.1,fun h6=>none ?_,fun h6=>?_⟩
    ·have:=eq_of_beq h6;omega
    have h6:(s.at_ to.toNat).num≠0:=beq_eq_false_iff_ne.1 h6
    rw [if_pos ⟨t1,h6⟩] at one
    obtain ⟨p,hp⟩:=(hw.there h6).2.2.2
    obtain ⟨f1,f2,f3,f4,f5⟩:=famU_facts (by omega) hp
    have ed:sgD s to.toNat=p:=by unfold sgD;rw [hp];rfl
    have yes:kMy (s.at_ to.toNat) (s.at_ n.toNat).usr=true→((s.at_ to.toNat).en=true→(AV.int .i64 0=.int .i64 (killE s n to sg)∧Seen tsR (killX s n to sg) 13 (some ⟨1,encU 1 s⟩::(List.range 13).map fun n=>some ⟨1,rowA (setsL encR s) n⟩)))∧
      ((s.at_ to.toNat).en=false→∀ l,l=encR (sendX p sg)→(AV.int .i64 0=.int .i64 (killE s n to sg)∧Seen tsR (killX s n to sg) 13 (some ⟨1,encU 1 s⟩::(List.range 13).map fun j=>some ⟨1,rowA (putA (setsL encR s) to.toNat l) j⟩))):=fun hm=>by
     rw [eE,eX,one,if_pos hm]
     refine ⟨fun he=>?_,fun he l hl'=>?_⟩
     ·rw [if_pos he];exact ⟨rfl,seenU_same⟩
     ·rw [if_neg (show ¬(s.at_ to.toNat).en=true by rw [he];simp),ed];exact ⟨rfl,seenU_updS hp hl'⟩
    have send:∀ (hm:kMy (s.at_ to.toNat) (s.at_ n.toNat).usr=true),_:=fun hm=>(yes hm).2
    refine ⟨dn0,dn13,tm.1,fun h7=>⟨d0,d13,te.1,(yes (kMy_iff.2 (.inl (eq_of_beq h7)))).1,fun h8=>⟨d0,d13,(fun h=>by rw [f1] at h;cases h),fun _=>(by
      rw [f3,f4,f5,toPU_enc]
      refine ⟨f2,rfl,leB_iff.2 (by omega),rowsA_same _ 13,leB_iff.2 (by rw [setsL_len];omega),okRd_enc p,?_⟩
      exact (yes (kMy_iff.2 (.inl (eq_of_beq h7)))).2 h8 _ (by rw [sendXU_enc,encRU_enc]))⟩⟩,
     fun h7=>⟨dn0,dn13,tm.1,d0,d13,tu.1,fun h9=>⟨d0,d13,te.1,(yes (kMy_iff.2 (.inr (eq_of_beq h9)))).1,fun h8=>⟨d0,d13,(fun h=>by rw [f1] at h;cases h),fun _=>(by
      rw [f3,f4,f5,toPU_enc]
      refine ⟨f2,rfl,leB_iff.2 (by omega),rowsA_same _ 13,leB_iff.2 (by rw [setsL_len];omega),okRd_enc p,?_⟩
      exact (yes (kMy_iff.2 (.inr (eq_of_beq h9)))).2 h8 _ (by rw [sendXU_enc,encRU_enc]))⟩⟩,fun h9=>?_⟩⟩
    have hm:¬kMy (s.at_ to.toNat) (s.at_ n.toNat).usr=true:=fun h=>by
     rcases kMy_iff.1 h with h | h
     ·rw [h] at h7;cases h7
     ·rw [h,beq_self_eq_true] at h9;cases h9
    rw [eE,eX,one,if_neg hm];exact ⟨rfl,seenU_same⟩
   ·have h4:=of_decide_eq_false h4
    refine ⟨hq hl (by omega),fun k1=>⟨fun k2=>?_,fun k2=>?_⟩,fun k1=>?_⟩
    ·rw [eE,eX,if_pos k1,if_pos k2];exact ⟨rfl,seenU_same⟩
    ·rw [eE,eX,if_pos k1,if_neg (by rw [k2];simp)];exact ⟨rfl,seenU_same⟩
    ·rw [eE,eX,if_neg (by rw [k1];simp)];exact ⟨rfl,seenU_same⟩
  ·unfold killE killX
   rw [hl];exact ⟨rfl,seenU_same⟩)
 rw [hU] at h
 exact pm_stay tsR_ok h rfl
theorem r_kill (G:Nat→List AV) (B:Nat) {s:Ptb} (hw:Wf s) (n to sg:Int) (hmin:-9223372036854775808≤to):ACalls (⟨Try.prog,G,B⟩:Ctx) 46 [.ptr (.rw 0) 0,.int .i64 n,.int .i64 to,.int .i64 sg] (can tsR s) fun v H'=>v=.int .i64 (killE s n to sg)∧H'=can tsR (killX s n to sg):=by
 have base:∀ (q:List AV→Bool) (hl:DLoopOk (⟨Try.prog,G,B⟩:Ctx) 14 (loopN Try.f46 0) (DLat 2374 q 0 100 [0,1,2,3,10,11,12] (.one (.exit 0) [.undef,.undef,.undef,.undef,.bool (.var 6 (kR s to sg (s.at_ n.toNat).usr 13).2.2),.bool (.var 7 (kR s to sg (s.at_ n.toNat).usr 13).2.1),.undef] (hp3 [some ⟨1,.var 21 (encU 1 (kR s to sg (s.at_ n.toNat).usr 13).1)⟩] (.var 22 (setsL encR (kR s to sg (s.at_ n.toNat).usr 13).1)) [])))),DGood (⟨Try.prog,G,B⟩:Ctx) (Df Try.prog [(75,1,13)] [67,60,70] [(71,fSendS sideD)] [DLat 2374 q 0 100 [0,1,2,3,10,11,12] (.one (.exit 0) [.undef,.undef,.undef,.undef,.bool (.var 6 (kR s to sg (s.at_ n.toNat).usr 13).2.2),.bool (.var 7 (kR s to sg (s.at_ n.toNat).usr 13).2.1),.undef] (hp3 [some ⟨1,.var 21 (encU 1 (kR s to sg (s.at_ n.toNat).usr 13).1)⟩] (.var 22 (setsL encR (kR s to sg (s.at_ n.toNat).usr 13).1)) []))] 14) (loopsOf (bodyOf Try.f46)):=fun q hl=>
  dgoodf (mix G B) (by kernel_rfl) (.cons (fSendS_ok (sideD_ok G) (r_send' G B)) .nil) (.cast (.cons (i:=0) (by kernel_rfl) rfl hl .nil) (by kernel_rfl))
 by_cases hc:live s n=true∧to<0
 ·exact r_killQ G B hw n to sg (isSt [.ptr (.rw 0) 0,.int .i64 n,.int .i64 to,.int .i64 sg,.bool false,.bool false,.int .i64 1] (vHp G (hp3 [some ⟨1,.var 1 (encU 1 s)⟩] (.var 2 (setsL encR s)) []))) (base _ (DLat_okC rfl (kk_loop0 G B hw hc.1 hc.2 hmin))) fun _ _=>isSt_refl
 ·exact r_killQ G B hw n to sg (fun _=>false) (base _ (DLat_ok (cb:=false) (vs0:=[.ptr (.rw 0) 0,.int .i64 n,.int .i64 to,.int .i64 sg,.bool false,.bool false,.int .i64 1]) (H0:=[]) rfl fun h=>by cases h)) fun h1 h2=>absurd ⟨h1,h2⟩ hc
end Go.Am
namespace Go.Am
open Go.Proofs Crc
set_option maxRecDepth 100000
theorem ku_b (G:Nat→List AV) (tb sl ys:List AV) (n:Int) (c i:Nat) (Q:Ex→List AV→Hp→Prop) (R:AV→Hp→Prop):vT G Q R (dloop (Dc Try.prog [] [] [] 0) 300 40 14 (loopN Try.f61 0) 44 [0,1,4,5,6] [.ptr (.rw 0) (.lit 0),.int .i64 (.var 3 n),.nils,.slice true (.rw 14) (.lit 0) (.var 6 c),.int .i64 (.ofN (.var 8 i))] (hp3 [some ⟨1,.var 1 tb⟩] (.var 2 sl) [some ⟨1,.var 22 ys⟩]))=(
  (decide ((((i:Nat):Int):Int)≤12)=true→
 (decide ((n:Int)≥1)=true→
 decide ((0:Int)≤((i:Nat):Int))=true∧
 decide ((((i:Nat):Int):Int)<13)=true∧
 isI .i64 tb ((i)*6)=true∧
 (((getI tb ((i)*6):Int)==((i:Nat):Int))=true→
 decide ((0:Int)≤((i:Nat):Int))=true∧
 decide ((((i:Nat):Int):Int)<13)=true∧
 isI .i64 tb ((i)*6+1)=true∧
 (((getI tb ((i)*6+1):Int)==n)=true→
 leB ((c+1)*8) (140737488355328)=true∧
 Nat.beq (List.length ys) (c)=true∧
 Q .normal [.ptr (.rw 0) (0),.int .i64 (n),.nils,.slice true (.rw 16) (0) (c+1),.int .i64 (IntKind.wrap .i64 (((i:Nat):Int)+1))] ([some ⟨1,tb⟩]++(rows13 sl++([none,some ⟨1,([.int .i64 (((i:Nat):Int))]:List AV)⟩,some ⟨1,(ys++([.int .i64 (((i:Nat):Int))]:List AV))⟩]))))∧
 (((getI tb ((i)*6+1):Int)==n)=false→
 Q .normal [.ptr (.rw 0) (0),.int .i64 (n),.nils,.slice true (.rw 14) (0) (c),.int .i64 (IntKind.wrap .i64 (((i:Nat):Int)+1))] ([some ⟨1,tb⟩]++(rows13 sl++[some ⟨1,ys⟩]))))∧
 (((getI tb ((i)*6):Int)==((i:Nat):Int))=false→
 Q .normal [.ptr (.rw 0) (0),.int .i64 (n),.nils,.slice true (.rw 14) (0) (c),.int .i64 (IntKind.wrap .i64 (((i:Nat):Int)+1))] ([some ⟨1,tb⟩]++(rows13 sl++[some ⟨1,ys⟩]))))∧
 (decide ((n:Int)≥1)=false→
 Q (.exit 0) [.ptr (.rw 0) (0),.int .i64 (n),.nils,.slice true (.rw 14) (0) (c),.int .i64 (((i:Nat):Int))] ([some ⟨1,tb⟩]++(rows13 sl++[some ⟨1,ys⟩]))))∧
 (decide ((((i:Nat):Int):Int)≤12)=false→
 Q (.exit 0) [.ptr (.rw 0) (0),.int .i64 (n),.nils,.slice true (.rw 14) (0) (c),.int .i64 (((i:Nat):Int))] ([some ⟨1,tb⟩]++(rows13 sl++[some ⟨1,ys⟩])))):=by kernel_rfl
theorem ku_c (G:Nat→List AV) (rl:List AV→Bool) (tb sl ys:List AV) (n:Int) (c:Nat) (Q:Ex→List AV→Hp→Prop) (R:AV→Hp→Prop):vT G Q R (dcall (Dc Try.prog [] [] [DLat 2371 (rl) 0 44 [0,1,4,5,6] (.one (.exit 0) [.undef,.undef,.undef,.slice true (.rw 14) (.lit 0) (.var 6 c),.undef] (hp3 [some ⟨1,.var 1 tb⟩] (.var 2 sl) [some ⟨1,.var 22 ys⟩]))] 14) 300 40 Try.f61 [.ptr (.rw 0) (.lit 0),.int .i64 (.var 3 n)] (hp3 [some ⟨1,.var 1 tb⟩] (.var 2 sl) []) 15)=(
  (rl) [.agg ([.ptr (.rw 0) (0),.int .i64 (n),.nils,.nils,.int .i64 (1)]:List AV),.agg ((tp3 [.tup [.int .i64 (1),.agg tb]] sl []):List AV)]=true∧
 R (.slice true (.rw 14) (0) (c)) ([some ⟨1,tb⟩]++(rows13 sl++[some ⟨1,ys⟩]))):=by kernel_rfl
end Go.Am
namespace Go.Am
open Go.Proofs Crc
set_option maxRecDepth 100000
theorem hUL (G:Nat→List AV) (s:Ptb) (ys:List AV):vHp G (hp3 [some ⟨1,.var 1 (encU 1 s)⟩] (.var 2 (setsL encR s)) [some ⟨1,.var 22 ys⟩])=can tsR s++[some ⟨1,ys⟩]:=by
 rw [←hp_can (t:=tsR) (s:=s)];rfl
def hpKu (s:Ptb) (n:Int) (i:Nat):Hp:=can tsR s++[some ⟨1,nl (kidT s n i)⟩]
theorem hpKu_len {s:Ptb} {n:Int} {i:Nat}:(hpKu s n i).length=15:=by simp [hpKu,can_len]
theorem hpKu_bnd {s:Ptb} {n:Int} {i m:Nat} (h:14≤m):hpB m (hpKu s n i)=true:=by
 unfold hpKu
 exact hpB_app (canB_hpB tsR_ok (s:=s) (b:=1) (by omega)) (by simp only [hpB,bm (nl_flat 0 _),Bool.and_self])
theorem ku_app {s:Ptb} {n:Int} {i:Nat} {m:Int} {ks:List Nat} (b:Option Blk) (hk:kidT s n i=ks):View 14 [.ptr (.rw 0) 0,.int .i64 n,.nils,.slice true (.rw 14) 0 ks.length,.int .i64 m] (hpKu s n i) [.ptr (.rw 0) 0,.int .i64 n,.nils,.slice true (.rw 16) 0 ks.length,.int .i64 m] (can tsR s++[none,b,some ⟨1,nl ks⟩]):=by
 subst hk
 refine View.fn (N:=15) (fun j=>if j=14 then 16 else j) hpKu_len (by omega) (fun j hj=>if_neg (by omega)) (fun i j hi hj h=>?_) (fun j hj=>?_) rfl ?_
 ·by_cases a:i=14
  ·by_cases b:j=14
   ·omega
   ·rw [if_pos a,if_neg b] at h;omega
  ·by_cases b:j=14
   ·rw [if_neg a,if_pos b] at h;omega
   ·rw [if_neg a,if_neg b] at h;exact h
 ·have th:∀ j,j<15→((List.range 15).map fun j=>if j=14 then 16 else j).getD j 0=if j=14 then 16 else j:=fun j hj=>thF_get hj
  by_cases h14:j=14
  ·subst h14
   rw [if_pos rfl]
   unfold hpKu
   rw [List.getElem?_append_right (by rw [can_len];omega),can_len,List.getElem?_append_right (by rw [can_len];omega),can_len]
   refine ⟨_,_,rfl,rfl,rfl,bm (nl_flat 0 _),.inr ?_⟩
   exact (rens_flat _ _ (nl_flat 0 _)).symm
  ·rw [if_neg h14]
   unfold hpKu
   rw [List.getElem?_append_left (by rw [can_len];omega),List.getElem?_append_left (by rw [can_len];omega)]
   cases j with
   | zero=>
    refine ⟨_,_,rfl,rfl,rfl,tsR_ok.bnd 15 (ptrs 1 s) s fun n hn=>bnd_ptrs' (by omega),.inr ?_⟩
    exact (ren_tab tsR_ok (b:=1) (b':=1) fun n hn=>by rw [th _ (by omega),if_neg (by omega)]).symm
   | succ k=>
    have hg:(can tsR s)[k+1]?=some (some ⟨1,blkO encR (s.sg k)⟩):=canB_get (t:=tsR) (p:=ptrs 1 s) (s:=s) (s':=s) (by omega)
    exact ⟨_,_,hg,hg,rfl,blkO_bnd tsR_ok _ _,.inr (rens_flat' tsR_ok _ _).symm⟩
 ·simp only [rens,ren]
  rw [show ((List.range 15).map fun j=>if j=14 then 16 else j).getD 0 0=0 from rfl,show ((List.range 15).map fun j=>if j=14 then 16 else j).getD 14 0=16 from rfl]
  simp [wk]
end Go.Am
namespace Go.Am
open Go.Proofs Crc
set_option maxRecDepth 100000
theorem ku_loop (G:Nat→List AV) (B:Nat) {s:Ptb} (hw:Wf s) (n:Int) :
  AWp (⟨Try.prog,G,B⟩:Ctx) 14 (.loop (loopN Try.f61 0)) (fl 44 [0,1,4,5,6] [.ptr (.rw 0) 0,.int .i64 n,.nils,.slice true (.rw 14) 0 (kidT s n 1).length,.int .i64 ((0+1:Nat):Int)]) (hpKu s n (0+1)) (lv 44 [0,1,4,5,6] fun e vs H=>e=.exit 0∧wk [.undef,.undef,.undef,.slice true (.rw 14) 0 (kidT s n 13).length,.undef] vs∧H=hpKu s n 13):=by
 refine scan 12 (fun r=>[.ptr (.rw 0) 0,.int .i64 n,.nils,.slice true (.rw 14) 0 (kidT s n (r+1)).length,.int .i64 ((r+1:Nat):Int)]) (fun r=>hpKu s n (r+1)) fun r hr=>?_
 have eH:hpKu s n (r+1)=vHp G (hp3 [some ⟨1,.var 1 (encU 1 s)⟩] (.var 2 (setsL encR s)) [some ⟨1,.var 22 (nl (kidT s n (r+1)))⟩]):=by rw [hUL];rfl
 rw [eH]
 refine dloop_ok (C:=(⟨Try.prog,G,B⟩:Ctx)) (K:=Dc Try.prog [] [] [] 0) (by rw [show loopsOf (loopN Try.f61 0)=[] by kernel_rfl];exact dgood (mix G B) (by kernel_rfl) .nil .nil) (fuel:=300) (n0:=40) (m:=14) (c:=loopN Try.f61 0)
  (vs:=[.ptr (.rw 0) (.lit 0),.int .i64 (.var 3 n),.nils,.slice true (.rw 14) (.lit 0) (.var 6 (kidT s n (r+1)).length),.int .i64 (.ofN (.var 8 (r+1)))]) (H:=(hp3 [some ⟨1,.var 1 (encU 1 s)⟩] (.var 2 (setsL encR s)) [some ⟨1,.var 22 (nl (kidT s n (r+1)))⟩])) (Nat.le_of_ble_eq_true rfl) ?_
 rw [ku_b]
 have hle:=kidT_len s n (r+1)
 have nx:∀ v:Int,r+1≤12→v=IntKind.wrap .i64 (((r+1:Nat):Int)+1)→v=((r+1+1:Nat):Int):=fun v h e=>by rw [e,i64_in (by omega)];omega
 have same:∀ (H:Hp),r+1≤12→kidB s n (r+1)=false→H=vHp G (hp3 [some ⟨1,.var 1 (encU 1 s)⟩] (.var 2 (setsL encR s)) [some ⟨1,.var 22 (nl (kidT s n (r+1)))⟩])→(r<12∧((([.ptr (.rw 0) 0,.int .i64 n,.nils,.slice true (.rw 14) 0 (kidT s n (r+1)).length,.int .i64 (IntKind.wrap .i64 (((r+1:Nat):Int)+1))]:List AV)=[.ptr (.rw 0) 0,.int .i64 n,.nils,.slice true (.rw 14) 0 (kidT s n (r+1+1)).length,.int .i64 ((r+1+1:Nat):Int)]∧H=hpKu s n (r+1+1))∨View 14 [.ptr (.rw 0) 0,.int .i64 n,.nils,.slice true (.rw 14) 0 (kidT s n (r+1+1)).length,.int .i64 ((r+1+1:Nat):Int)] (hpKu s n (r+1+1)) [.ptr (.rw 0) 0,.int .i64 n,.nils,.slice true (.rw 14) 0 (kidT s n (r+1)).length,.int .i64 (IntKind.wrap .i64 (((r+1:Nat):Int)+1))] H)):=fun H h hb e=>by
  have ek:kidT s n (r+1+1)=kidT s n (r+1):=by rw [kidT_succ,hb];simp
  refine ⟨by omega,.inl ⟨?_,?_⟩⟩
  ·rw [ek,nx _ h rfl]
  ·rw [e,←eH];unfold hpKu;rw [ek]
 refine ⟨fun h1=>⟨fun h2=>?_,fun h2=>?_⟩,fun h1=>?_⟩
 ·have h12:r+1≤12:=by have:=of_decide_eq_true h1;omega
  have t:=U_num (b:=1) (s:=s) (n:=r+1) (by omega)
  have t2:=U_par (b:=1) (s:=s) (n:=r+1) (by omega)
  rw [t.2,t2.2]
  refine ⟨decide_eq_true (by omega),decide_eq_true (by omega),t.1,fun h3=>⟨decide_eq_true (by omega),decide_eq_true (by omega),t2.1,fun h4=>⟨leB_iff.2 (by omega),by rw [nl_length];exact Nat.beq_refl _,?_⟩,fun h4=>?_⟩,fun h3=>?_⟩
  ·have hb:kidB s n (r+1)=true:=by
    have h3:=eq_of_beq h3
    unfold kidB kidC
    rw [show ((s.at_ (r+1)).par==n)=true from h4,show decide (n≥1)=true from h2,show decide (0<(s.at_ (r+1)).num)=true from decide_eq_true (by omega)];rfl
   have ek:kidT s n (r+1+1)=kidT s n (r+1)++[r+1]:=by rw [kidT_succ,hb];rfl
   have v:=ku_app (s:=s) (n:=n) (i:=r+1+1) (m:=((r+1+1:Nat):Int)) (some ⟨1,[.int .i64 ((r+1:Nat):Int)]⟩) ek
   refine ⟨by omega,.inr ?_⟩
   rw [nx _ h12 rfl]
   rw [ek]
   rw [nl_append,List.length_append] at v
   have e0:can tsR s=some ⟨1,encU 1 s⟩::rows13 (setsL encR s):=(hp_can (t:=tsR) (s:=s)).symm
   rw [e0] at v
   rw [List.length_append]
   exact v
  ·refine same _ h12 ?_ rfl
   unfold kidB kidC
   rw [show ((s.at_ (r+1)).par==n)=false from h4,Bool.and_false,Bool.and_false]
  ·refine same _ h12 ?_ rfl
   have h0:(s.at_ (r+1)).num=0:=by
    by_cases e:(s.at_ (r+1)).num=0
    ·exact e
    ·have:=(hw.there e).1
     rw [this,beq_self_eq_true] at h3;cases h3
   unfold kidB
   rw [h0];rfl
 ·have hz:∀ i,kidT s n i=[]:=fun i=>by
   unfold kidT
   rw [List.filter_eq_nil_iff]
   intro c _ hc
   unfold kidB kidC at hc
   rw [show decide (n≥1)=false from h2,Bool.false_and,Bool.and_false] at hc
   cases hc
  refine ⟨rfl,?_,?_⟩
  ·show wk _ [_,_,_,AV.slice true (.rw 14) 0 (kidT s n (r+1)).length,_]
   rw [hz,hz];simp [wk]
  ·have e:hpKu s n 13=hpKu s n (r+1):=by unfold hpKu;rw [hz,hz]
   rw [e,eH];rfl
 ·have hr12:r=12:=by have:=of_decide_eq_false h1;omega
  subst hr12
  exact ⟨rfl,by simp [wk,vVs,vV,vR,vN,vI],by rw [eH];rfl⟩
theorem kid1 {s:Ptb} (hw:Wf s) (n:Int):kidT s n 1=[]:=by
 have h:(s.at_ 0).num=0:=by rw [(hw.z 0 (.inl rfl)).1];rfl
 unfold kidT
 rw [List.filter_eq_nil_iff]
 intro c hc hk
 have hc:=List.mem_range.1 hc
 have:c=0:=by omega
 subst this
 unfold kidB at hk
 rw [h] at hk;cases hk
theorem ku_loop0 (G:Nat→List AV) (B:Nat) {s:Ptb} (hw:Wf s) (n:Int):AWp (⟨Try.prog,G,B⟩:Ctx) 14 (.loop (loopN Try.f61 0)) (fl 44 [0,1,4,5,6] [.ptr (.rw 0) 0,.int .i64 n,.nils,.nils,.int .i64 1]) (vHp G (hp3 [some ⟨1,.var 1 (encU 1 s)⟩] (.var 2 (setsL encR s)) [])) (lv 44 [0,1,4,5,6] (LOut.post G 14 (.one (.exit 0) [.undef,.undef,.undef,.slice true (.rw 14) (.lit 0) (.var 6 (kidT s n 13).length),.undef] (hp3 [some ⟨1,.var 1 (encU 1 s)⟩] (.var 2 (setsL encR s)) [some ⟨1,.var 22 (nl (kidT s n 13))⟩])))):=by
 have h1:=kid1 hw n
 have hl:(vHp G (hp3 [some ⟨1,.var 1 (encU 1 s)⟩] (.var 2 (setsL encR s)) [])).length=14:=by rw [vHp_length];rfl
 refine AWp.nilL [.ptr (.rw 0) 0,.int .i64 n,.nils,.slice true (.rw 14) 0 0,.int .i64 1] 1 (by rw [hl];omega) (by rw [hl];exact ⟨.inl rfl,.inl rfl,.inl rfl,.inr ⟨rfl,rfl⟩,.inl rfl,trivial⟩) ?_
 have key:=ku_loop G B hw n
 rw [h1] at key
 have e:hpKu s n (0+1)=vHp G (hp3 [some ⟨1,.var 1 (encU 1 s)⟩] (.var 2 (setsL encR s)) [])++[some ⟨1,[]⟩]:=by
  unfold hpKu
  rw [h1,hU];rfl
 rw [e] at key
 refine key.lmono ?_
 rintro ex vs H ⟨rfl,h2,rfl⟩
 exact ⟨rfl,.inl ⟨h2,(hUL G s (nl (kidT s n 13))).symm⟩⟩
theorem r_kids (G:Nat→List AV) (B:Nat) {s:Ptb} (hw:Wf s) (n:Int):ACalls (⟨Try.prog,G,B⟩:Ctx) 61 [.ptr (.rw 0) 0,.int .i64 n] (can tsR s) fun v H'=>v=.slice true (.rw 14) 0 (kidT s n 13).length∧H'=can tsR s++[some ⟨1,nl (kidT s n 13)⟩]:=by
 have h:=dcall_ok (C:=(⟨Try.prog,G,B⟩:Ctx)) (K:=Dc Try.prog [] [] [DLat 0x943 (isSt [.ptr (.rw 0) 0,.int .i64 n,.nils,.nils,.int .i64 1] (vHp G (hp3 [some ⟨1,.var 1 (encU 1 s)⟩] (.var 2 (setsL encR s)) []))) 0 44 [0,1,4,5,6] (.one (.exit 0) [.undef,.undef,.undef,.slice true (.rw 14) (.lit 0) (.var 6 (kidT s n 13).length),.undef] (hp3 [some ⟨1,.var 1 (encU 1 s)⟩] (.var 2 (setsL encR s)) [some ⟨1,.var 22 (nl (kidT s n 13))⟩]))] 14) (fuel:=300) (n0:=40) (f:=61) (fn:=Try.f61) (args:=[.ptr (.rw 0) (.lit 0),.int .i64 (.var 3 n)]) (H:=(hp3 [some ⟨1,.var 1 (encU 1 s)⟩] (.var 2 (setsL encR s)) [])) (keep:=15)
  (R:=fun v H=>v=.slice true (.rw 14) 0 (kidT s n 13).length∧H=vHp G (hp3 [some ⟨1,.var 1 (encU 1 s)⟩] (.var 2 (setsL encR s)) [some ⟨1,.var 22 (nl (kidT s n 13))⟩])) (dgood (mix G B) (by kernel_rfl) .nil (.cast (.cons (i:=0) (by kernel_rfl) rfl (DLat_okC rfl (ku_loop0 G B hw n)) .nil) (by kernel_rfl))) (by kernel_rfl) (by kernel_rfl) (by kernel_rfl) (by
  have:=ku_c G (isSt [.ptr (.rw 0) 0,.int .i64 n,.nils,.nils,.int .i64 1] (vHp G (hp3 [some ⟨1,.var 1 (encU 1 s)⟩] (.var 2 (setsL encR s)) []))) (encU 1 s) (setsL encR s) (nl (kidT s n 13)) n (kidT s n 13).length (fun _ _ _=>False) (fun v H=>v=.slice true (.rw 14) 0 (kidT s n 13).length∧H=vHp G (hp3 [some ⟨1,.var 1 (encU 1 s)⟩] (.var 2 (setsL encR s)) [some ⟨1,.var 22 (nl (kidT s n 13))⟩]))
  exact Eq.mpr this ⟨isSt_refl,rfl,rfl⟩)
 rw [hU,hUL] at h
 have hl:(can tsR s++[some (⟨1,nl (kidT s n 13)⟩:Blk)]).length=15:=by simp [can_len]
 refine ACalls.keep (k:=15) h ?_ ?_ ?_ (by simp)
 ·rw [hl,can_len];omega
 ·rw [hl]
  exact hpB_app (canB_hpB tsR_ok (s:=s) (b:=1) (by omega)) (by simp only [hpB,bm (nl_flat 0 _),Bool.and_self])
 ·rw [hl];rfl
end Go.Am
