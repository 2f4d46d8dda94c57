/-
  Two sets of the document compared, also those that are not there. Processes: the document's Same, of two tables.
-/
import Derived.Test.YtkabjomhnddnoaaPart21
import Derived.Test.YtkabjomhnddnoaaPart28
import Derived.Test.YtkabjomhnddnoaaPart24
import Derived.Test.YtkabjomhnddnoaaPart22
import Derived.Test.YtkabjomhnddnoaaPart27
namespace Go.Am
open Go.Proofs Crc
set_option maxRecDepth 100000
end Go.Am
namespace Go.Am
open Go.Proofs Crc
set_option maxRecDepth 100000
end Go.Am
namespace Go.Am
open Go.Proofs Crc
set_option maxRecDepth 100000
end Go.Am
namespace Go.Am
open Go.Proofs Crc
set_option maxRecDepth 100000
set_option maxHeartbeats 1000000
structure StepsAt (cs:List AV) (n:Nat):Prop where
 ok:okI .i64 cs 0 (n*4)=true
 rng:∀ i,i<n→-9223372036854775808≤getI cs (i*4+2)
def runX (cs:List AV):Nat→Ptb
 | 0=>new0
 | i+1=>stepX (runX cs i) (getI cs (i*4)) (getI cs (i*4+1)) (getI cs (i*4+2)) (getI cs (i*4+3))
theorem runX_wf (cs:List AV):∀ i,Wf (runX cs i)
 | 0=>new0_wf
 | i+1=>(runX_wf cs i).stepX _ _ _ _
theorem stepXU_enc {s:Ptb} (hs:thin s) {c p a b:Int}:stepXU [.agg (encX s),.agg [.int .i64 c,.int .i64 p,.int .i64 a,.int .i64 b]]=encX (stepX s c p a b):=by
 show encX (stepX (decX (encX s)) c p a b)=_
 rw [decX_enc hs]
theorem stepOk_at {cs:List AV} {n i:Nat} (h:StepsAt cs n) (hi:i<n):stepOk [.agg [.int .i64 (getI cs (i*4)),.int .i64 (getI cs (i*4+1)),.int .i64 (getI cs (i*4+2)),.int .i64 (getI cs (i*4+3))]]=true:=stepOk_iff.2 ⟨_,_,_,_,rfl,h.rng i hi⟩
theorem doD_law (G:Nat→List AV) (B:Nat):DSumOk (⟨Try.prog,G,B⟩:Ctx) 18 (doD (okObj tsP) (okObj tsR) eqXU stepOk):=doD_ok (fun s hw c p a b ha=>do_call G B hw c p a b ha)
theorem eqX_self (x:List AV):eqXU [.agg x,.agg x]=true:=eqXU_iff.2 rfl
end Go.Am
namespace Go.Am
open Go.Proofs Crc
set_option maxRecDepth 100000
theorem DLat_no {C:Ctx} {M:Nat} {c:Code} {j ex N:Nat} {live:List Nat} {o:LOut}:DLoopOk C M c (DLat j (fun _=>false) ex N live o):=by
 refine .of fun vs H o' ho n Q hQ=>?_
 simp only [DLat,Option.some.injEq] at ho
 subst ho
 exact absurd hQ.1 (by simp [vB])
end Go.Am
namespace Go.Am
open Go.Proofs Crc
set_option maxRecDepth 100000
set_option maxHeartbeats 1000000
theorem AWp.preL {C:Ctx} {m:Nat} {c:Code} {N:Nat} {live:List Nat} {vs vs':List AV} {H H':Hp} {Q:Post} (h:AWp C m c (fl N live vs) H Q) (hr:rdF live (fl N live vs')=vs') (hv:View m vs H vs' H'):AWp C m c (fl N live vs') H' Q:=by
 intro r hr' ρ a w hH hF
 obtain ⟨ρ1,g1,g2,g3,g4⟩:=hv.live (N:=N) (live:=live) (a:=a) hH hF.nod (by rw [←hF.len,fl_length]) (by rw [←hr];simp [rdF]) fun j i v q1 q2=>by
  rw [←hr] at q2
  simp only [rdF,List.getElem?_map,q1,Option.map_some,Option.some.injEq] at q2
  subst q2
  by_cases hi:i<(fl N live vs').length
  ·exact hF.val i _ (by simp [List.getD,hi])
  ·simp [List.getD,hi,VR]
 exact Code.wpIn_mono (fun e a w h=>AP.link g3 g4 h) (h r hr' ρ1 a w g1 g2)
theorem obj2 {s:Ptb} (hs:thin s):objL 1 (encX s)++objU 15 (encX s)=objs 0 [(tsP,s),(tsR,s)]:=by
 rw [show objL 1 (encX s)=_ from objL_enc hs 1,show objU 15 (encX s)=_ from objU_enc hs 15]
 simp only [objs,List.append_nil]
theorem hObj2 {s:Ptb} (hs:thin s) (G:Nat→List AV):vHp G (objD 1 (.var 5 (encX s))++objE 15 (.var 5 (encX s)))=(objs 0 [(tsP,s),(tsR,s)]):=by
 rw [←obj2 hs];rfl
theorem sgXU_enc {s:Ptb} (hs:thin s) {n:Int}:sgXU [.agg (encX s),.int .i64 n]=encP (sgD s n.toNat):=by
 show encP (sgD (decX (encX s)) _)=_
 rw [decX_enc hs]
end Go.Am
namespace Go.Am
open Go.Proofs Crc
set_option maxRecDepth 100000
set_option maxHeartbeats 1000000
theorem pg_loopA (G:Nat→List AV) (B:Nat) (k n:Nat) (nn gr sg:Int) (hk:StepsAt (G k) n):AWp (⟨Try.prog,G,B⟩:Ctx) 0 (.loop (loopN Try.f5 0)) (fl 183 [0,1,7,8,9,10,11,12] [.slice true (.ro k) 0 n,.int .i64 nn,.int .i64 gr,.int .i64 sg,.ptr (.rw 0) 0,.ptr (.rw 14) 0,.bool true,.int .i64 0]) (objs 0 [(tsP,new0),(tsR,new0)]) (lv 183 [0,1,7,8,9,10,11,12] (LOut.post G 0 (.one (.exit 0) [.undef,.int .i64 (.var 21 nn),.int .i64 (.var 7 gr),.int .i64 (.var 8 sg),.ptr (.rw 0) (.lit 0),.ptr (.rw 14) (.lit 0),.bool (.lit true),.undef] (objD 1 (.var 5 (encX (runX (G k) (min n 100))))++objE 15 (.var 5 (encX (runX (G k) (min n 100)))))))):=by
 refine scan (min n 100) (fun i=>[.slice true (.ro k) 0 n,.int .i64 nn,.int .i64 gr,.int .i64 sg,.ptr (.rw 0) 0,.ptr (.rw 14) 0,.bool true,.int .i64 (i:Int)]) (fun i=>objs 0 [(tsP,(runX (G k) i)),(tsR,(runX (G k) i))]) fun i hi=>?_
 have hw:=runX_wf (G k) i
 have hw1:=runX_wf (G k) (i+1)
 rw [←hObj2 hw.thin G]
 refine dloop_ok (C:=(⟨Try.prog,G,B⟩:Ctx)) (K:=Dc Try.prog [] [(18,doD (okObj tsP) (okObj tsR) eqXU stepOk)] [] 0) (fuel:=600) (n0:=20) (m:=0) (c:=loopN Try.f5 0)
  (vs:=[.slice true (.ro (.var 2 k)) (.lit 0) (.var 3 n),.int .i64 (.var 21 nn),.int .i64 (.var 7 gr),.int .i64 (.var 8 sg),.ptr (.rw 0) (.lit 0),.ptr (.rw 14) (.lit 0),.bool (.lit true),.int .i64 (.ofN (.var 4 i))]) (H:=(objD 1 (.var 5 (encX (runX (G k) i)))++objE 15 (.var 5 (encX (runX (G k) i))))) (by
   rw [show loopsOf (loopN Try.f5 0)=[] by kernel_rfl]
   exact dgood (mix G B) (by kernel_rfl) (.cons (doD_law G B) .nil) .nil) (Nat.zero_le _) ?_
 rw [pg_a]
 have out:¬(i<n∧i<100)→LOut.post G 0 (.one (.exit 0) [.undef,.int .i64 (.var 21 nn),.int .i64 (.var 7 gr),.int .i64 (.var 8 sg),.ptr (.rw 0) (.lit 0),.ptr (.rw 14) (.lit 0),.bool (.lit true),.undef] (objD 1 (.var 5 (encX (runX (G k) (min n 100))))++objE 15 (.var 5 (encX (runX (G k) (min n 100)))))) (.exit 0) [.slice true (.ro k) 0 n,.int .i64 nn,.int .i64 gr,.int .i64 sg,.ptr (.rw 0) 0,.ptr (.rw 14) 0,.bool true,.int .i64 (i:Int)] (objL 1 (encX (runX (G k) i))++objU 15 (encX (runX (G k) i))):=fun h=>by
  have e:i=min n 100:=by omega
  subst e
  exact ⟨rfl,.inl ⟨by simp [wk,vVs,vV,vR,vN,vB,vI],rfl⟩⟩
 refine ⟨fun h1=>⟨fun h2=>?_,fun h2=>out fun h=>by have:=of_decide_eq_false h2;omega⟩,fun h1=>out fun h=>by have:=of_decide_eq_false h1;omega⟩
 have h1':i<n:=by have:=of_decide_eq_true h1;omega
 have h2':i<100:=by have:=of_decide_eq_true h2;omega
 have eS:stepXU [.agg (encX (runX (G k) i)),.agg [.int .i64 (getI (G k) (i*4)),.int .i64 (getI (G k) (i*4+1)),.int .i64 (getI (G k) (i*4+2)),.int .i64 (getI (G k) (i*4+3))]]=encX (runX (G k) (i+1)):=stepXU_enc hw.thin
 rw [eS]
 refine ⟨decide_eq_true (by omega),h1,leafs4 hk.ok h1',okO hw 1,okOU hw 15,eqX_self _,stepOk_at hk h1',by omega,.inr ?_⟩
 rw [i64_in (by omega)]
 refine View.objs (m:=0) (os:=[(tsP,(runX (G k) (i+1))),(tsR,(runX (G k) (i+1)))]) (pl:=[(28,29),(42,43)]) (Nat.zero_le _) ⟨tsP_ok,AtO.word rfl hw1.thin rfl (m13 ⟨rfl,rfl,rfl,rfl,rfl,rfl,rfl,rfl,rfl,rfl,rfl,rfl,rfl⟩),tsR_ok,AtO.word rfl hw1.thin rfl (m13 ⟨rfl,rfl,rfl,rfl,rfl,rfl,rfl,rfl,rfl,rfl,rfl,rfl,rfl⟩),trivial⟩ (by decide) rfl ?_
 exact ⟨rfl,rfl,rfl,rfl,rfl,rfl,rfl,rfl,trivial⟩
def hpG (y x:Ptb) (me:List AV):Hp:=objL 1 (encX y)++(objU 15 (encX x)++([some ⟨1,me⟩]++objL 30 (encX x)))
theorem hpG_len {y x:Ptb} {me:List AV}:(hpG y x me).length=43:=by simp [hpG,objL,setL,objU,setU]
theorem hpG_b {y x:Ptb} (hy:thin y) (hx:thin x) {me:List AV} (hm:bnds 0 me=true):hpB 43 (hpG y x me)=true:=by
 unfold hpG
 rw [show objL 1 (encX y)=_ from objL_enc hy 1,show objU 15 (encX x)=_ from objU_enc hx 15,show objL 30 (encX x)=_ from objL_enc hx 30]
 exact hpB_app (canB_hpB tsP_ok (by omega)) (hpB_app (canB_hpB tsR_ok (by omega)) (hpB_app (by simp only [hpB,bnds_mono (Nat.zero_le 43) _ hm,Bool.and_self]) (canB_hpB tsP_ok (by omega))))
theorem hG (G:Nat→List AV) (x:Ptb) (gr sg me m0 m1 m2 m5:Int) (m4:Bool):vHp G (objD 1 (.var 6 (encX (kR x (-gr) sg me 13).1))++objE 15 (.var 5 (encX x))++([some ⟨1,.of [.int .i64 (.var 41 m0),.int .i64 (.var 42 m1),.int .i64 (.var 43 m2),.int .i64 (.var 44 me),.bool (.var 45 m4),.int .i64 (.var 46 m5)]⟩]:DHp)++objD 30 (.var 5 (encX x)))=hpG (kR x (-gr) sg me 13).1 x [.int .i64 m0,.int .i64 m1,.int .i64 m2,.int .i64 me,.bool m4,.int .i64 m5]:=rfl
theorem tell_same {y x:Ptb} (h:y.at_=x.at_) (n:Int):isP y n=isP x n∧tellX y n=tellX x n:=by
 have a:isP y n=isP x n:=by unfold isP;rw [h]
 exact ⟨a,by unfold tellX;rw [a,h]⟩
theorem pg_loopB (G:Nat→List AV) (B:Nat) {x:Ptb} (hw:Wf x) (gr sg me ee m0 m1 m2 m5:Int) (m4:Bool) (hg:1≤gr∧gr≤12) (hs:2≤sg∧sg≤15):AWp (⟨Try.prog,G,B⟩:Ctx) 0 (.loop (loopN Try.f5 1)) (fl 183 [7,8,9,13,15,16,17,18,19] [.int .i64 gr,.int .i64 sg,.ptr (.rw 0) 0,.ptr (.rw 28) 0,.ptr (.rw 29) 0,.int .i64 ee,.bool false,.bool false,.int .i64 1]) (hpG (kR x (-gr) sg me 13).1 x [.int .i64 m0,.int .i64 m1,.int .i64 m2,.int .i64 me,.bool m4,.int .i64 m5]) (lv 183 [7,8,9,13,15,16,17,18,19] (LOut.post G 0 (.one (.exit 2) [.undef,.undef,.undef,.undef,.undef,.int .i64 (.var 33 ee),.bool (.var 31 (kR x (-gr) sg me 13).2.2),.bool (.var 32 (kR x (-gr) sg me 13).2.1),.undef] []))):=by
  have h0:([.int .i64 gr,.int .i64 sg,.ptr (.rw 0) 0,.ptr (.rw 28) 0,.ptr (.rw 29) 0,.int .i64 ee,.bool false,.bool false,.int .i64 1]:List AV)=[.int .i64 gr,.int .i64 sg,.ptr (.rw 0) 0,.ptr (.rw 28) 0,.ptr (.rw 29) 0,.int .i64 ee,.bool (kR x (-gr) sg me (0+1)).2.2,.bool (kR x (-gr) sg me (0+1)).2.1,.int .i64 ((0+1:Nat):Int)]:=by
    rw [kR_0 hw];rfl
  rw [h0]
  refine scan 12 (fun j=>[.int .i64 gr,.int .i64 sg,.ptr (.rw 0) 0,.ptr (.rw 28) 0,.ptr (.rw 29) 0,.int .i64 ee,.bool (kR x (-gr) sg me (j+1)).2.2,.bool (kR x (-gr) sg me (j+1)).2.1,.int .i64 ((j+1:Nat):Int)]) (fun _=>hpG (kR x (-gr) sg me 13).1 x [.int .i64 m0,.int .i64 m1,.int .i64 m2,.int .i64 me,.bool m4,.int .i64 m5]) fun j hj=>?_
  rw [← hG G]
  refine dloop_ok (C:=(⟨Try.prog,G,B⟩:Ctx)) (K:=Dc Try.prog [] [(16,objQ 2101 (okObj tsP) tsP .same tellK),(22,sigC 2101 (okObj tsP)),(23,sendC sideP),(24,sameC sideP)] [] 0) (fuel:=900) (n0:=20) (m:=0) (c:=loopN Try.f5 1)
    (vs:=[.int .i64 (.var 7 gr),.int .i64 (.var 8 sg),.ptr (.rw 0) (.lit 0),.ptr (.rw 28) (.lit 0),.ptr (.rw 29) (.lit 0),.int .i64 (.var 33 ee),.bool (.var 31 (kR x (-gr) sg me (j+1)).2.2),.bool (.var 32 (kR x (-gr) sg me (j+1)).2.1),.int .i64 (.ofN (.var 4 (j+1)))]) (H:=(objD 1 (.var 6 (encX (kR x (-gr) sg me 13).1))++objE 15 (.var 5 (encX x))++([some ⟨1,.of [.int .i64 (.var 41 m0),.int .i64 (.var 42 m1),.int .i64 (.var 43 m2),.int .i64 (.var 44 me),.bool (.var 45 m4),.int .i64 (.var 46 m5)]⟩]:DHp)++objD 30 (.var 5 (encX x)))) (by
      rw [show loopsOf (loopN Try.f5 1)=[] by kernel_rfl]
      exact dgood (mix G B) (by kernel_rfl) (.cons (objS_ok tsP_ok (tellK_ok (fun s hw n=>p_tell G B n))) (.cons (sigC_ok (fun s hw n=>p_sig G B hw n)) (.cons (sendC_ok (sideP_ok G) (p_send G B)) (.cons (sameC_ok (sameS_ok (sideP_ok G) (p_same G B) (p_same1 G B))) .nil)))) .nil) (Nat.zero_le _) ?_
  rw [pg_b]
  have ki:=kR_inv hw (-gr) sg me 13
  have hwY:Wf (kR x (-gr) sg me 13).1:=ki.wf
  have ts:=tell_same ki.at_ ((j+1:Nat):Int)
  have w1:=(xB1_enc (k:=.i64) hwY.thin ((j+1:Nat):Int) isP).trans ts.1
  have w2:=(xB1_enc (k:=.i64) hwY.thin ((j+1:Nat):Int) tellEn).trans (show tellEn (kR x (-gr) sg me 13).1 ((j+1:Nat):Int)=tellEn x ((j+1:Nat):Int) by unfold tellEn;rw [ts.2])
  have w3:=(xI1_enc (k:=.i64) hwY.thin ((j+1:Nat):Int) tellGrp).trans (show tellGrp (kR x (-gr) sg me 13).1 ((j+1:Nat):Int)=tellGrp x ((j+1:Nat):Int) by unfold tellGrp;rw [ts.2])
  have w4:=(xI1_enc (k:=.i64) hwY.thin ((j+1:Nat):Int) tellUsr).trans (show tellUsr (kR x (-gr) sg me 13).1 ((j+1:Nat):Int)=tellUsr x ((j+1:Nat):Int) by unfold tellUsr;rw [ts.2])
  have w5:=xB1_enc (k:=.i64) hw.thin ((j+1:Nat):Int) isP
  rw [w1,w2,w3,w4,w5,sgXU_enc hw.thin,sgXU_enc hwY.thin,sendU_enc,Int.toNat_natCast,i64_in (by omega)]
  have o1:okObj tsP (okA 1 (encX (kR x (-gr) sg me 13).1))=true:=okO hwY 1
  have o30:okObj tsP (okA 30 (encX x))=true:=okO hw 30
  have kA:=okU_enc (sgD x (j+1))
  have kB:=okU_enc (sgD (kR x (-gr) sg me 13).1 (j+1))
  have kS:=okU_enc (send (sgD x (j+1)) sg)
  have inS:inSg [.int .i64 sg]=true:=by
    show (decide (0≤sg)&&decide (sg≤15))=true
    rw [decide_eq_true (show 0≤sg by omega),decide_eq_true (show sg≤15 by omega)];rfl
  have lf:∀ (c1 c2:Bool) (E:Hp) (v:Int),c1=(kR x (-gr) sg me (j+1+1)).2.2→c2=(kR x (-gr) sg me (j+1+1)).2.1→v=((j+1+1:Nat):Int)→View 0 [.int .i64 gr,.int .i64 sg,.ptr (.rw 0) 0,.ptr (.rw 28) 0,.ptr (.rw 29) 0,.int .i64 ee,.bool (kR x (-gr) sg me (j+1+1)).2.2,.bool (kR x (-gr) sg me (j+1+1)).2.1,.int .i64 ((j+1+1:Nat):Int)] (hpG (kR x (-gr) sg me 13).1 x [.int .i64 m0,.int .i64 m1,.int .i64 m2,.int .i64 me,.bool m4,.int .i64 m5]) [.int .i64 gr,.int .i64 sg,.ptr (.rw 0) 0,.ptr (.rw 28) 0,.ptr (.rw 29) 0,.int .i64 ee,.bool c1,.bool c2,.int .i64 v] (objL 1 (encX (kR x (-gr) sg me 13).1)++(objU 15 (encX x)++([some ⟨1,[.int .i64 m0,.int .i64 m1,.int .i64 m2,.int .i64 me,.bool m4,.int .i64 m5]⟩]++(objL 30 (encX x)++E)))):=fun c1 c2 E v e1 e2 e3=>by
    subst e1 e2 e3
    have eH:objL 1 (encX (kR x (-gr) sg me 13).1)++(objU 15 (encX x)++([some ⟨1,[.int .i64 m0,.int .i64 m1,.int .i64 m2,.int .i64 me,.bool m4,.int .i64 m5]⟩]++(objL 30 (encX x)++E)))=hpG (kR x (-gr) sg me 13).1 x [.int .i64 m0,.int .i64 m1,.int .i64 m2,.int .i64 me,.bool m4,.int .i64 m5]++E:=by
      unfold hpG
      simp only [List.append_assoc]
    rw [eH]
    refine View.same (Nat.zero_le _) (by rw [hpG_len];exact hpG_b hwY.thin hw.thin rfl) ?_
    rw [hpG_len]
    exact ⟨⟨rfl,rfl⟩,⟨rfl,rfl⟩,⟨rfl,rfl⟩,⟨rfl,rfl⟩,⟨rfl,rfl⟩,⟨rfl,rfl⟩,⟨rfl,rfl⟩,⟨rfl,rfl⟩,⟨rfl,rfl⟩,trivial⟩
  refine ⟨fun h1=>?_,fun h1=>?_⟩
  · have hj':j<12:=by have:=of_decide_eq_true h1;omega
    have fact:hits x (-gr) me (j+1)=(isP x ((j+1:Nat):Int)&&(!tellEn x ((j+1:Nat):Int)&&((tellGrp x ((j+1:Nat):Int)==gr)&&((me==0)||(me==tellUsr x ((j+1:Nat):Int))))))∧(decide (live x ((j+1:Nat):Int)=true∧-(x.at_ (j+1)).grp=-gr))=(isP x ((j+1:Nat):Int)&&(!tellEn x ((j+1:Nat):Int)&&(tellGrp x ((j+1:Nat):Int)==gr)))∧(isP x ((j+1:Nat):Int)=true→kMy (x.at_ (j+1)) me=((me==0)||(me==tellUsr x ((j+1:Nat):Int)))):=by
      cases hp:isP x ((j+1:Nat):Int) with
      | false=>
        have hl:live x ((j+1:Nat):Int)=false:=by unfold live;rw [hp];rfl
        refine ⟨by unfold hits;rw [hl];rfl,?_,fun h=>by cases h⟩
        rw [hl];simp
      | true=>
        have ht:tellX x ((j+1:Nat):Int)=x.at_ (j+1):=by unfold tellX;rw [if_pos hp,Int.toNat_natCast]
        have hl:live x ((j+1:Nat):Int)=!(x.at_ (j+1)).en:=by unfold live;rw [hp,Int.toNat_natCast];rfl
        have hn:(-(x.at_ (j+1)).grp==-gr)=((x.at_ (j+1)).grp==gr):=by
          rw [Bool.eq_iff_iff]
          simp only [beq_iff_eq]
          omega
        unfold tellEn tellGrp tellUsr
        rw [ht]
        refine ⟨by unfold hits;rw [hl,hn];rfl,?_,fun _=>rfl⟩
        rw [hl,Bool.eq_iff_iff]
        simp only [decide_eq_true_eq,Bool.and_eq_true,Bool.true_and,beq_iff_eq]
        constructor
        · rintro ⟨a,b⟩;exact ⟨a,by omega⟩
        · rintro ⟨a,b⟩;exact ⟨a,by omega⟩
    obtain ⟨f1,f2,f3⟩:=fact
    have nxt:=kR_next (sg:=sg) (me:=me) hw (show -gr≤0 by omega) (i:=j+1) (by omega) (by omega)
    have set:=kR_set (sg:=sg) (me:=me) hw (show -gr≤0 by omega) (c:=j+1) (by omega) (by omega)
    have esend:sendX (sgD x (j+1)) sg=send (sgD x (j+1)) sg:=by
      unfold sendX
      rw [outB_false (by omega) (by omega)];rfl
    rw [esend] at set
    have same0:hits x (-gr) me (j+1)=false→sameU [.agg (encP (sgD x (j+1))),.agg (encP (sgD (kR x (-gr) sg me 13).1 (j+1)))]=true:=fun h=>by
      rw [set,h,sameU_enc];exact sameB_refl' _
    have same1:hits x (-gr) me (j+1)=true→sameU [.agg (encP (send (sgD x (j+1)) sg)),.agg (encP (sgD (kR x (-gr) sg me 13).1 (j+1)))]=true:=fun h=>by
      rw [set,if_pos h,sameU_enc];exact sameB_refl' _
    have n1:(kR x (-gr) sg me (j+1+1)).2.2=((kR x (-gr) sg me (j+1)).2.2||(isP x ((j+1:Nat):Int)&&(!tellEn x ((j+1:Nat):Int)&&(tellGrp x ((j+1:Nat):Int)==gr)))):=by
      rw [←f2,nxt]
      by_cases a:live x ((j+1:Nat):Int)=true∧-(x.at_ (j+1)).grp=-gr
      · rw [if_pos a,decide_eq_true a]
        split<;>simp
      · rw [if_neg a,decide_eq_false a];simp
    have n2:(kR x (-gr) sg me (j+1+1)).2.1=((kR x (-gr) sg me (j+1)).2.1||(isP x ((j+1:Nat):Int)&&(!tellEn x ((j+1:Nat):Int)&&((tellGrp x ((j+1:Nat):Int)==gr)&&((me==0)||(me==tellUsr x ((j+1:Nat):Int))))))):=by
      rw [nxt]
      by_cases a:live x ((j+1:Nat):Int)=true∧-(x.at_ (j+1)).grp=-gr
      · rw [decide_eq_true a] at f2
        have hp:isP x ((j+1:Nat):Int)=true:=by
          have:=a.1
          unfold live at this
          rw [Bool.and_eq_true] at this
          exact this.1
        rw [if_pos a,f3 hp]
        rw [hp] at f2 ⊢
        cases e1:tellEn x ((j+1:Nat):Int) with
        | true=>rw [e1] at f2;cases f2
        | false=>
          rw [e1] at f2
          have f2:true=(tellGrp x ((j+1:Nat):Int)==gr):=f2
          rw [←f2]
          cases (me==0||me==tellUsr x ((j+1:Nat):Int))<;>simp
      · rw [decide_eq_false a] at f2
        rw [if_neg a]
        have:(isP x ((j+1:Nat):Int)&&(!tellEn x ((j+1:Nat):Int)&&((tellGrp x ((j+1:Nat):Int)==gr)&&((me==0)||(me==tellUsr x ((j+1:Nat):Int))))))=((isP x ((j+1:Nat):Int)&&(!tellEn x ((j+1:Nat):Int)&&(tellGrp x ((j+1:Nat):Int)==gr)))&&((me==0)||(me==tellUsr x ((j+1:Nat):Int)))):=by
          simp only [Bool.and_assoc]
        rw [this,←f2];simp
    rw [f1] at same0 same1
    clear nxt set f1 f2 f3 w1 w2 w3 w4 w5 ts esend h0
    generalize (kR x (-gr) sg me (j+1)).2.2=b1 at n1 ⊢
    generalize (kR x (-gr) sg me (j+1)).2.1=b2 at n2 ⊢
    generalize isP x ((j+1:Nat):Int)=p0 at n1 n2 same0 same1 ⊢
    generalize tellEn x ((j+1:Nat):Int)=en at n1 n2 same0 same1 ⊢
    generalize (tellGrp x ((j+1:Nat):Int)==gr)=g at n1 n2 same0 same1 ⊢
    generalize (me==tellUsr x ((j+1:Nat):Int))=mu at n2 same0 same1 ⊢
    generalize (me==0)=m at n2 same0 same1 ⊢
    generalize okObj tsP (okA 1 (encX (kR x (-gr) sg me 13).1))=z1 at o1 ⊢
    generalize okObj tsP (okA 30 (encX x))=z2 at o30 ⊢
    generalize okU [.agg (encP (sgD x (j+1)))]=z3 at kA ⊢
    generalize okU [.agg (encP (sgD (kR x (-gr) sg me 13).1 (j+1)))]=z4 at kB ⊢
    generalize okU [.agg (encP (send (sgD x (j+1)) sg))]=z5 at kS ⊢
    generalize sameU [.agg (encP (sgD x (j+1))),.agg (encP (sgD (kR x (-gr) sg me 13).1 (j+1)))]=z6 at same0 ⊢
    generalize sameU [.agg (encP (send (sgD x (j+1)) sg)),.agg (encP (sgD (kR x (-gr) sg me 13).1 (j+1)))]=z7 at same1 ⊢
    generalize inSg [.int .i64 sg]=z8 at inS ⊢
    rw [hG G]
    generalize hpG (kR x (-gr) sg me 13).1 x [.int .i64 m0,.int .i64 m1,.int .i64 m2,.int .i64 me,.bool m4,.int .i64 m5]=KH at lf ⊢
    generalize objL 1 (encX (kR x (-gr) sg me 13).1)=K1 at lf ⊢
    generalize objU 15 (encX x)=K2 at lf ⊢
    generalize objL 30 (encX x)=K3 at lf ⊢
    subst o1 o30 kA kB kS inS
    repeat' first
      | exact hj'
      | exact rfl
      | assumption
      | (subst_vars;exact Or.inr (lf _ _ _ _ n1.symm n2.symm rfl))
      | (subst_vars;exact Or.inr (lf _ _ _ _ (by rw [n1];simp) (by rw [n2];simp) rfl))
      | (subst_vars;exact same0 rfl)
      | (subst_vars;exact same1 rfl)
      | (subst_vars;rfl)
      | refine And.intro ?_ ?_
      | intro _
  · have:j=12:=by have:=of_decide_eq_false h1;omega
    subst this
    refine ⟨rfl,.inr ?_⟩
    refine View.same (m:=0) (H:=[]) (Nat.le_refl _) rfl ?_
    exact ⟨⟨rfl,rfl⟩,⟨rfl,rfl⟩,⟨rfl,rfl⟩,trivial⟩
end Go.Am
namespace Go.Am
open Go.Proofs Crc
set_option maxRecDepth 100000
set_option maxHeartbeats 1000000
theorem pg_loopE (G:Nat→List AV) (B:Nat) (k n:Nat) (nn gr sg:Int) (hk:StepsAt (G k) n):AWp (⟨Try.prog,G,B⟩:Ctx) 0 (.loop (loopN Try.f5 0)) (fl 183 [0,1,7,8,9,10,11,12] [.slice true (.ro k) 0 n,.int .i64 nn,.int .i64 gr,.int .i64 sg,.ptr (.rw 1) 0,.ptr (.rw 15) 0,.bool true,.int .i64 0]) (some ⟨1,[.int .i64 gr,.int .i64 sg]⟩::(objL 2 (encX new0)++objU 16 (encX new0)):Hp) (lv 183 [0,1,7,8,9,10,11,12] (LOut.post G 0 (.one (.exit 0) [.undef,.int .i64 (.var 21 nn),.int .i64 (.var 7 gr),.int .i64 (.var 8 sg),.ptr (.rw 0) (.lit 0),.ptr (.rw 14) (.lit 0),.bool (.lit true),.undef] (objD 1 (.var 5 (encX (runX (G k) (min n 100))))++objE 15 (.var 5 (encX (runX (G k) (min n 100)))))))):=by
 refine AWp.preL (pg_loopA G B k n nn gr sg hk) rfl ?_
 refine View.objs (m:=0) (os:=[(tsP,new0),(tsR,new0)]) (pl:=[(1,2),(15,16)]) (Nat.zero_le _) ⟨tsP_ok,AtO.word rfl new0_wf.thin rfl (m13 ⟨rfl,rfl,rfl,rfl,rfl,rfl,rfl,rfl,rfl,rfl,rfl,rfl,rfl⟩),tsR_ok,AtO.word rfl new0_wf.thin rfl (m13 ⟨rfl,rfl,rfl,rfl,rfl,rfl,rfl,rfl,rfl,rfl,rfl,rfl,rfl⟩),trivial⟩ (by decide) rfl ?_
 exact ⟨rfl,rfl,rfl,rfl,rfl,rfl,rfl,rfl,trivial⟩
theorem groups_callQ (G:Nat→List AV) (B:Nat) (k n:Nat) (nn gr sg:Int) (qa qb:List AV→Bool) (la:DLoopOk (⟨Try.prog,G,B⟩:Ctx) 0 (loopN Try.f5 0) (DLat 0x9BF qa 0 183 [0,1,7,8,9,10,11,12] (.one (.exit 0) [.undef,.int .i64 (.var 21 nn),.int .i64 (.var 7 gr),.int .i64 (.var 8 sg),.ptr (.rw 0) (.lit 0),.ptr (.rw 14) (.lit 0),.bool (.lit true),.undef] (objD 1 (.var 5 (encX (runX (G k) (min n 100))))++objE 15 (.var 5 (encX (runX (G k) (min n 100)))))))) (lb:DLoopOk (⟨Try.prog,G,B⟩:Ctx) 0 (loopN Try.f5 1) (DLat 0x9C0 qb 2 183 [7,8,9,13,15,16,17,18,19] (.one (.exit 2) [.undef,.undef,.undef,.undef,.undef,.int .i64 (.var 33 (killE (runX (G k) (min n 100)) nn (-gr) sg)),.bool (.var 31 (kR (runX (G k) (min n 100)) (-gr) sg (tellUsr (runX (G k) (min n 100)) nn) 13).2.2),.bool (.var 32 (kR (runX (G k) (min n 100)) (-gr) sg (tellUsr (runX (G k) (min n 100)) nn) 13).2.1),.undef] [])))
  (ha:((1≤gr∧gr≤12)∧(2≤sg∧sg≤15))→qa [.agg [.slice true (.ro k) 0 n,.int .i64 nn,.int .i64 gr,.int .i64 sg,.ptr (.rw 1) 0,.ptr (.rw 15) 0,.bool true,.int .i64 0],.agg (encHB (some ⟨1,[.int .i64 gr,.int .i64 sg]⟩::(objL 2 (encX new0)++objU 16 (encX new0)):Hp))]=true) (hb:((1≤gr∧gr≤12)∧(2≤sg∧sg≤15))→qb [.agg [.int .i64 gr,.int .i64 sg,.ptr (.rw 0) 0,.ptr (.rw 28) 0,.ptr (.rw 29) 0,.int .i64 (killE (runX (G k) (min n 100)) nn (-gr) sg),.bool false,.bool false,.int .i64 1],.agg (encHB (hpG (kR (runX (G k) (min n 100)) (-gr) sg (tellUsr (runX (G k) (min n 100)) nn) 13).1 (runX (G k) (min n 100)) [.int .i64 (tellNum (runX (G k) (min n 100)) nn),.int .i64 (tellPar (runX (G k) (min n 100)) nn),.int .i64 (tellGrp (runX (G k) (min n 100)) nn),.int .i64 (tellUsr (runX (G k) (min n 100)) nn),.bool (tellEn (runX (G k) (min n 100)) nn),.int .i64 (tellSt (runX (G k) (min n 100)) nn)]))]=true):ACalls (⟨Try.prog,G,B⟩:Ctx) 5 [.slice true (.ro k) 0 n,.int .i64 nn,.agg [.int .i64 gr,.int .i64 sg]] [] fun v _=>v=.bool true:=by
 have:=dlaw_ok (C:=(⟨Try.prog,G,B⟩:Ctx)) (K:=Dc Try.prog [14] [(9,knownS),(10,newQ 2101 tsP),(17,newQ 2251 tsR),(16,objQ 2101 (okObj tsP) tsP .same tellK),(20,objQ 2101 (okObj tsP) tsP .same livesK),(12,copyQ 2101 (okObj tsP) tsP),(21,objQ 2101 (okObj tsP) tsP .stay killK)] [DLat 0x9BF qa 0 183 [0,1,7,8,9,10,11,12] (.one (.exit 0) [.undef,.int .i64 (.var 21 nn),.int .i64 (.var 7 gr),.int .i64 (.var 8 sg),.ptr (.rw 0) (.lit 0),.ptr (.rw 14) (.lit 0),.bool (.lit true),.undef] (objD 1 (.var 5 (encX (runX (G k) (min n 100))))++objE 15 (.var 5 (encX (runX (G k) (min n 100)))))),DLat 0x9C0 qb 2 183 [7,8,9,13,15,16,17,18,19] (.one (.exit 2) [.undef,.undef,.undef,.undef,.undef,.int .i64 (.var 33 (killE (runX (G k) (min n 100)) nn (-gr) sg)),.bool (.var 31 (kR (runX (G k) (min n 100)) (-gr) sg (tellUsr (runX (G k) (min n 100)) nn) 13).2.2),.bool (.var 32 (kR (runX (G k) (min n 100)) (-gr) sg (tellUsr (runX (G k) (min n 100)) nn) 13).2.1),.undef] [])] 0) (fuel:=900) (n0:=20) (f:=5) (fn:=Try.f5) (args:=[.slice true (.ro (.var 2 k)) (.lit 0) (.var 3 n),.int .i64 (.var 21 nn),.agg (.of [.int .i64 (.var 7 gr),.int .i64 (.var 8 sg)])]) (H:=[]) (R:=fun v _=>v=.bool true) (by
   rw [show loopsOf (bodyOf Try.f5)=[loopN Try.f5 0,loopN Try.f5 1] by kernel_rfl]
   exact dgood (mix G B) (by kernel_rfl) (.cons (knownS_ok G B) (.cons (newQ_ok tsP_ok (p_new G B)) (.cons (newQ_ok tsR_ok (r_new G B)) (.cons (objS_ok tsP_ok (tellK_ok (fun s hw n=>p_tell G B n))) (.cons (objS_ok tsP_ok (livesK_ok (fun s hw n=>p_lives G B n))) (.cons (copyQ_ok tsP_ok (fun s hw=>p_copyM G B hw)) (.cons (objS_ok tsP_ok (killK_ok (fun s hw n a b=>p_kill G B hw n a b) (by simp))) .nil))))))) (.cons (i:=0) (by kernel_rfl) rfl la (.cons (i:=2) (by kernel_rfl) rfl lb .nil))) (by kernel_rfl) (by kernel_rfl) (by kernel_rfl) (by
  rw [pg_c]
  have hw:=runX_wf (G k) (min n 100)
  refine ⟨fun _=>rfl,fun h1=>⟨fun _=>rfl,fun h2=>⟨fun _=>rfl,fun h3=>⟨fun _=>rfl,fun h4=>?_⟩⟩⟩⟩
  have h1:=of_decide_eq_false h1
  have h2:=of_decide_eq_false h2
  have h3:=of_decide_eq_false h3
  have h4:=of_decide_eq_false h4
  have hr:((1≤gr∧gr≤12)∧(2≤sg∧sg≤15)):=by omega
  have ew:IntKind.wrap .i64 (0 - gr)=-gr:=by rw [i64_in (by omega)];omega
  rw [ew]
  have eL:=xB1_enc (k:=.i64) hw.thin nn live
  have eE:=xI3_enc (k:=.i64) (k':=.i64) (k'':=.i64) hw.thin nn (-gr) sg killE
  have eX:=xX3_enc (k:=.i64) (k':=.i64) (k'':=.i64) hw.thin nn (-gr) sg killX
  have e0:=xI1_enc (k:=.i64) hw.thin nn tellNum
  have e1:=xI1_enc (k:=.i64) hw.thin nn tellPar
  have e2:=xI1_enc (k:=.i64) hw.thin nn tellGrp
  have e3:=xI1_enc (k:=.i64) hw.thin nn tellUsr
  have e4:=xB1_enc (k:=.i64) hw.thin nn tellEn
  have e5:=xI1_enc (k:=.i64) hw.thin nn tellSt
  rw [eL,eE,eX,e0,e1,e2,e3,e4,e5]
  refine ⟨ha hr,okO hw 1,fun hl=>?_,fun _=>rfl⟩
  have hi:isP (runX (G k) (min n 100)) nn=true:=by
   have:=live_iff.1 hl
   exact isP_iff.2 ⟨this.1,this.2.1,this.2.2.1⟩
  have eu:(tellUsr (runX (G k) (min n 100)) nn)=((runX (G k) (min n 100)).at_ nn.toNat).usr:=by unfold tellUsr tellX;rw [if_pos hi]
  obtain ⟨kE,kX⟩:=killE_grp (sg:=sg) hl (show -gr≠0 by omega) (by omega) (by omega)
  rw [←eu] at kE kX
  have hB:=hb hr
  rw [←kX] at hB
  refine ⟨okO hw 1,okO hw 1,okO hw 1,hB,?_⟩
  have sn:=kR_sent hw (to:=-gr) (sg:=sg) (me:=(tellUsr (runX (G k) (min n 100)) nn)) (by omega) 13 (Nat.le_refl _)
  generalize (kR (runX (G k) (min n 100)) (-gr) sg (tellUsr (runX (G k) (min n 100)) nn) 13).2.2=b1 at *
  generalize (kR (runX (G k) (min n 100)) (-gr) sg (tellUsr (runX (G k) (min n 100)) nn) 13).2.1=b2 at *
  rw [kE]
  cases b1<;>cases b2<;>simp at sn ⊢)
 exact this
theorem groups_call (G:Nat→List AV) (B:Nat) (k n:Nat) (nn gr sg:Int) (hk:StepsAt (G k) n):ACalls (⟨Try.prog,G,B⟩:Ctx) 5 [.slice true (.ro k) 0 n,.int .i64 nn,.agg [.int .i64 gr,.int .i64 sg]] [] fun v _=>v=.bool true:=by
 by_cases hr:((1≤gr∧gr≤12)∧(2≤sg∧sg≤15))
 ·exact groups_callQ G B k n nn gr sg (isSt [.slice true (.ro k) 0 n,.int .i64 nn,.int .i64 gr,.int .i64 sg,.ptr (.rw 1) 0,.ptr (.rw 15) 0,.bool true,.int .i64 0] (some ⟨1,[.int .i64 gr,.int .i64 sg]⟩::(objL 2 (encX new0)++objU 16 (encX new0)):Hp)) (isSt [.int .i64 gr,.int .i64 sg,.ptr (.rw 0) 0,.ptr (.rw 28) 0,.ptr (.rw 29) 0,.int .i64 (killE (runX (G k) (min n 100)) nn (-gr) sg),.bool false,.bool false,.int .i64 1] (hpG (kR (runX (G k) (min n 100)) (-gr) sg (tellUsr (runX (G k) (min n 100)) nn) 13).1 (runX (G k) (min n 100)) [.int .i64 (tellNum (runX (G k) (min n 100)) nn),.int .i64 (tellPar (runX (G k) (min n 100)) nn),.int .i64 (tellGrp (runX (G k) (min n 100)) nn),.int .i64 (tellUsr (runX (G k) (min n 100)) nn),.bool (tellEn (runX (G k) (min n 100)) nn),.int .i64 (tellSt (runX (G k) (min n 100)) nn)])) (DLat_okC rfl (pg_loopE G B k n nn gr sg hk)) (DLat_okC rfl (pg_loopB G B (runX_wf _ _) gr sg (tellUsr (runX (G k) (min n 100)) nn) (killE (runX (G k) (min n 100)) nn (-gr) sg) _ _ _ _ _ hr.1 hr.2)) (fun _=>isSt_refl) (fun _=>isSt_refl)
 ·exact groups_callQ G B k n nn gr sg (fun _=>false) (fun _=>false) DLat_no DLat_no (fun h=>absurd h hr) (fun h=>absurd h hr)
end Go.Am
