/-
  ProcsParents: the loops, the run. ProcsParents: the run.
-/
import Derived.Test.YtkabjomhnddnoaaPart28
namespace Go.Am
open Go.Proofs Crc
set_option maxRecDepth 100000
set_option maxHeartbeats 1000000
theorem AWp.preL {C:Ctx} {m:Nat} {c:Code} {N:Nat} {live:List Nat} {vs vs':List AV} {H H':Hp} {Q:Post} (h:AWp C m c (fl N live vs) H Q) (hr:rdF live (fl N live vs')=vs') (hv:View m vs H vs' H'):AWp C m c (fl N live vs') H' Q:=by
 intro r hr' ρ a w hH hF
 obtain ⟨ρ1,g1,g2,g3,g4⟩:=hv.live (N:=N) (live:=live) (a:=a) hH hF.nod (by rw [←hF.len,fl_length]) (by rw [←hr];simp [rdF]) fun j i v q1 q2=>by
  rw [←hr] at q2
  simp only [rdF,List.getElem?_map,q1,Option.map_some,Option.some.injEq] at q2
  subst q2
  by_cases hi:i<(fl N live vs').length
  ·exact hF.val i _ (by simp [List.getD,hi])
  ·simp [List.getD,hi,VR]
 exact Code.wpIn_mono (fun e a w h=>AP.link g3 g4 h) (h r hr' ρ1 a w g1 g2)
open Classical in
noncomputable def isStE (vs0:List AV) (H0:Hp):List AV→Bool:=fun xs=>decide (∃ E:Hp,xs=[.agg vs0,.agg (encHB (H0++E))])
theorem isStE_iff {vs0:List AV} {H0:Hp} {xs:List AV}:isStE vs0 H0 xs=true↔∃ E:Hp,xs=[.agg vs0,.agg (encHB (H0++E))]:=by
 unfold isStE;simp only [decide_eq_true_eq]
theorem isStE_at {vs0:List AV} {H0 E:Hp}:isStE vs0 H0 [.agg vs0,.agg (encHB (H0++E))]=true:=isStE_iff.2 ⟨E,rfl⟩
theorem DLat_okE {C:Ctx} {c:Code} {j:Nat} {ex N:Nat} {live:List Nat} {o:LOut} {vs0:List AV} {H0:Hp} (hr:rdF live (fl N live vs0)=vs0) (hb:hpB H0.length H0=true) (hv:fv H0.length vs0 vs0)
  (h:AWp C 0 (.loop c) (fl N live vs0) H0 (lv N live (o.post C.G 0))):DLoopOk C 0 c (DLat j (isStE vs0 H0) ex N live o):=by
 refine .of fun vs H o' ho n Q hQ=>?_
 simp only [DLat,Option.some.injEq] at ho
 subst ho
 obtain ⟨h1,h2⟩:=hQ
 simp only [vB,vVs,vV,vL,encH_ok] at h1
 obtain ⟨E,e⟩:=isStE_iff.1 h1
 simp only [List.cons.injEq,AV.agg.injEq,and_true] at e
 obtain ⟨e1,e2⟩:=e
 rw [e1,encH_inj _ _ e2]
 exact (AWp.preL h hr (View.same (Nat.zero_le _) hb hv)).lmono fun e vs H hp=>post_holds o n h2 hp
theorem obj2 {s:Ptb} (hs:thin s):objL 1 (encX s)++objU 15 (encX s)=objs 0 [(tsP,s),(tsR,s)]:=by
 rw [show objL 1 (encX s)=_ from objL_enc hs 1,show objU 15 (encX s)=_ from objU_enc hs 15]
 simp only [objs,List.append_nil]
theorem duo_hpB (s:Ptb):hpB (objs 0 [(tsP,s),(tsR,s)]).length (objs 0 [(tsP,s),(tsR,s)])=true:=by
 refine objs_hpB (fun o ho=>?_) (by rw [objs_len];exact Nat.le_refl _)
 simp only [List.mem_cons,List.not_mem_nil,or_false] at ho
 rcases ho with rfl | rfl
 ·exact tsP_ok
 ·exact tsR_ok
theorem hObj2 {s:Ptb} (hs:thin s) (G:Nat→List AV):vHp G (objD 1 (.var 5 (encX s))++objE 15 (.var 5 (encX s)))=(objs 0 [(tsP,s),(tsR,s)]):=by
 rw [←obj2 hs];rfl
theorem duo_view {s:Ptb} (hs:thin s) {vs:List AV} {H:Hp} (E:Hp) (hH:H=objL 1 (encX s)++(objU 15 (encX s)++E)) (hv:fv 28 vs vs):View 0 vs (objs 0 [(tsP,s),(tsR,s)]) vs H:=by
 subst hH
 rw [←List.append_assoc,obj2 hs]
 refine View.same (Nat.zero_le _) (duo_hpB s) ?_
 rw [objs_len];exact hv
theorem pp_loopK (G:Nat→List AV) (B:Nat) {s:Ptb} (hw:Wf s) (k n i c:Nat):AWp (⟨Try.prog,G,B⟩:Ctx) 0 (.loop (loopN Try.f6 2)) (fl 93 [0,3,4,5,7,10,11] [.slice true (.ro k) 0 n,.ptr (.rw 0) 0,.ptr (.rw 14) 0,.int .i64 (i:Int),.int .i64 (c:Int),.int .i64 (c:Int),.int .i64 0]) (objs 0 [(tsP,s),(tsR,s)]) (lv 93 [0,3,4,5,7,10,11] (LOut.post G 0 (.one (.exit 4) [.slice true (.ro (.var 2 k)) (.lit 0) (.var 3 n),.ptr (.rw 0) (.lit 0),.ptr (.rw 14) (.lit 0),.int .i64 (.ofN (.var 4 i)),.int .i64 (.ofN (.var 6 c)),.int .i64 (.var 9 (upP s c 12)),.undef] (objD 1 (.var 5 (encX s))++objE 15 (.var 5 (encX s)))))):=by
  refine scan 12 (fun j=>[.slice true (.ro k) 0 n,.ptr (.rw 0) 0,.ptr (.rw 14) 0,.int .i64 (i:Int),.int .i64 (c:Int),.int .i64 (upP s c j),.int .i64 (j:Int)]) (fun _=>(objs 0 [(tsP,s),(tsR,s)])) fun j hj=>?_
  rw [← hObj2 hw.thin G]
  refine dloop_ok (C:=(⟨Try.prog,G,B⟩:Ctx)) (K:=Dc Try.prog [] [(16,objQ 2101 (okObj tsP) tsP .same tellK)] [] 0) (fuel:=300) (n0:=20) (m:=0) (c:=loopN Try.f6 2)
    (vs:=[.slice true (.ro (.var 2 k)) (.lit 0) (.var 3 n),.ptr (.rw 0) (.lit 0),.ptr (.rw 14) (.lit 0),.int .i64 (.ofN (.var 4 i)),.int .i64 (.ofN (.var 6 c)),.int .i64 (.var 7 (upP s c j)),.int .i64 (.ofN (.var 8 j))]) (H:=(objD 1 (.var 5 (encX s))++objE 15 (.var 5 (encX s)))) (by rw [show loopsOf (loopN Try.f6 2)=[] by kernel_rfl];exact dgood (mix G B) (by kernel_rfl) (.cons (objS_ok tsP_ok (tellK_ok (fun s hw n=>p_tell G B n))) .nil) .nil) (Nat.zero_le _) ?_
  rw [pp_k]
  have out:upP s c j=upP s c 12→LOut.post G 0 (.one (.exit 4) [.slice true (.ro (.var 2 k)) (.lit 0) (.var 3 n),.ptr (.rw 0) (.lit 0),.ptr (.rw 14) (.lit 0),.int .i64 (.ofN (.var 4 i)),.int .i64 (.ofN (.var 6 c)),.int .i64 (.var 9 (upP s c 12)),.undef] (objD 1 (.var 5 (encX s))++objE 15 (.var 5 (encX s)))) (.exit 4) [.slice true (.ro k) 0 n,.ptr (.rw 0) 0,.ptr (.rw 14) 0,.int .i64 (i:Int),.int .i64 (c:Int),.int .i64 (upP s c j),.int .i64 (j:Int)] (objL 1 (encX s)++objU 15 (encX s)):=fun e=>by
    refine ⟨rfl,.inl ⟨?_,rfl⟩⟩
    rw [e]
    simp [wk,vVs,vV,vR,vN,vI]
  refine ⟨fun h1=>⟨fun h2=>?_,fun h2=>out ?_⟩,fun h1=>out ?_⟩
  · have h1':j<12:=by have:=of_decide_eq_true h1;omega
    have h2':=of_decide_eq_true h2
    have en:upP s c (j+1)=tellPar s (upP s c j):=by
      show (if 1<upP s c j then _ else _)=_
      rw [if_pos (by omega)]
    rw [xI1_enc hw.thin,i64_in (by omega),←en]
    refine ⟨okO hw 1,h1',.inr ?_⟩
    rw [hObj2 hw.thin G]
    exact duo_view hw.thin _ rfl ⟨⟨rfl,rfl⟩,⟨rfl,rfl⟩,⟨rfl,rfl⟩,⟨rfl,rfl⟩,⟨rfl,rfl⟩,⟨rfl,rfl⟩,⟨rfl,rfl⟩,trivial⟩
  · have h2':=of_decide_eq_false h2
    have st:∀ d,upP s c (j+d)=upP s c j:=fun d=>by
      induction d with
      | zero=>rfl
      | succ d ih=>
        show (if 1<upP s c (j+d) then _ else upP s c (j+d))=_
        rw [ih,if_neg (by omega)]
    have:=st (12 - j)
    rw [show j+(12 - j)=12 by omega] at this
    exact this.symm
  · have:j=12:=by have:=of_decide_eq_false h1;omega
    rw [this]
theorem sgXU_enc {s:Ptb} (hs:thin s) {n:Int}:sgXU [.agg (encX s),.int .i64 n]=encP (sgD s n.toNat):=by
 show encP (sgD (decX (encX s)) _)=_
 rw [decX_enc hs]
theorem pp_loopN (G:Nat→List AV) (B:Nat) {s:Ptb} (hw:Wf s) (hp:Pv s) (k n i:Nat):AWp (⟨Try.prog,G,B⟩:Ctx) 0 (.loop (loopN Try.f6 1)) (fl 93 [0,3,4,5,7] [.slice true (.ro k) 0 n,.ptr (.rw 0) 0,.ptr (.rw 14) 0,.int .i64 (i:Int),.int .i64 2]) (objs 0 [(tsP,s),(tsR,s)]) (lv 93 [0,3,4,5,7] (LOut.post G 0 (.one (.exit 2) [.slice true (.ro (.var 2 k)) (.lit 0) (.var 3 n),.ptr (.rw 0) (.lit 0),.ptr (.rw 14) (.lit 0),.int .i64 (.ofN (.var 4 i)),.undef] (objD 1 (.var 5 (encX s))++objE 15 (.var 5 (encX s)))))):=by
 refine scan 11 (fun c=>[.slice true (.ro k) 0 n,.ptr (.rw 0) 0,.ptr (.rw 14) 0,.int .i64 (i:Int),.int .i64 ((c+2:Nat):Int)]) (fun _=>(objs 0 [(tsP,s),(tsR,s)])) fun c hc=>?_
 rw [←hObj2 hw.thin G]
 refine dloop_ok (C:=(⟨Try.prog,G,B⟩:Ctx)) (K:=Dc Try.prog [] [(16,objQ 2101 (okObj tsP) tsP .same tellK),(20,objQ 2101 (okObj tsP) tsP .same livesK),(22,sigQ 2101 (okObj tsP)),(25,pendS sideP)] [DLat 2492 (isStE [.slice true (.ro k) 0 n,.ptr (.rw 0) 0,.ptr (.rw 14) 0,.int .i64 (i:Int),.int .i64 ((c+2:Nat):Int),.int .i64 ((c+2:Nat):Int),.int .i64 0] (objs 0 [(tsP,s),(tsR,s)])) 4 93 [0,3,4,5,7,10,11] (.one (.exit 4) [.slice true (.ro (.var 2 k)) (.lit 0) (.var 3 n),.ptr (.rw 0) (.lit 0),.ptr (.rw 14) (.lit 0),.int .i64 (.ofN (.var 4 i)),.int .i64 (.ofN (.var 6 (c+2))),.int .i64 (.var 9 (upP s (c+2) 12)),.undef] (objD 1 (.var 5 (encX s))++objE 15 (.var 5 (encX s))))] 0) (fuel:=600) (n0:=20) (m:=0) (c:=loopN Try.f6 1)
  (vs:=[.slice true (.ro (.var 2 k)) (.lit 0) (.var 3 n),.ptr (.rw 0) (.lit 0),.ptr (.rw 14) (.lit 0),.int .i64 (.ofN (.var 4 i)),.int .i64 (.ofN (.var 6 (c+2)))]) (H:=(objD 1 (.var 5 (encX s))++objE 15 (.var 5 (encX s)))) (by
   rw [show loopsOf (loopN Try.f6 1)=[loopN Try.f6 2] by kernel_rfl]
   exact dgood (mix G B) (by kernel_rfl) (.cons (objS_ok tsP_ok (tellK_ok (fun s hw n=>p_tell G B n))) (.cons (objS_ok tsP_ok (livesK_ok (fun s hw n=>p_lives G B n))) (.cons (sigQ_ok (fun s hw n=>p_sig G B hw n)) (.cons (pendS_ok (sideP_ok G) (p_pend G B)) .nil)))) (.cons (i:=4) (by kernel_rfl) rfl (DLat_okE rfl (duo_hpB s) (by rw [objs_len];exact ⟨⟨rfl,rfl⟩,⟨rfl,rfl⟩,⟨rfl,rfl⟩,⟨rfl,rfl⟩,⟨rfl,rfl⟩,⟨rfl,rfl⟩,⟨rfl,rfl⟩,trivial⟩) (pp_loopK G B hw k n i (c+2))) .nil)) (Nat.zero_le _) ?_
 rw [pp_n]
 have eP:=xB1_enc (k:=.i64) hw.thin ((c+2:Nat):Int) isP
 have eN:=xB1_enc (k:=.i64) hw.thin ((c+2:Nat):Int) tellEn
 have eR:=xI1_enc (k:=.i64) hw.thin ((c+2:Nat):Int) tellPar
 have eL:=xB1_enc (k:=.i64) hw.thin (tellPar s ((c+2:Nat):Int)) live
 rw [eP,eN,eR,eL,sgXU_enc hw.thin,pendNU_enc]
 have ew:IntKind.wrap .i64 (((c+2:Nat):Int)+1)=((c+1+2:Nat):Int):=by rw [i64_in (by omega)];omega
 rw [ew]
 have o1:=okO hw 1
 have sl:fv 28 [.slice true (.ro k) 0 n,.ptr (.rw 0) 0,.ptr (.rw 14) 0,.int .i64 (i:Int),.int .i64 ((c+1+2:Nat):Int)] [.slice true (.ro k) 0 n,.ptr (.rw 0) 0,.ptr (.rw 14) 0,.int .i64 (i:Int),.int .i64 ((c+1+2:Nat):Int)]:=⟨⟨rfl,rfl⟩,⟨rfl,rfl⟩,⟨rfl,rfl⟩,⟨rfl,rfl⟩,⟨rfl,rfl⟩,trivial⟩
 refine ⟨fun h1=>⟨o1,fun h2=>?_,fun h2=>?_⟩,fun h1=>?_⟩
 ·have hc':c<11:=by have:=of_decide_eq_true h1;omega
  have hne:(s.at_ (c+2)).num≠0:=(hw.isP (c+2)).1 h2
  have hu:=upP_12 hw hp (n:=c+2) (by omega) hne
  have epar:tellPar s ((c+2:Nat):Int)=(s.at_ (c+2)).par:=by unfold tellPar tellX;rw [if_pos h2,Int.toNat_natCast]
  have een:tellEn s ((c+2:Nat):Int)=(s.at_ (c+2)).en:=by unfold tellEn tellX;rw [if_pos h2,Int.toNat_natCast]
  have hpar:=hp.par (c+2) (by omega) hne
  have fin:∀ b,decide (upP s (c+2) 12>1)=b→b=false:=fun b h=>by rw [←h];exact decide_eq_false (by omega)
  have nx:c<11∧(([.slice true (.ro k) 0 n,.ptr (.rw 0) 0,.ptr (.rw 14) 0,.int .i64 (i:Int),.int .i64 ((c+1+2:Nat):Int)]:List AV)=[.slice true (.ro k) 0 n,.ptr (.rw 0) 0,.ptr (.rw 14) 0,.int .i64 (i:Int),.int .i64 ((c+1+2:Nat):Int)]∧objL 1 (encX s)++objU 15 (encX s)=(objs 0 [(tsP,s),(tsR,s)])∨View 0 [.slice true (.ro k) 0 n,.ptr (.rw 0) 0,.ptr (.rw 14) 0,.int .i64 (i:Int),.int .i64 ((c+1+2:Nat):Int)] (objs 0 [(tsP,s),(tsR,s)]) [.slice true (.ro k) 0 n,.ptr (.rw 0) 0,.ptr (.rw 14) 0,.int .i64 (i:Int),.int .i64 ((c+1+2:Nat):Int)] (objL 1 (encX s)++objU 15 (encX s))):=⟨hc',.inl ⟨rfl,obj2 hw.thin⟩⟩
  have stQ:∀ E:Hp,(isStE [.slice true (.ro k) 0 n,.ptr (.rw 0) 0,.ptr (.rw 14) 0,.int .i64 (i:Int),.int .i64 ((c+2:Nat):Int),.int .i64 ((c+2:Nat):Int),.int .i64 0] (objs 0 [(tsP,s),(tsR,s)])) [.agg [.slice true (.ro k) 0 n,.ptr (.rw 0) 0,.ptr (.rw 14) 0,.int .i64 (i:Int),.int .i64 ((c+2:Nat):Int),.int .i64 ((c+2:Nat):Int),.int .i64 0],.agg (encHB (objL 1 (encX s)++(objU 15 (encX s)++E)))]=true:=fun E=>by
   rw [←List.append_assoc,obj2 hw.thin];exact isStE_at
  have tailF:(decide (upP s (c+2) 12>1)=true→False):=fun h=>by cases fin _ h
  obtain ⟨p,hpp⟩:=hw.live_sg h2
  rw [Int.toNat_natCast] at hpp
  have ed:sgD s (c+2)=p:=by unfold sgD;rw [hpp];rfl
  rw [Int.toNat_natCast,ed]
  have pn:tellEn s ((c+2:Nat):Int)=true→decide ((((pend p.wt).length:Nat):Int)>0)=true→False:=fun h3 h4=>by
   rw [een] at h3
   have:=hp.pend (c+2) p h3 hpp
   have h4:=of_decide_eq_true h4
   rw [this] at h4
   revert h4;decide
  have q1:=stQ [some ⟨1,[.int .i64 (xI1 tellNum [.agg (encX s),.int .i64 ((c+2:Nat):Int)]),.int .i64 (tellPar s ((c+2:Nat):Int)),.int .i64 (xI1 tellGrp [.agg (encX s),.int .i64 ((c+2:Nat):Int)]),.int .i64 (xI1 tellUsr [.agg (encX s),.int .i64 ((c+2:Nat):Int)]),.bool (tellEn s ((c+2:Nat):Int)),.int .i64 (xI1 tellSt [.agg (encX s),.int .i64 ((c+2:Nat):Int)])]⟩]
  have q3:=stQ [some ⟨1,[.int .i64 (xI1 tellNum [.agg (encX s),.int .i64 ((c+2:Nat):Int)]),.int .i64 (tellPar s ((c+2:Nat):Int)),.int .i64 (xI1 tellGrp [.agg (encX s),.int .i64 ((c+2:Nat):Int)]),.int .i64 (xI1 tellUsr [.agg (encX s),.int .i64 ((c+2:Nat):Int)]),.bool (tellEn s ((c+2:Nat):Int)),.int .i64 (xI1 tellSt [.agg (encX s),.int .i64 ((c+2:Nat):Int)])]⟩,some ⟨1,encP p⟩,some ⟨1,pendU [.agg (encP p)]⟩]
  rw [hObj2 hw.thin G]
  refine ⟨fun h3=>⟨fun h4=>⟨o1,h2,okU_enc p,fun h5=>(pn h4 h5).elim,fun _=>⟨q3,fun h6=>(tailF h6).elim,fun _=>nx⟩⟩,fun h4=>⟨q1,fun h6=>(tailF h6).elim,fun _=>nx⟩⟩,fun h3=>⟨o1,fun h7=>⟨fun h4=>⟨o1,h2,okU_enc p,fun h5=>(pn h4 h5).elim,fun _=>⟨q3,fun h6=>(tailF h6).elim,fun _=>nx⟩⟩,fun h4=>⟨q1,fun h6=>(tailF h6).elim,fun _=>nx⟩⟩,fun h7=>?_⟩⟩
  rw [epar] at h3 h7
  rcases hpar with q | q
  ·rw [q] at h3;cases h3
  ·rw [q] at h7;cases h7
 ·have hc':c<11:=by have:=of_decide_eq_true h1;omega
  rw [hObj2 hw.thin G]
  exact ⟨hc',.inr (duo_view hw.thin _ rfl sl)⟩
 ·exact ⟨rfl,.inl ⟨by simp [wk,vVs,vV,vR,vN,vI],rfl⟩⟩
end Go.Am
namespace Go.Am
open Go.Proofs Crc
set_option maxRecDepth 100000
set_option maxHeartbeats 1000000
theorem pv_run (cs:List AV):∀ i,Pv (runX cs i)
 | 0=>pv_new0
 | i+1=>(pv_run cs i).step (runX_wf cs i) _ _ _ _
theorem pp_loopE (G:Nat→List AV) (B:Nat) (k n i:Nat):AWp (⟨Try.prog,G,B⟩:Ctx) 0 (.loop (loopN Try.f6 1)) (fl 93 [0,3,4,5,7] [.slice true (.ro k) 0 n,.ptr (.rw 28) 0,.ptr (.rw 42) 0,.int .i64 (i:Int),.int .i64 2]) ([none,none,none,none,none,none,none,none,none,none,none,none,none,none,none,none,none,none,none,none,none,none,none,none,none,none,none,none]++(objL 29 (encX (runX (G k) (i+1)))++objU 43 (encX (runX (G k) (i+1)))):Hp) (lv 93 [0,3,4,5,7] (LOut.post G 0 (.one (.exit 2) [.slice true (.ro (.var 2 k)) (.lit 0) (.var 3 n),.ptr (.rw 0) (.lit 0),.ptr (.rw 14) (.lit 0),.int .i64 (.ofN (.var 4 i)),.undef] (objD 1 (.var 15 (encX (runX (G k) (i+1))))++objE 15 (.var 15 (encX (runX (G k) (i+1)))))))):=by
 have hw:=runX_wf (G k) (i+1)
 refine AWp.preL (pp_loopN G B hw (pv_run (G k) (i+1)) k n i) rfl ?_
 refine View.objs (m:=0) (os:=[(tsP,(runX (G k) (i+1))),(tsR,(runX (G k) (i+1)))]) (pl:=[(28,29),(42,43)]) (Nat.zero_le _) ⟨tsP_ok,AtO.word rfl hw.thin rfl (m13 ⟨rfl,rfl,rfl,rfl,rfl,rfl,rfl,rfl,rfl,rfl,rfl,rfl,rfl⟩),tsR_ok,AtO.word rfl hw.thin rfl (m13 ⟨rfl,rfl,rfl,rfl,rfl,rfl,rfl,rfl,rfl,rfl,rfl,rfl,rfl⟩),trivial⟩ (by decide) rfl ?_
 exact ⟨rfl,rfl,rfl,rfl,rfl,trivial⟩
theorem pp_loopL (G:Nat→List AV) (B:Nat) (k n:Nat) (hk:StepsAt (G k) n):AWp (⟨Try.prog,G,B⟩:Ctx) 0 (.loop (loopN Try.f6 0)) (fl 93 [0,3,4,5] [.slice true (.ro k) 0 n,.ptr (.rw 0) 0,.ptr (.rw 14) 0,.int .i64 0]) (objs 0 [(tsP,new0),(tsR,new0)]) (lv 93 [0,3,4,5] (LOut.post G 0 (.one (.exit 0) [.undef,.undef,.undef,.undef] []))):=by
 refine scan (min n 200) (fun i=>[.slice true (.ro k) 0 n,.ptr (.rw 0) 0,.ptr (.rw 14) 0,.int .i64 (i:Int)]) (fun i=>objs 0 [(tsP,(runX (G k) i)),(tsR,(runX (G k) i))]) fun i hi=>?_
 have hw:=runX_wf (G k) i
 have hw1:=runX_wf (G k) (i+1)
 rw [←hObj2 hw.thin G]
 refine dloop_ok (C:=(⟨Try.prog,G,B⟩:Ctx)) (K:=Dc Try.prog [] [(18,doD (okObj tsP) (okObj tsR) eqXU stepOk)] [DLat 2493 (isSt [.slice true (.ro k) 0 n,.ptr (.rw 28) 0,.ptr (.rw 42) 0,.int .i64 (i:Int),.int .i64 2] ([none,none,none,none,none,none,none,none,none,none,none,none,none,none,none,none,none,none,none,none,none,none,none,none,none,none,none,none]++(objL 29 (encX (runX (G k) (i+1)))++objU 43 (encX (runX (G k) (i+1)))):Hp)) 2 93 [0,3,4,5,7] (.one (.exit 2) [.slice true (.ro (.var 2 k)) (.lit 0) (.var 3 n),.ptr (.rw 0) (.lit 0),.ptr (.rw 14) (.lit 0),.int .i64 (.ofN (.var 4 i)),.undef] (objD 1 (.var 15 (encX (runX (G k) (i+1))))++objE 15 (.var 15 (encX (runX (G k) (i+1))))))] 0) (fuel:=600) (n0:=20) (m:=0) (c:=loopN Try.f6 0)
  (vs:=[.slice true (.ro (.var 2 k)) (.lit 0) (.var 3 n),.ptr (.rw 0) (.lit 0),.ptr (.rw 14) (.lit 0),.int .i64 (.ofN (.var 4 i))]) (H:=(objD 1 (.var 5 (encX (runX (G k) i)))++objE 15 (.var 5 (encX (runX (G k) i))))) (by
   rw [show loopsOf (loopN Try.f6 0)=[loopN Try.f6 1,loopN Try.f6 2] by kernel_rfl]
   exact dgood (mix G B) (by kernel_rfl) (.cons (doD_law G B) .nil) (.cons (i:=2) (by kernel_rfl) rfl (DLat_okC rfl (pp_loopE G B k n i)) (.miss (i:=4) (by kernel_rfl) rfl .nil))) (Nat.zero_le _) ?_
 rw [pp_l]
 have out:LOut.post G 0 (.one (.exit 0) [.undef,.undef,.undef,.undef] []) (.exit 0) [.slice true (.ro k) 0 n,.ptr (.rw 0) 0,.ptr (.rw 14) 0,.int .i64 (i:Int)] (objL 1 (encX (runX (G k) i))++objU 15 (encX (runX (G k) i))):=by
  refine ⟨rfl,.inr ?_⟩
  exact View.same (m:=0) (H:=[]) (G:=objL 1 (encX (runX (G k) i))++objU 15 (encX (runX (G k) i))) (Nat.le_refl _) rfl trivial
 refine ⟨fun h1=>⟨fun h2=>?_,fun h2=>out⟩,fun h1=>out⟩
 have h1':i<n:=by have:=of_decide_eq_true h1;omega
 have h2':i<200:=by have:=of_decide_eq_true h2;omega
 have eS:stepXU [.agg (encX (runX (G k) i)),.agg [.int .i64 (getI (G k) (i*4)),.int .i64 (getI (G k) (i*4+1)),.int .i64 (getI (G k) (i*4+2)),.int .i64 (getI (G k) (i*4+3))]]=encX (runX (G k) (i+1)):=stepXU_enc hw.thin
 rw [eS]
 refine ⟨decide_eq_true (by omega),h1,leafs4 hk.ok h1',okO hw 1,okOU hw 15,eqX_self _,stepOk_at hk h1',isSt_refl,by omega,.inl ⟨by rw [i64_in (by omega)];rfl,?_⟩⟩
 exact obj2 hw1.thin
theorem parents_call (G:Nat→List AV) (B:Nat) (k n:Nat) (hk:StepsAt (G k) n):ACalls (⟨Try.prog,G,B⟩:Ctx) 6 [.slice true (.ro k) 0 n] [] fun v _=>v=.bool true:=by
 have:=dlaw_ok (C:=(⟨Try.prog,G,B⟩:Ctx)) (K:=Dc Try.prog [] [(9,knownS),(10,newQ 2101 tsP),(17,newQ 2251 tsR)] [DLat 2494 (isSt [.slice true (.ro k) 0 n,.ptr (.rw 0) 0,.ptr (.rw 14) 0,.int .i64 0] (objs 0 [(tsP,new0),(tsR,new0)])) 0 93 [0,3,4,5] (.one (.exit 0) [.undef,.undef,.undef,.undef] [])] 0) (fuel:=600) (n0:=20) (f:=6) (fn:=Try.f6) (args:=[.slice true (.ro (.var 2 k)) (.lit 0) (.var 3 n)]) (H:=[]) (R:=fun v _=>v=.bool true) (by
   rw [show loopsOf (bodyOf Try.f6)=[loopN Try.f6 0,loopN Try.f6 1,loopN Try.f6 2] by kernel_rfl]
   exact dgood (mix G B) (by kernel_rfl) (.cons (knownS_ok G B) (.cons (newQ_ok tsP_ok (p_new G B)) (.cons (newQ_ok tsR_ok (r_new G B)) .nil))) (.cons (i:=0) (by kernel_rfl) rfl (DLat_okC rfl (pp_loopL G B k n hk)) (.miss (i:=2) (by kernel_rfl) rfl (.miss (i:=4) (by kernel_rfl) rfl .nil)))) (by kernel_rfl) (by kernel_rfl) (by kernel_rfl) (by
  rw [pp_c]
  refine ⟨?_,rfl⟩
  rw [←obj2 (s:=new0) new0_wf.thin]
  exact isSt_refl)
 exact this
end Go.Am
