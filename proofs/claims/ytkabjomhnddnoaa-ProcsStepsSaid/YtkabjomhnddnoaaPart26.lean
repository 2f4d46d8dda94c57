/-
  A step on both sides, inside a law. Processes: a copy of a process's set.
-/
import Derived.Test.YtkabjomhnddnoaaPart25
import Derived.Test.YtkabjomhnddnoaaPart21
namespace Go.Am
open Crc
variable {C:A3}
def Cq:List AV→List AV:=fun vs=>match vs with
 | [.agg x,.agg el]=>encX (R5 (P7 x) (A0 el 0) (A0 el 1) (A0 el 2) (A0 el 3))
 | _=>[]
open Classical in
noncomputable def Nh:List AV→Bool:=fun vs=>match vs with
 | [.agg x,.agg y]=>decide (x=y)
 | _=>false
open Classical in
noncomputable def Pe:List AV→Bool:=fun vs=>match vs with
 | [.agg el]=>decide (∃ c p a b:Int,el=[.int .i64 c,.int .i64 p,.int .i64 a,.int .i64 b]∧-9223372036854775808≤a)
 | _=>false
theorem bO {x y:List AV}:Nh [.agg x,.agg y]=true↔x=y:=by
 unfold Nh;simp only [decide_eq_true_eq]
theorem cF {el:List AV}:Pe [.agg el]=true↔∃ c p a b:Int,el=[.int .i64 c,.int .i64 p,.int .i64 a,.int .i64 b]∧-9223372036854775808≤a:=by
 unfold Pe;simp only [decide_eq_true_eq]
def bS (L:Nat) (x:EL):List DBlk:=Tq 2101 tsP (L+1) x::Ax 2101 tsP x++(Tq 2251 tsR (L+15) x::Ax 2251 tsR x)
def uI (js:List Nat) (L:Nat) (x:EL):List DHop:=(js.zip (bS L x)).map fun p=>.app p.1 p.2
def doD (ok okr eqx okS:List AV→Bool):DSum:=fun args H=>match args with
 | [.ptr (.rw i) (.lit 0),.ptr (.rw j) (.lit 0),.agg el]=>match Z0 2101 H i,Z0 2251 H j with
  | some o,some q=>match Jn (B7 i o.b++B7 j q.b) with
   | true=>some (.chk (Hv 2101 ok o) (.chk (Hv 2251 okr q) (.chk (.uf 2472 eqx [.agg o.x,.agg q.x]) (.chk (.uf 2473 okS [.agg el]) (.one (.tup [.ptr (.rw H.length) (.lit 0),.ptr (.rw (H.length+14)) (.lit 0),.bool (.lit true)]) (uI (B7 i o.b++B7 j q.b) H.length (.uf 2474 Cq [.agg o.x,.agg el])))))))
   | false=>none
  | _,_=>none
 | _=>none
theorem aF9 {L:Nat} {x:EL}:(bS L x).length=28:=by simp [bS,Ax]
theorem aG0 {G:Nat→List AV} {L:Nat} {x:EL} {s:Ptb} (hx:vL G x=encX s) (hs:U7 s):((bS L x).map (C9 G)).map some=J1 L [(tsP,s),(tsR,s)]:=by
 unfold bS;simp only [List.cons_append,List.map_cons,List.map_append];rw [aR hx hs,aR hx hs,Tm hx hs,Tm hx hs];simp only [J1,P8,L7,List.append_nil,List.cons_append,List.map_map];rfl
theorem yJ {G:Nat→List AV} {js:List Nat} {L:Nat} {x:EL} {s:Ptb} (hx:vL G x=encX s) (hs:U7 s) {H:Hp} (hl:js.length=28) (hj:∀ j∈js,j<H.length):acts H ((uI js L x).map (G2 G))=js.foldl (fun H j=>H.set j none) H++J1 L [(tsP,s),(tsR,s)]:=by
 have e:(uI js L x).map (G2 G)=(js.zip ((bS L x).map (C9 G))).map fun p=>Hop.app p.1 p.2:=by
  unfold uI;rw [List.zip_map_right,List.map_map,List.map_map];exact List.map_congr_left fun p _=>rfl
 have h:=Ri js ((bS L x).map (C9 G)) H [] (by rw [List.length_map,aF9,hl]) hj;rw [List.append_nil,List.nil_append] at h;rw [e,h,aG0 hx hs]
theorem iM {θ:List Nat}:∀ {os:List (TS×Ptb)} {L L':Nat},(∀ o∈os,O7 o.1)→(∀ k,k<14*os.length→θ.getD (L+k) 0=L'+k)→(J1 L os).map (K7 θ)=J1 L' os
 | [],_,_,_,_=>rfl
 | o::os,L,L',ht,h=>by
  simp only [List.length_cons] at h;simp only [J1,List.map_append];rw [Wm (ht o (by simp)) (b:=L+1) (b':=L'+1) fun n hn=>by rw [show L+1+n=L+(1+n) by omega,h (1+n) (by omega)];omega];rw [iM (L:=L+14) (L':=L'+14) (fun o ho=>ht o (by simp [ho])) fun k hk=>by rw [show L+14+k=L+(14+k) by omega,h (14+k) (by omega)];omega]
theorem Ub {m:Nat}:∀ {os:List (TS×Ptb)} {L:Nat},(∀ o∈os,O7 o.1)→L+14*os.length≤m→D7 m (J1 L os)=true
 | [],_,_,_=>rfl
 | o::os,L,ht,h=>by
  simp only [List.length_cons] at h;simp only [J1];exact hpB_app (N3 (ht o (by simp)) (by omega)) (Ub (fun o ho=>ht o (by simp [ho])) (by omega))
theorem nW {m:Nat}:∀ {k:Nat} {K:Hp},D7 m K=true→D7 m (List.replicate k none++K)=true
 | 0,K,h=>h
 | k+1,K,h=>by
  simp only [List.replicate_succ,List.cons_append,D7];exact nW h
theorem kL {tg:Nat} {t:TS} (ht:O7 t) {H:DHp} {i:Nat} {o:OA} {s:Ptb} (ho:Z0 tg H i=some o) (hc:vVs C.G (.agg o.c0::o.cs.map EV.agg)=.agg (t.tb (B3 o.b s) s)::(List.range 13).map fun n=>.agg (I4 t.enc (s.sg n))):Tj t s i o.b (vHp C.G H):=by
 have live:=Gq (C:=C) ht ho hc;refine ⟨?_,fun n hn=>?_⟩
 ·obtain ⟨b0,e,_,g⟩:=live 0 _ rfl;simp only [Option.some.injEq] at e;subst e;have g:(vHp C.G H)[i]?=_:=g;rw [g];simp only [F9];rw [X4 ht (θ:=B7 i o.b) (b:=1) (b':=o.b) fun n hn=>Dy hn]
 ·obtain ⟨b0,e,_,g⟩:=live (1+n) _ (Zp hn);simp only [Option.some.injEq] at e;subst e;rw [Dy hn] at g;rw [g];simp only [F9,Y8 ht]
theorem doD_ok {f:FuncId} (h:∀ s,Wf s→∀ c p a b:Int,-9223372036854775808≤a→ACalls C f [.ptr (.rw 0) 0,.ptr (.rw 14) 0,.agg [.int .i64 c,.int .i64 p,.int .i64 a,.int .i64 b]] (J1 0 [(tsP,s),(tsR,s)]) fun v H'=>v=.tup [.ptr (.rw 28) 0,.ptr (.rw 42) 0,.bool true]∧H'=List.replicate 28 none++J1 28 [(tsP,R5 s c p a b),(tsR,R5 s c p a b)]) :
  G0 C f (doD (F6 tsP) (F6 tsR) Nh Pe):=by
 intro args H o ho;unfold doD at ho;split at ho
 ·rename_i i j el;split at ho
  ·rename_i oa ob hoa hob;split at ho
   ·rename_i hnd;simp only [Option.some.injEq] at ho;subst ho;intro h1 h2 h3 h4;have h1:F6 tsP [.int .i64 (oa.b:Int),.agg (vL C.G oa.x),.tup (vVs C.G (.agg oa.c0::oa.cs.map EV.agg))]=true:=h1;have h2:F6 tsR [.int .i64 (ob.b:Int),.agg (vL C.G ob.x),.tup (vVs C.G (.agg ob.c0::ob.cs.map EV.agg))]=true:=h2;have h3:Nh [.agg (vL C.G oa.x),.agg (vL C.G ob.x)]=true:=h3;have h4:Pe [.agg (vL C.G el)]=true:=h4;obtain ⟨s,hw,hx,hc⟩:=Q9.1 h1;obtain ⟨s2,hw2,hx2,hc2⟩:=Q9.1 h2;have h3:=bO.1 h3
    have es:s2=s:=by
     rw [hx,hx2] at h3;rw [←C7 hw.thin,h3,C7 hw2.thin]
    subst es;obtain ⟨c,p,a,b,hel,ha⟩:=cF.1 h4;rw [Int.toNat_natCast] at hc hc2;have hA:=kL (C:=C) tsP_ok hoa hc;have hB:=kL (C:=C) tsR_ok hob hc2;have hpl:Xw [(tsP,s2),(tsR,s2)] [(i,oa.b),(j,ob.b)] (vHp C.G H):=⟨tsP_ok,hA,tsR_ok,hB,trivial⟩;have ef:L9 [(i,oa.b),(j,ob.b)]=B7 i oa.b++B7 j ob.b:=by simp [L9]
    have lθ:(B7 i oa.b++B7 j ob.b).length=28:=by rw [List.length_append,B5,B5]
    have hw':=hw.stepX c p a b;have l1:(List.replicate 28 none++J1 28 [(tsP,R5 s2 c p a b),(tsR,R5 s2 c p a b)]).length=56:=by rw [List.length_append,List.length_replicate,Ie];rfl
    have l0:(J1 0 [(tsP,s2),(tsR,s2)]).length=28:=by rw [Ie];rfl
    have tok:∀ x:Ptb,∀ o∈[(tsP,x),(tsR,x)],O7 o.1:=fun x o ho=>by
     simp only [List.mem_cons,List.not_mem_nil,or_false] at ho;rcases ho with rfl | rfl
     ·exact tsP_ok
     ·exact tsR_ok
    have hiW:∀ k,k<28→(J0 (B7 i oa.b++B7 j ob.b) H.length 28).getD (28+k) 0=H.length+k:=fun k hk=>by
     unfold J0;simp only [List.getD];rw [List.getElem?_append_right (by rw [lθ];omega),lθ,Nat.add_sub_cancel_left,List.getElem?_map,List.getElem?_range hk];rfl
    have eX:vL C.G (.uf 2474 Cq [.agg oa.x,.agg el])=encX (R5 s2 c p a b):=by
     show Cq [.agg (vL C.G oa.x),.agg (vL C.G el)]=_;rw [hx,hel];show encX (R5 (P7 (encX s2)) c p a b)=_;rw [C7 hw.thin]
    have hcall:=h s2 hw c p a b ha;generalize R5 s2 c p a b=s' at *
    have hlay:lay (J0 (B7 i oa.b++B7 j ob.b) H.length 28) (B7 i oa.b++B7 j ob.b) (List.replicate 28 none++J1 28 [(tsP,s'),(tsR,s')]) (vHp C.G H)=(B7 i oa.b++B7 j ob.b).foldl (fun H j=>H.set j none) (vHp C.G H):=by
     have:=Uj (J0 (B7 i oa.b++B7 j ob.b) H.length 28) (B7 i oa.b++B7 j ob.b) (vHp C.G H)
     rw [lθ] at this;rw [←this];exact Ih.lay_more _ _ _ _ _ (by rw [lθ,List.length_replicate])
    refine E1.fr (θ:=B7 i oa.b++B7 j ob.b) (H0:=J1 0 [(tsP,s2),(tsR,s2)]) (H1:=List.replicate 28 none++J1 28 [(tsP,s'),(tsR,s')]) (v0:=.tup [.ptr (.rw 28) 0,.ptr (.rw 42) 0,.bool true]) (args0:=[.ptr (.rw 0) 0,.ptr (.rw 14) 0,.agg [.int .i64 c,.int .i64 p,.int .i64 a,.int .i64 b]])
     (Mo hnd) (by rw [lθ,l0]) ?_ (by rw [lθ];rfl) ?_ hcall (by rw [l0,l1];omega) (by rw [l1];rfl) ?_ ?_ ?_
    ·intro k b' hb';obtain ⟨b0,e,g1,g2,_⟩:=Uc (θ:=B7 i oa.b++B7 j ob.b) (L:=0) hpl (fun k _=>by rw [ef,Nat.zero_add]) (by rw [lθ];show 0+14*2≤28;omega) k b' hb';rw [ef] at g1;exact ⟨b0,e,g2,g1⟩
    ·show [AV.ptr (.rw i) 0,.ptr (.rw j) 0,.agg (vL C.G el)]=rens _ _;rw [hel];simp only [rens,ren];have e0:(B7 i oa.b++B7 j ob.b).getD 0 0=i:=rfl
     have e1:(B7 i oa.b++B7 j ob.b).getD 14 0=j:=by
      simp only [List.getD];rw [List.getElem?_append_right (by rw [B5];omega),B5];rfl
     rw [e0,e1]
    ·rw [l1];exact nW (Ub (tok _) (by show 28+14*2≤56;omega))
    ·show AV.tup [.ptr (.rw H.length) 0,.ptr (.rw (H.length+14)) 0,.bool true]=_;rw [l1,lθ];simp only [ren,rens];rw [show (28:Nat)=28+0 from rfl,show (42:Nat)=28+14 from rfl,hiW 0 (by omega),hiW 14 (by omega)];rfl
    ·rw [yJ (s:=s') eX hw'.thin lθ (by rw [←ef];exact hpl.lt)];unfold L4;rw [l1,lθ];have ed:(List.replicate 28 none++J1 28 [(tsP,s'),(tsR,s')]).drop 28=J1 28 [(tsP,s'),(tsR,s')]:=List.drop_left' (by simp);rw [ed,C0,iM (L':=H.length) (tok _) (fun k hk=>hiW k (by simpa using hk))];rw [hlay]
   ·cases ho
  ·cases ho
 ·cases ho
end Go.Am
namespace Go.Am
open Go.Proofs Crc
set_option maxRecDepth 100000
def Jg (s:Ptb) (n:Int):Hp:=if isP s n=true then B0 tsP s++[some ⟨1,encP (C1 s n.toNat)⟩] else B0 tsP s
def V8 (s:Ptb) (n:Int):AV:=if isP s n=true then .ptr (.rw 14) 0 else .nilp
theorem p_sig (G:Nat→List AV) (B:Nat) {s:Ptb} (hw:Wf s) (n:Int):ACalls (⟨Try.prog,G,B⟩:A3) 22 [.ptr (.rw 0) 0,.int .i64 n] (B0 tsP s) fun v H'=>v=V8 s n∧H'=Jg s n:=by
 have h:=D3 (C:=(⟨Try.prog,G,B⟩:A3)) (K:=Df Try.prog [(48,1,13)] [36,38,39,20] [(37,Sz N0)] [] 0) (fuel:=300) (n0:=20) (f:=22) (fn:=Try.f22) (args:=[.ptr (.rw 0) (.lit 0),.int .i64 (.var 3 n)]) (H:=(hp3 [some ⟨1,.var 1 (encT 1 s)⟩] (.var 2 (setsL encP s)) [])) (keep:=15)
  (R:=fun v H=>v=V8 s n∧H=Jg s n) (by rw [show loopsOf (bodyOf Try.f22)=[] by kernel_rfl];exact dgoodf (mix G B) (by kernel_rfl) (.cons (Xk (S0 G) (xC G B)) .nil) .nil) (by kernel_rfl) (by kernel_rfl) (by kernel_rfl) (by
  rw [q22];refine ⟨rfl,fun _=>Um 1 (fun hl=>?_) fun hl=>?_,fun h=>by cases h⟩
  ·have h:=I0.1 hl;obtain ⟨p,hp⟩:=hw.live_sg hl;obtain ⟨e1,e2,e3,e4,e5⟩:=Aa (by omega) hp;have ed:C1 s n.toNat=p:=by unfold C1;rw [hp];rfl
   rw [e3,e4,e5];refine ⟨decide_eq_true (by omega),decide_eq_true (by omega),(fun h=>by rw [e1] at h;cases h),fun _=>⟨e2,rfl,A6.2 (by omega),D6 _ 13,A6.2 (by rw [F8];omega),O8 p,?_,?_⟩⟩
   ·unfold V8;rw [if_pos hl]
   ·unfold Jg;rw [if_pos hl,ed,←hT G s];rfl
  ·refine ⟨?_,?_⟩
   ·unfold V8;rw [hl];rfl
   ·unfold Jg;rw [hl,←hT G s];rfl)
 rw [hT] at h;have b14:D7 15 (B0 tsP s)=true:=N3 tsP_ok (s:=s) (b:=1) (by omega);cases hc:isP s n with
 | true=>
  have e1:Jg s n=B0 tsP s++[some ⟨1,encP (C1 s n.toNat)⟩]:=by unfold Jg;rw [if_pos hc]
  have e2:V8 s n=.ptr (.rw 14) 0:=by unfold V8;rw [if_pos hc]
  have hl:(Jg s n).length=15:=by rw [e1];simp [A9]
  refine ACalls.keep (k:=15) h (by rw [hl,A9];omega) ?_ (by rw [hl,e2];rfl) (by rw [e2];simp);rw [hl,e1];exact hpB_app b14 (by simp only [D7,N7 15 _,Bool.and_self])
 | false=>
  have e1:Jg s n=B0 tsP s:=by unfold Jg;rw [hc];rfl
  have e2:V8 s n=.nilp:=by unfold V8;rw [hc];rfl
  refine ACalls.keep (k:=15) h (by rw [e1];exact Nat.le_refl _) ?_ (by rw [e2];rfl) (by rw [e2];simp);rw [e1,A9];exact Bi tsP_ok s
variable {C:A3}
def Bz:List AV→List AV:=fun vs=>match vs with
 | [.agg x,.int _ n]=>encP (C1 (P7 x) n.toNat)
 | _=>[]
def sigQ (tg:Nat) (ok:List AV→Bool):DSum:=fun args H=>match args with
 | [.ptr (.rw i) (.lit 0),.int .i64 n]=>match Z0 tg H i with
  | some o=>some (.chk (Hv tg ok o) (.tst (.uf 2436 (E9 isP) [.agg o.x,.int .i64 n]) (.one (.ptr (.rw H.length) (.lit 0)) [.new ⟨1,.uf 2491 Bz [.agg o.x,.int .i64 n]⟩]) (.one .nilp [])))
  | none=>none
 | _=>none
theorem sigQ_ok {tg:Nat} {f:FuncId} (h:∀ s,Wf s→∀ n,ACalls C f [.ptr (.rw 0) 0,.int .i64 n] (B0 tsP s) fun v H'=>v=V8 s n∧H'=Jg s n):G0 C f (sigQ tg (F6 tsP)):=by
 intro args H o ho;unfold sigQ at ho;split at ho
 ·rename_i i n;split at ho
  ·rename_i oa hoa;simp only [Option.some.injEq] at ho;subst ho;intro h1;have h1:F6 tsP [.int .i64 (oa.b:Int),.agg (vL C.G oa.x),.tup (vVs C.G (.agg oa.c0::oa.cs.map EV.agg))]=true:=h1;obtain ⟨s,hw,hx,hc⟩:=Q9.1 h1;rw [Int.toNat_natCast] at hc;have live:=Gq tsP_ok hoa hc;have hcall:=h s hw (vI C.G n)
   have eb:vB C.G (.uf 2436 (E9 isP) [.agg oa.x,.int .i64 n])=isP s (vI C.G n):=by
    show E9 isP [.agg (vL C.G oa.x),.int .i64 (vI C.G n)]=_;rw [hx,Rx hw.thin]
   have nd:=Fa (Fp hoa).1
   have same:∀ k,lay (J0 (B7 i oa.b) (vHp C.G H).length k) (B7 i oa.b) (B0 tsP s) (vHp C.G H)=vHp C.G H:=fun k=>by
    refine Ft _ _ _ _ fun q b hk hb=>?_;obtain ⟨b0,rfl,g1,g2⟩:=live q b hb;rw [g2];simp only [K7,Option.map_some,F9,Z8 _ g1]
   refine ⟨fun hb=>?_,fun hb=>?_⟩
   ·rw [eb] at hb;have e1:Jg s (vI C.G n)=B0 tsP s++[some ⟨1,encP (C1 s (vI C.G n).toNat)⟩]:=by unfold Jg;rw [if_pos hb]
    have e2:V8 s (vI C.G n)=.ptr (.rw 14) 0:=by unfold V8;rw [if_pos hb]
    rw [e1,e2] at hcall;have l15:(B0 tsP s++[some (⟨1,encP (C1 s (vI C.G n).toNat)⟩:Blk)]).length=15:=by simp [A9]
    have eX:vL C.G (.uf 2491 Bz [.agg oa.x,.int .i64 n])=encP (C1 s (vI C.G n).toNat):=by
     show Bz [.agg (vL C.G oa.x),.int .i64 (vI C.G n)]=_;rw [hx];show encP (C1 (P7 (encX s)) _)=_;rw [C7 hw.thin]
    refine E1.fr (θ:=B7 i oa.b) (H0:=B0 tsP s) (H1:=B0 tsP s++[some ⟨1,encP (C1 s (vI C.G n).toNat)⟩]) (v0:=.ptr (.rw 14) 0) (args0:=[.ptr (.rw 0) 0,.int .i64 (vI C.G n)]) nd (by rw [B5,A9]) live (by rw [B5];rfl) rfl hcall (by rw [l15,A9];omega) (by rw [l15];rfl) ?_ ?_ ?_
    ·rw [l15];exact hpB_app (N3 tsP_ok (s:=s) (b:=1) (by omega)) (by simp only [D7,N7 15 _,Bool.and_self])
    ·rw [l15,B5];show AV.ptr (.rw H.length) 0=AV.ptr (.rw ((J0 (B7 i oa.b) H.length 1).getD (14+0) 0)) 0;rw [Ia (by omega),Nat.add_zero]
    ·unfold L4;rw [l15,B5,List.drop_left' A9,Ih.lay_more _ _ _ _ _ (by rw [B5,A9]),same];show vHp C.G H++[some (⟨1,vL C.G (.uf 2491 Bz [.agg oa.x,.int .i64 n])⟩:Blk)]=_;rw [eX];simp only [List.map_cons,List.map_nil,K7,Option.map_some,F9,E0 _ _ (N7 0 _)]
   ·rw [eb] at hb;have e1:Jg s (vI C.G n)=B0 tsP s:=by unfold Jg;rw [hb];rfl
    have e2:V8 s (vI C.G n)=.nilp:=by unfold V8;rw [hb];rfl
    rw [e1,e2] at hcall;refine E1.fr (θ:=B7 i oa.b) (H0:=B0 tsP s) (H1:=B0 tsP s) (v0:=.nilp) (args0:=[.ptr (.rw 0) 0,.int .i64 (vI C.G n)]) nd (by rw [B5,A9]) live (by rw [B5];rfl) rfl hcall (Nat.le_refl _) rfl (by rw [A9];exact Bi tsP_ok s) rfl ?_;unfold L4;rw [A9,B5,Nat.sub_self,List.drop_of_length_le (by rw [A9];omega)];show vHp C.G H=lay _ _ _ _++[];rw [List.append_nil];exact (same 0).symm
  ·cases ho
 ·cases ho
end Go.Am
namespace Go.Am
open Go.Proofs Crc
set_option maxRecDepth 100000
end Go.Am
namespace Go.Am
open Go.Proofs Crc
set_option maxRecDepth 100000
variable {C:A3}
def Up:List AV→Bool:=fun vs=>match vs with
 | [.int _ n]=>decide (0≤n)&&decide (n≤15)
 | _=>false
def sR (s:Side):DSum:=Lt s fun i l rest=>match rest with
 | [.int .i64 n]=>some (.chk (.uf 2497 Up [.int .i64 n]) (.one (Jv 0) [.set i ⟨1,s.put (.uf 1010 Gi [.agg l,.int .i64 n])⟩]))
 | _=>none
theorem aA6 {s:Side} {enc:Sg→List AV} (hs:Q5 C.G s enc) {f:FuncId} (h:Xv C f enc):G0 C f (sR s):=by
 intro args H o ho;have key:=aA4 hs h args H;unfold sR Lt at ho;unfold sendS Lt at key;split at ho
 ·rename_i i rest;split at ho
  ·rename_i cs hi;split at ho
   ·rename_i b l hg;split at ho
    ·rename_i o' hk;dsimp only at hk;split at hk
     ·rename_i n;simp only [Option.some.injEq] at hk ho;subst hk;subst ho;simp only [hi,hg] at key;have key:=key _ rfl;intro hb hn;have hn:Up [.int .i64 (vI C.G n)]=true:=hn;simp only [Up,Bool.and_eq_true,decide_eq_true_eq] at hn;refine ((key hb).2 ?_).2 ?_
      ·show decide (vI C.G n<0)=false;exact decide_eq_false (by omega)
      ·show decide (vI C.G n>15)=false;exact decide_eq_false (by omega)
     ·cases hk
    ·cases ho
   ·cases ho
  ·cases ho
 ·cases ho
end Go.Am
namespace Go.Am
open Go.Proofs Crc
set_option maxRecDepth 100000
theorem t82 (G:Nat→List AV) (cs:List AV) (Q:Ex→List AV→Hp→Prop) (R:AV→Hp→Prop):vT G Q R (D0 (Dc Try.prog [] [] [] 0) 200 10 Try.f82 [.ptr (.rw 0) (.lit 0)] [some ⟨1,.uf 1002 B1 [.agg (.var 1 cs)]⟩] 2)=(
  leB (48) (List.length (B1 [.agg cs]))=true∧cellsB (subL (B1 [.agg cs]) (0) (48))=true∧Nat.beq (List.length (subL (B1 [.agg cs]) (0) (48))) (48)=true∧R (.ptr (.rw 1) (0)) [some ⟨1,(B1 [.agg cs])⟩,some ⟨1,(subL (B1 [.agg cs]) (0) (48))⟩]):=by kernel_rfl
theorem t82n (G:Nat→List AV) (cs:List AV) (Q:Ex→List AV→Hp→Prop) (R:AV→Hp→Prop):vT G Q R (D0 (Dc Try.prog [] [] [] 0) 200 10 Try.f82 [.nilp] [] 0)=(
  R (.nilp) []):=by kernel_rfl
theorem aP2 (G:Nat→List AV) (B:Nat):Mb (⟨Try.prog,G,B⟩:A3) 82 encR (fun _=>.ptr (.rw 1) 0) encR:=by
 intro p;refine New.ofR (C:=(⟨Try.prog,G,B⟩:A3)) (aN G B) (by kernel_rfl) (by kernel_rfl) (by kernel_rfl) (U6 _ _) (by simp [bnd]) (by simp) (fuel:=200) (n0:=10) (fn:=Try.f82) ?_;rw [t82,E3];have hl:(encR p).length=48:=by rw [As,Rr]
 have e:subL (encR p) 0 48=encR p:=by
  unfold subL;rw [List.drop_zero,List.take_of_length_le (by omega)]
 rw [e];refine ⟨A6.2 (by omega),?_,by rw [hl];rfl,rfl,rfl⟩;rw [As];rfl
theorem aP1 (G:Nat→List AV) (B:Nat):ACalls (⟨Try.prog,G,B⟩:A3) 82 [.nilp] [] fun v H'=>v=.nilp∧H'=[]:=by
 have:=D3 (C:=(⟨Try.prog,G,B⟩:A3)) (f:=82) (args:=[.nilp]) (H:=[]) (keep:=0) (R:=fun v H'=>v=.nilp∧H'=[]) (dgood (inl:=[]) (sums:=[]) (ls:=[]) (M:=0) (cs:=[]) (mix G B) (by kernel_rfl) .nil .nil) (by kernel_rfl) (by kernel_rfl) (by kernel_rfl) (fuel:=200) (n0:=10) (by rw [t82n G []];exact ⟨rfl,rfl⟩)
 exact this.keep (Nat.zero_le _) rfl rfl (by simp)
variable {C:A3}
def eA (s:Side):DSum:=fun args H=>match args with
 | [.nilp]=>some (.one .nilp [])
 | args=>Sz s args H
theorem u63 (G:Nat→List AV) (rd:List AV→Bool) (pu:List AV→List AV) (tb sl:List AV) (n:Int) (Q:Ex→List AV→Hp→Prop) (R:AV→Hp→Prop):vT G Q R (D0 (Df Try.prog [(75,1,13)] [] [(82,eA (Jh (rd) (pu)))] [] 0) 300 20 Try.f63 [.ptr (.rw 0) (.lit 0),.int .i64 (.var 3 n)] (hp3 [some ⟨1,.var 1 tb⟩] (.var 2 sl) []) 15)=(
  (decide ((n:Int)<1)=true→R (.nilp) ([some ⟨1,tb⟩]++A2 sl))∧(decide ((n:Int)<1)=false→(decide ((n:Int)>12)=true→R (.nilp) ([some ⟨1,tb⟩]++A2 sl))∧(decide ((n:Int)>12)=false→decide ((0:Int)≤n)=true∧decide ((n:Int)<13)=true∧(B4 tb (Int.toNat (n)+78)=true→R (.nilp) ([some ⟨1,tb⟩]++A2 sl))∧(B4 tb (Int.toNat (n)+78)=false→J4 1 13 tb (Int.toNat (n)+78)=true∧Nat.beq (K4 tb (Int.toNat (n)+78)) (0)=true∧leB (A4 1 tb (Int.toNat (n)+78)+1) (13)=true∧rowsA sl (rp 13 sl)=true∧leB (A4 1 tb (Int.toNat (n)+78)+1) (List.length sl)=true∧(rd) [.agg (A1 sl (A4 1 tb (Int.toNat (n)+78)))]=true∧R (.ptr (.rw 14) (0)) ([some ⟨1,tb⟩]++(A2 sl++([some ⟨1,(B1 [.agg ((pu) [.agg (A1 sl (A4 1 tb (Int.toNat (n)+78)))])])⟩]))))))):=by kernel_rfl
end Go.Am
namespace Go.Am
open Go.Proofs Crc
set_option maxRecDepth 100000
theorem yE {C:A3} {s:Side} {enc:Sg→List AV} (hs:Q5 C.G s enc) {f:FuncId} (h:Mb C f enc (fun _=>.ptr (.rw 1) 0) enc) (h0:ACalls C f [.nilp] [] fun v H'=>v=.nilp∧H'=[]):G0 C f (eA s):=by
 intro args H o ho;unfold eA at ho;split at ho
 ·simp only [Option.some.injEq] at ho;subst ho;refine E1.fr (θ:=[]) (H0:=[]) (H1:=[]) (v0:=.nilp) (args0:=[.nilp]) List.nodup_nil rfl (fun k b hk=>by simp at hk) rfl rfl h0 (Nat.le_refl _) rfl rfl rfl ?_;show vHp C.G H=vHp C.G H++[];rw [List.append_nil]
 ·exact Xk hs h _ _ _ ho
def Ic (s:Ptb) (n:Int):Hp:=if isP s n=true then B0 tsR s++[some ⟨1,encR (C1 s n.toNat)⟩] else B0 tsR s
theorem r_sig (G:Nat→List AV) (B:Nat) {s:Ptb} (hw:Wf s) (n:Int):ACalls (⟨Try.prog,G,B⟩:A3) 63 [.ptr (.rw 0) 0,.int .i64 n] (B0 tsR s) fun v H'=>v=V8 s n∧H'=Ic s n:=by
 have h:=D3 (C:=(⟨Try.prog,G,B⟩:A3)) (K:=Df Try.prog [(75,1,13)] [] [(82,eA W2)] [] 0) (fuel:=300) (n0:=20) (f:=63) (fn:=Try.f63) (args:=[.ptr (.rw 0) (.lit 0),.int .i64 (.var 3 n)]) (H:=(hp3 [some ⟨1,.var 1 (B2 1 s)⟩] (.var 2 (setsL encR s)) [])) (keep:=15)
  (R:=fun v H=>v=V8 s n∧H=Ic s n) (by rw [show loopsOf (bodyOf Try.f63)=[] by kernel_rfl];exact dgoodf (mix G B) (by kernel_rfl) (.cons (yE (Fc G) (aP2 G B) (aP1 G B)) .nil) .nil) (by kernel_rfl) (by kernel_rfl) (by kernel_rfl) (by
  unfold W2;rw [u63]
  have no:isP s n=false→(AV.nilp=V8 s n∧[some (⟨1,B2 1 s⟩:Blk)]++A2 (setsL encR s)=Ic s n):=fun hl=>by
   refine ⟨?_,?_⟩
   ·unfold V8;rw [hl];rfl
   ·unfold Ic;rw [hl,←hU G s];rfl
  have out:¬(1≤n∧n≤12∧(s.at_ n.toNat).num=n)→isP s n=false:=fun h=>by
   cases e:isP s n with
   | false=>rfl
   | true=>exact absurd (I0.1 e) h
  refine ⟨fun h1=>no (out fun h=>?_),fun h1=>⟨fun h2=>no (out fun h=>?_),fun h2=>?_⟩⟩
  ·have:=of_decide_eq_true h1;omega
  ·have:=of_decide_eq_true h2;omega
  have h1:=of_decide_eq_false h1;have h2:=of_decide_eq_false h2;refine ⟨decide_eq_true (by omega),decide_eq_true (by omega),?_⟩;have hptr:=U_ptr (b:=1) (s:=s) (n:=n.toNat) (by omega);rcases hw.p n.toNat with ⟨e1,e2⟩ | ⟨e1,_,_,e2,_⟩
  ·have en:B4 (B2 1 s) (n.toNat+78)=true:=by rw [Gk hptr,e2];rfl
   refine ⟨fun _=>no (out fun h=>?_),fun h=>by rw [en] at h;cases h⟩;rw [e1] at h
   have:(0:Int)=n:=h.2.2
   omega
  ·obtain ⟨p,hp⟩:=Option.isSome_iff_exists.1 e2;have hl:isP s n=true:=I0.2 ⟨by omega,by omega,by omega⟩;obtain ⟨f1,f2,f3,f4,f5⟩:=Gt (by omega) hp;have ed:C1 s n.toNat=p:=by unfold C1;rw [hp];rfl
   rw [f3,f4,f5,Ai,E3];refine ⟨(fun h=>by rw [f1] at h;cases h),fun _=>⟨f2,rfl,A6.2 (by omega),D6 _ 13,A6.2 (by rw [F8];omega),Cc p,?_,?_⟩⟩
   ·unfold V8;rw [if_pos hl]
   ·unfold Ic;rw [if_pos hl,ed,←hU G s];rfl)
 rw [hU] at h;have b14:D7 15 (B0 tsR s)=true:=N3 tsR_ok (s:=s) (b:=1) (by omega);cases hc:isP s n with
 | true=>
  have e1:Ic s n=B0 tsR s++[some ⟨1,encR (C1 s n.toNat)⟩]:=by unfold Ic;rw [if_pos hc]
  have e2:V8 s n=.ptr (.rw 14) 0:=by unfold V8;rw [if_pos hc]
  have hl:(Ic s n).length=15:=by rw [e1];simp [A9]
  refine ACalls.keep (k:=15) h (by rw [hl,A9];omega) ?_ (by rw [hl,e2];rfl) (by rw [e2];simp);rw [hl,e1];exact hpB_app b14 (by simp only [D7,U6 15 _,Bool.and_self])
 | false=>
  have e1:Ic s n=B0 tsR s:=by unfold Ic;rw [hc];rfl
  have e2:V8 s n=.nilp:=by unfold V8;rw [hc];rfl
  refine ACalls.keep (k:=15) h (by rw [e1];exact Nat.le_refl _) ?_ (by rw [e2];rfl) (by rw [e2];simp);rw [e1,A9];exact Bi tsR_ok s
end Go.Am
namespace Go.Am
open Go.Proofs Crc
set_option maxRecDepth 100000
variable {C:A3}
def Km:List AV→List AV:=fun vs=>match vs with
 | [.agg x,.int _ n]=>encR (C1 (P7 x) n.toNat)
 | _=>[]
def sO (tg:Nat) (ok:List AV→Bool):DSum:=fun args H=>match args with
 | [.ptr (.rw i) (.lit 0),.int .i64 n]=>match Z0 tg H i with
  | some o=>some (.chk (Hv tg ok o) (.tst (.uf 2436 (E9 isP) [.agg o.x,.int .i64 n]) (.one (.ptr (.rw H.length) (.lit 0)) [.new ⟨1,.uf 2498 Km [.agg o.x,.int .i64 n]⟩]) (.one .nilp [])))
  | none=>none
 | _=>none
theorem sigRQ_ok {tg:Nat} {f:FuncId} (h:∀ s,Wf s→∀ n,ACalls C f [.ptr (.rw 0) 0,.int .i64 n] (B0 tsR s) fun v H'=>v=V8 s n∧H'=Ic s n):G0 C f (sO tg (F6 tsR)):=by
 intro args H o ho;unfold sO at ho;split at ho
 ·rename_i i n;split at ho
  ·rename_i oa hoa;simp only [Option.some.injEq] at ho;subst ho;intro h1;have h1:F6 tsR [.int .i64 (oa.b:Int),.agg (vL C.G oa.x),.tup (vVs C.G (.agg oa.c0::oa.cs.map EV.agg))]=true:=h1;obtain ⟨s,hw,hx,hc⟩:=Q9.1 h1;rw [Int.toNat_natCast] at hc;have live:=Gq tsR_ok hoa hc;have hcall:=h s hw (vI C.G n)
   have eb:vB C.G (.uf 2436 (E9 isP) [.agg oa.x,.int .i64 n])=isP s (vI C.G n):=by
    show E9 isP [.agg (vL C.G oa.x),.int .i64 (vI C.G n)]=_;rw [hx,Rx hw.thin]
   have nd:=Fa (Fp hoa).1
   have same:∀ k,lay (J0 (B7 i oa.b) (vHp C.G H).length k) (B7 i oa.b) (B0 tsR s) (vHp C.G H)=vHp C.G H:=fun k=>by
    refine Ft _ _ _ _ fun q b hk hb=>?_;obtain ⟨b0,rfl,g1,g2⟩:=live q b hb;rw [g2];simp only [K7,Option.map_some,F9,Z8 _ g1]
   refine ⟨fun hb=>?_,fun hb=>?_⟩
   ·rw [eb] at hb;have e1:Ic s (vI C.G n)=B0 tsR s++[some ⟨1,encR (C1 s (vI C.G n).toNat)⟩]:=by unfold Ic;rw [if_pos hb]
    have e2:V8 s (vI C.G n)=.ptr (.rw 14) 0:=by unfold V8;rw [if_pos hb]
    rw [e1,e2] at hcall;have l15:(B0 tsR s++[some (⟨1,encR (C1 s (vI C.G n).toNat)⟩:Blk)]).length=15:=by simp [A9]
    have eX:vL C.G (.uf 2498 Km [.agg oa.x,.int .i64 n])=encR (C1 s (vI C.G n).toNat):=by
     show Km [.agg (vL C.G oa.x),.int .i64 (vI C.G n)]=_;rw [hx];show encR (C1 (P7 (encX s)) _)=_;rw [C7 hw.thin]
    refine E1.fr (θ:=B7 i oa.b) (H0:=B0 tsR s) (H1:=B0 tsR s++[some ⟨1,encR (C1 s (vI C.G n).toNat)⟩]) (v0:=.ptr (.rw 14) 0) (args0:=[.ptr (.rw 0) 0,.int .i64 (vI C.G n)]) nd (by rw [B5,A9]) live (by rw [B5];rfl) rfl hcall (by rw [l15,A9];omega) (by rw [l15];rfl) ?_ ?_ ?_
    ·rw [l15];exact hpB_app (N3 tsR_ok (s:=s) (b:=1) (by omega)) (by simp only [D7,U6 15 _,Bool.and_self])
    ·rw [l15,B5];show AV.ptr (.rw H.length) 0=AV.ptr (.rw ((J0 (B7 i oa.b) H.length 1).getD (14+0) 0)) 0;rw [Ia (by omega),Nat.add_zero]
    ·unfold L4;rw [l15,B5,List.drop_left' A9,Ih.lay_more _ _ _ _ _ (by rw [B5,A9]),same];show vHp C.G H++[some (⟨1,vL C.G (.uf 2498 Km [.agg oa.x,.int .i64 n])⟩:Blk)]=_;rw [eX];simp only [List.map_cons,List.map_nil,K7,Option.map_some,F9,E0 _ _ (U6 0 _)]
   ·rw [eb] at hb;have e1:Ic s (vI C.G n)=B0 tsR s:=by unfold Ic;rw [hb];rfl
    have e2:V8 s (vI C.G n)=.nilp:=by unfold V8;rw [hb];rfl
    rw [e1,e2] at hcall;refine E1.fr (θ:=B7 i oa.b) (H0:=B0 tsR s) (H1:=B0 tsR s) (v0:=.nilp) (args0:=[.ptr (.rw 0) 0,.int .i64 (vI C.G n)]) nd (by rw [B5,A9]) live (by rw [B5];rfl) rfl hcall (Nat.le_refl _) rfl (by rw [A9];exact Bi tsR_ok s) rfl ?_;unfold L4;rw [A9,B5,Nat.sub_self,List.drop_of_length_le (by rw [A9];omega)];show vHp C.G H=lay _ _ _ _++[];rw [List.append_nil];exact (same 0).symm
  ·cases ho
 ·cases ho
end Go.Am
namespace Go.Am
open Go.Proofs Crc
set_option maxRecDepth 100000
def smAll:List (Nat×DSum):=[(77,bJ N0),(78,bJ Eh),(25,tI N0),(79,tI Eh),(34,sameIntsS),(80,dR N0),(81,dR Eh)]
theorem lS (G:Nat→List AV) (B:Nat):T4 (⟨Try.prog,G,B⟩:A3) smAll:=
 .cons (aI (S0 _) (xA G B)) (.cons (aI (By _) (tD G B)) (.cons (mN (S0 _) (p_pend G B)) (.cons (mN (By _) (aO6 G B)) (.cons (Wh G B) (.cons (bI (S0 _) (p_held G B)) (.cons (bI (By _) (qO G B)) .nil))))))
theorem dgSm (G:Nat→List AV) (B:Nat):I9 (⟨Try.prog,G,B⟩:A3) (Dc Try.prog [] smAll [] 2) []:=dgood (mix G B) (by kernel_rfl) (lS G B) .nil
theorem sml_b (G:Nat→List AV) (cs:List AV) (i:Int) (Q:Ex→List AV→Hp→Prop) (R:AV→Hp→Prop):vT G Q R (J6 (Dc Try.prog [] smAll [] 2) 300 10 2 (loopN Try.f62 0) 53 [0,1,4,5] [.ptr (.rw 0) (.lit 0),.ptr (.rw 1) (.lit 0),.bool (.lit false),.int .i64 (.var 6 i)] [some ⟨1,.var 1 cs⟩,some ⟨1,.uf 1002 B1 [.agg (.var 1 cs)]⟩])=(
  (decide ((i:Int)≤15)=true→okU [.agg cs]=true∧(decide ((i:Int)<1)=true→okRU [.agg (B1 [.agg cs]),.agg cs]=true∧decide ((i:Int)<1)=true∧Q .normal [.ptr (.rw 0) (0),.ptr (.rw 1) (0),.bool (false),.int .i64 (IntKind.wrap .i64 (i+1))] [some ⟨1,cs⟩,some ⟨1,(B1 [.agg cs])⟩])∧(decide ((i:Int)<1)=false→(!(decide ((i:Int)>15)))=true∧okRU [.agg (B1 [.agg cs]),.agg cs]=true∧(!(decide ((i:Int)<1)))=true∧(!(decide ((i:Int)>15)))=true∧((atU [.agg cs,.int .i64 (i)]:Int)==atU [.agg cs,.int .i64 (i)])=true∧Q .normal [.ptr (.rw 0) (0),.ptr (.rw 1) (0),.bool (false),.int .i64 (IntKind.wrap .i64 (i+1))] [some ⟨1,cs⟩,some ⟨1,(B1 [.agg cs])⟩]))∧(decide ((i:Int)≤15)=false→Q (.exit 0) [.ptr (.rw 0) (0),.ptr (.rw 1) (0),.bool (false),.int .i64 (i)] [some ⟨1,cs⟩,some ⟨1,(B1 [.agg cs])⟩])):=by kernel_rfl
def J62 (p:Sg) (j:Nat) (vs:List AV) (H:Hp):Prop:=∃ i:Int,1≤i∧i≤16∧j=(16 - i).toNat∧vs=[.ptr (.rw 0) 0,.ptr (.rw 1) 0,.bool false,.int .i64 i]∧H=[some ⟨1,encP p⟩,some ⟨1,encR p⟩]
theorem aA0 (G:Nat→List AV) (B:Nat) (p:Sg):AWp (⟨Try.prog,G,B⟩:A3) 2 (.loop (loopN Try.f62 0)) (fl 53 [0,1,4,5] [.ptr (.rw 0) 0,.ptr (.rw 1) 0,.bool false,.int .i64 1]) [some ⟨1,encP p⟩,some ⟨1,encR p⟩]
  (lv 53 [0,1,4,5] fun e vs H=>e=.exit 0∧wk [.ptr (.rw 0) 0,.ptr (.rw 1) 0,.bool false,.undef] vs∧H=[some ⟨1,encP p⟩,some ⟨1,encR p⟩]):=by
 refine Ci (J62 p) 15 ⟨1,by omega,by omega,rfl,rfl,rfl⟩ ?_;rintro j vs H ⟨i,hi1,hi2,rfl,rfl,rfl⟩
 have key:=E2 (C:=(⟨Try.prog,G,B⟩:A3)) (dgSm G B) (fuel:=300) (n0:=10) (m:=2) (c:=loopN Try.f62 0) (N:=53) (live:=[0,1,4,5]) (vs:=[.ptr (.rw 0) (.lit 0),.ptr (.rw 1) (.lit 0),.bool (.lit false),.int .i64 (.var 6 i)]) (H:=[some ⟨1,.var 1 (encP p)⟩,some ⟨1,.uf 1002 B1 [.agg (.var 1 (encP p))]⟩])
  (Q:=fun e vs' H'=>match e with
   | .normal=>∃ k',k'<(16 - i).toNat∧(J62 p k' vs' H'∨∃ vs'' H'',J62 p k' vs'' H''∧C8 2 vs'' H'' vs' H')
   | e=>e=.exit 0∧wk [.ptr (.rw 0) 0,.ptr (.rw 1) 0,.bool false,.undef] vs'∧H'=[some ⟨1,encP p⟩,some ⟨1,encR p⟩]) (by simp) (by
  rw [sml_b,E3]
  have nx:i≤15→∃ k',k'<(16 - i).toNat∧(J62 p k' [.ptr (.rw 0) 0,.ptr (.rw 1) 0,.bool false,.int .i64 (IntKind.wrap .i64 (i+1))] [some ⟨1,encP p⟩,some ⟨1,encR p⟩]∨∃ vs'' H'',J62 p k' vs'' H''∧C8 2 vs'' H'' [.ptr (.rw 0) 0,.ptr (.rw 1) 0,.bool false,.int .i64 (IntKind.wrap .i64 (i+1))] [some ⟨1,encP p⟩,some ⟨1,encR p⟩]):=fun h=>
   ⟨(16 - (i+1)).toNat,by omega,.inl ⟨i+1,by omega,by omega,rfl,by rw [D9 (by omega)],rfl⟩⟩
  repeat' first | refine And.intro ?_ ?_ | intro _
  all_goals first
   | assumption
   | exact O8 p
   | exact Fo p
   | rfl
   | (exact nx (of_decide_eq_true (by assumption)))
   | (exact nx (by simp_all;omega))
   | (simp [wk];done)
   | (simp_all;done)
   | (exfalso;simp only [decide_eq_true_eq,decide_eq_false_iff_not] at *;omega))
 simp only [vVs,vV,vR,vN,vI,vB,vHp,List.map_cons,List.map_nil,Option.map_some,C9,vL,E3] at key;exact key
def smLL:DL:=⟨0,53,[0,1,4,5],fun vs H=>match vs,H with
 | [.ptr (.rw 0) (.lit 0),.ptr (.rw 1) (.lit 0),.bool (.lit false),.int .i64 (.lit 1)],[some ⟨1,l⟩,some ⟨1,r⟩]=>
  some (.chk (.uf 1003 okRU [.agg r,.agg l]) (.one (.exit 0) [.ptr (.rw 0) (.lit 0),.ptr (.rw 1) (.lit 0),.bool (.lit false),.undef] [some ⟨1,l⟩,some ⟨1,r⟩]))
 | _,_=>none⟩
theorem aM9 (G:Nat→List AV) (B:Nat):O9 (⟨Try.prog,G,B⟩:A3) 2 (loopN Try.f62 0) smLL:=by
 refine .of fun vs H o ho n Q hQ=>?_;simp only [smLL] at ho;split at ho
 ·rename_i l r;simp only [Option.some.injEq] at ho;subst ho;obtain ⟨h1,h2⟩:=hQ;simp only [vB,vVs,vV,okRU,Bool.and_eq_true] at h1;have e1:=Pk h1.1;have e2:=Ot h1.2;refine lone ?_ h2;simp only [smLL,vVs,vV,vR,vN,vI,vB,vHp,List.map_cons,List.map_nil,Option.map_some,C9];rw [e2,e1,E8];exact aA0 G B _
 ·simp at ho
theorem dgSmT (G:Nat→List AV) (B:Nat):I9 (⟨Try.prog,G,B⟩:A3) (Dc Try.prog [] smAll [smLL] 2) (loopsOf (bodyOf Try.f62)):=dgood (mix G B) (by kernel_rfl) (lS G B) (.cast (.cons (i:=0) (by kernel_rfl) rfl (aM9 G B) .nil) (by kernel_rfl))
theorem t62 (G:Nat→List AV) (cs:List AV) (Q:Ex→List AV→Hp→Prop) (R:AV→Hp→Prop):vT G Q R (D0 (Dc Try.prog [] smAll [smLL] 2) 300 10 Try.f62 [.ptr (.rw 0) (.lit 0),.ptr (.rw 1) (.lit 0)] [some ⟨1,.var 1 cs⟩,some ⟨1,.uf 1002 B1 [.agg (.var 1 cs)]⟩] 2)=(
  okRU [.agg (B1 [.agg cs]),.agg cs]=true∧okU [.agg cs]=true∧okRU [.agg (B1 [.agg cs]),.agg cs]=true∧X3 [.agg (Jm [.agg cs]),.ptr (.rw 0) (Fj [.agg cs]),.agg (Jm [.agg cs]),.ptr (.rw 0) (Fj [.agg cs])]=true∧okU [.agg cs]=true∧okRU [.agg (B1 [.agg cs]),.agg cs]=true∧R (.bool (((Eo [.agg cs]:Int)==Eo [.agg cs]))) [some ⟨1,cs⟩,some ⟨1,(B1 [.agg cs])⟩]):=by kernel_rfl
theorem t62n (G:Nat→List AV) (cs:List AV) (Q:Ex→List AV→Hp→Prop) (R:AV→Hp→Prop):vT G Q R (D0 (Dc Try.prog [] smAll [smLL] 2) 300 10 Try.f62 [.nilp,.nilp] [] 0)=(
  R (.bool (true)) []):=by kernel_rfl
theorem t23n (G:Nat→List AV) (n:Int) (Q:Ex→List AV→Hp→Prop) (R:AV→Hp→Prop):vT G Q R (D0 (Dc Try.prog [55,56] [] [] 0) 200 10 Try.f23 [.nilp,.int .i64 (.var 2 n)] [] 0)=(
  R (.int .i64 (1)) []):=by kernel_rfl
theorem t64n (G:Nat→List AV) (n:Int) (Q:Ex→List AV→Hp→Prop) (R:AV→Hp→Prop):vT G Q R (D0 (Dc Try.prog [55,56] [] [] 0) 200 10 Try.f64 [.nilp,.int .i64 (.var 2 n)] [] 0)=(
  R (.tup [.int .i64 (0),.int .i64 (1)]) []):=by kernel_rfl
theorem nl_eqC (l:List Nat):(nl l).all (fun v=>eD v v)=true:=by simp [nl,eD]
theorem nl_ok (l:List Nat):Vq .i64 (nl l) 0 l.length=true:=dA fun j hj=>by rw [Nat.zero_add];unfold isI;rw [show (nl l)[j]?=some (.int .i64 (l[j]:Int)) by simp [nl,hj]];rfl
theorem wU (w:Wd):(Ao w).length≤1000:=by
 have:(Ao w).length≤15:=by
  unfold Ao;exact Nat.le_trans (List.length_filter_le _ _) (by simp)
 omega
theorem qF (l:List Nat) (h:l.length≤1000) {r r':Ref}:X3 [.agg (nl l),.ptr r l.length,.agg (nl l),.ptr r' l.length]=true:=by
 simp only [X3,Nat.beq_refl,nl_ok,jI (nl_eqC _),Bool.true_and,Bool.and_true];exact Nat.ble_eq_true_of_le (by omega)
theorem aA1 (G:Nat→List AV) (B:Nat) (p:Sg):ACalls (⟨Try.prog,G,B⟩:A3) 62 [.ptr (.rw 0) 0,.ptr (.rw 1) 0] [some ⟨1,encP p⟩,some ⟨1,encR p⟩] fun v H'=>v=.bool true∧H'.take 2=[some ⟨1,encP p⟩,some ⟨1,encR p⟩]:=by
 have key:=D3 (C:=(⟨Try.prog,G,B⟩:A3)) (f:=62) (R:=fun v' H'=>v'=.bool true∧H'=[some ⟨1,encP p⟩,some ⟨1,encR p⟩]) (dgSmT G B) (by kernel_rfl) (by kernel_rfl) (by kernel_rfl) (fuel:=300) (n0:=10) (keep:=2) (args:=[.ptr (.rw 0) (.lit 0),.ptr (.rw 1) (.lit 0)]) (H:=[some ⟨1,.var 1 (encP p)⟩,some ⟨1,.uf 1002 B1 [.agg (.var 1 (encP p))]⟩]) (by
  rw [t62,E3,Ir,Gm]
  repeat' first | refine And.intro ?_ ?_ | intro _
  all_goals first
   | assumption
   | exact O8 p
   | exact Fo p
   | exact qF _ (wU _)
   | rfl
   | (simp;done)
   | (simp_all;done))
 simp only [vVs,vV,vR,vN,vHp,List.map_cons,List.map_nil,Option.map_some,C9,vL,E3] at key;exact key
theorem zZ (G:Nat→List AV) (B:Nat):ACalls (⟨Try.prog,G,B⟩:A3) 62 [.nilp,.nilp] [] fun v H'=>v=.bool true∧H'=[]:=by
 have:=D3 (C:=(⟨Try.prog,G,B⟩:A3)) (f:=62) (args:=[.nilp,.nilp]) (H:=[]) (keep:=0) (R:=fun v H'=>v=.bool true∧H'=[]) (dgSmT G B) (by kernel_rfl) (by kernel_rfl) (by kernel_rfl) (fuel:=300) (n0:=10) (by rw [t62n G []];exact ⟨rfl,rfl⟩)
 exact this.keep (Nat.zero_le _) rfl rfl (by simp)
theorem wD (G:Nat→List AV) (B:Nat) (n:Int):ACalls (⟨Try.prog,G,B⟩:A3) 23 [.nilp,.int .i64 n] [] fun v H'=>v=.int .i64 1∧H'=[]:=by
 have:=D3 (C:=(⟨Try.prog,G,B⟩:A3)) (K:=Dc Try.prog [55,56] [] [] 0) (f:=23) (args:=[.nilp,.int .i64 (.var 2 n)]) (H:=[]) (keep:=0) (R:=fun v H'=>v=.int .i64 1∧H'=[]) (by rw [show loopsOf (bodyOf Try.f23)=[] by kernel_rfl];exact dgood (mix G B) (by kernel_rfl) .nil .nil) (by kernel_rfl) (by kernel_rfl) (by kernel_rfl) (fuel:=200) (n0:=10) (by rw [t23n G n];exact ⟨rfl,rfl⟩)
 exact this.keep (Nat.zero_le _) rfl rfl (by simp)
theorem xJ (G:Nat→List AV) (B:Nat) (n:Int):ACalls (⟨Try.prog,G,B⟩:A3) 64 [.nilp,.int .i64 n] [] fun v H'=>v=.tup [.int .i64 0,.int .i64 1]∧H'=[]:=by
 have:=D3 (C:=(⟨Try.prog,G,B⟩:A3)) (K:=Dc Try.prog [55,56] [] [] 0) (f:=64) (args:=[.nilp,.int .i64 (.var 2 n)]) (H:=[]) (keep:=0) (R:=fun v H'=>v=.tup [.int .i64 0,.int .i64 1]∧H'=[]) (by rw [show loopsOf (bodyOf Try.f64)=[] by kernel_rfl];exact dgood (mix G B) (by kernel_rfl) .nil .nil) (by kernel_rfl) (by kernel_rfl) (by kernel_rfl) (fuel:=200) (n0:=10) (by rw [t64n G n];exact ⟨rfl,rfl⟩)
 exact this.keep (Nat.zero_le _) rfl rfl (by simp)
variable {C:A3}
theorem E1.none {f:FuncId} {args:List EV} {args0:List AV} {v:EV} {v0:AV} {H:DHp} (he:vVs C.G args=args0) (h0:rens [] args0=args0) (hb:A8 0 args0=true) (hv:vV C.G v=v0) (h1:bnd 0 v0=true) (h2:ren (J0 [] (vHp C.G H).length 0) v0=v0) (h:ACalls C f args0 [] fun v' H'=>v'=v0∧H'=[]):E1 C f args H v []:=by
 refine E1.fr (θ:=[]) (H0:=[]) (H1:=[]) (v0:=v0) (args0:=args0) List.nodup_nil rfl (fun k b hk=>by simp at hk) hb (by rw [he,h0]) h (Nat.le_refl _) h1 rfl (by rw [hv];exact h2.symm) ?_;show vHp C.G H=vHp C.G H++[];rw [List.append_nil]
def standC:DSum:=fun xs H=>match xs with
 | [.nilp,.nilp]=>some (.one (.bool (.lit true)) [])
 | [.ptr (.rw i) (.lit 0),.ptr (.rw j) (.lit 0)]=>match H[i]?,H[j]? with
  | some (some ⟨1,l⟩),some (some ⟨1,r⟩)=>match Nat.beq i j with
   | true=>none
   | false=>some (.chk (.uf 1003 okRU [.agg r,.agg l]) (.one (.bool (.lit true)) []))
  | _,_=>none
 | _=>none
theorem vX (G:Nat→List AV) (B:Nat):G0 (⟨Try.prog,G,B⟩:A3) 62 standC:=by
 intro xs H o ho;simp only [standC] at ho;split at ho
 ·simp only [Option.some.injEq] at ho;subst ho;exact E1.none (args0:=[.nilp,.nilp]) (v0:=.bool true) rfl rfl rfl rfl rfl rfl (zZ G B)
 ·rename_i i j;split at ho
  ·rename_i l r hi hj;split at ho
   ·simp at ho
   ·rename_i hij;have hij:i≠j:=fun h=>by rw [h,Nat.beq_refl] at hij;simp at hij
    simp at ho;subst ho;intro h1;simp only [vB,vVs,vV,okRU,Bool.and_eq_true] at h1;have e1:=Pk h1.1;have e2:=Ot h1.2;refine E1.get2 (args0:=[.ptr (.rw 0) 0,.ptr (.rw 1) 0]) hij hi hj ?_ (by show A8 0 (vL G l)=true;rw [e1];exact N7 _ _) (by show A8 0 (vL G r)=true;rw [e2];exact U6 _ _) (by simp [A8,bnd]) (by simp [vVs,vV,vR,vN,rens,ren]) (by simp [vV,bnd]) (by simp [vV]);simp only [C9,vV,vB];rw [e2,e1,E8];exact aA1 G B _
  ·simp at ho
 ·simp at ho
def sQ (s:Side):DSum:=fun args H=>match args with
 | [.nilp,.int .i64 _]=>some (.one (Jv 1) [])
 | args=>sR s args H
def tS (s:Side):DSum:=fun args H=>match args with
 | [.nilp,.int .i64 _]=>some (.one (.tup [Jv 0,Jv 1]) [])
 | args=>maskS s args H
theorem aA5 (G:Nat→List AV) (B:Nat):G0 (⟨Try.prog,G,B⟩:A3) 23 (sQ N0):=by
 intro xs H o ho;unfold sQ at ho;split at ho
 ·rename_i n;simp only [Option.some.injEq] at ho;subst ho;exact E1.none (args0:=[.nilp,.int .i64 (vI G n)]) (v0:=.int .i64 1) rfl rfl rfl rfl rfl rfl (wD G B _)
 ·exact aA6 (S0 G) (mP G B) _ _ _ ho
theorem aD2 (G:Nat→List AV) (B:Nat):G0 (⟨Try.prog,G,B⟩:A3) 64 (tS N0):=by
 intro xs H o ho;unfold tS at ho;split at ho
 ·rename_i n;simp only [Option.some.injEq] at ho;subst ho;exact E1.none (args0:=[.nilp,.int .i64 (vI G n)]) (v0:=.tup [.int .i64 0,.int .i64 1]) rfl rfl rfl rfl rfl rfl (xJ G B _)
 ·exact aD1 (S0 G) (wY G B) _ _ _ ho
end Go.Am
