/-
  One operation of a region, and a function's call and return, against t One step of a region; its congruence; regions in the text's order.
-/
import Derived.Test.YthejjolnlngahaaBase2
import Derived.RangeFuncNested
import Derived.LoopNIn
import Derived.OrdersIn
import Derived.Scope
import Derived.LoopN
import Derived.Sort.LoopGhostIn
import Derived.ProofKit
import Derived.OpenShut
import Derived.Carry
import Derived.JoinedCond
import Derived.SizedLaws
import Derived.IntWalk
namespace Go.Am
open Go.RowKit
def Of:Ex→Exit
 | .normal=>.normal
 | .exit i=>.exit i
 | .ret=>.ret
def Wu (P : Program) (f : FuncId) : Prop := ∃ fn c, P.funcs[f]? = some fn ∧ fn.body = some c ∧ (fn.name == "runtime.NumGoroutine") = false
def ACalls (C:A2) (f:FuncId) (args:List AV) (H:Hp) (K:AV→Hp→Prop):Prop:=
 Wu C.P f∧∀ (ρ:Env) (w:World) (cargs:List Value),B0 C ρ H w→VRs ρ args cargs→
  Calls C.P f cargs.toArray w fun e w'=>∃ v cv ρ' H',e=.returned cv∧K v H'∧ρ.le ρ'∧B0 C ρ' H' w'∧VR ρ' v cv∧Frm ρ w ρ' w'
def N5 (m:Nat) (ρ ρ':Env):Prop:=∀ i,i<m→ρ'.rw[i]?=ρ.rw[i]?
def AP (C:A2) (m:Nat) (ρ:Env) (w:World) (Q:Post):Exit→Act→World→Prop:=fun e a' w'=>
 ∃ ae ρ' F' H',e=Of ae∧Q ae F' H'∧N5 m ρ ρ'∧B0 C ρ' H' w'∧D5 ρ' F' a'∧Frm ρ w ρ' w'
def W (r:Option Nat):Fence:={ Fence.wide with round:=r }
theorem Jw {r:Option Nat} {n:Nat} {P:Program} {f:FuncId} {args:Array Value} {w:World} {R:Ending→World→Prop}:CallsIn (W r) n P f args w R↔Calls P f args w R:=
 callsIn_wide (n:=n)
def Ap (r:Option Nat) (c:Code):Bool:=match r with | none=>true | some _=>M3 c
theorem Hm {r:Option Nat} {a b:Code} (h:Ap r (.seq a b)=true):Ap r a=true∧Ap r b=true:=by
 cases r<;>simp_all [Ap,M3]
theorem Ao {r:Option Nat} {x:Operand} {a b:Code} (h:Ap r (.cond x a b)=true):Ap r a=true∧Ap r b=true:=by
 cases r<;>simp_all [Ap,M3]
theorem Oz {r:Option Nat} {i:Nat} {c:Code} (h:Ap r (.block i c)=true):Ap r c=true:=by cases r<;>simp_all [Ap,M3]
theorem Zq {r:Option Nat} {c:Code} (h:Ap r (.scope c)=true):Ap r c=true:=by cases r<;>simp_all [Ap,M3]
theorem dN {r:Option Nat} {c:Code} (h:Ap r (.loop c)=true):Ap r c=true:=by cases r<;>simp_all [Ap,M3]
def AWp (C:A2) (m:Nat) (c:Code) (F:Fr) (H:Hp) (Q:Post):Prop:=
 ∀ (r:Option Nat),Ap r c=true→∀ (ρ:Env) (a:Act) (w:World),B0 C ρ H w→D5 ρ F a→c.wpIn (W r) 0 C.P (AP C m ρ w Q) a w
theorem Ce {r:Option Nat} {P:Program} {o:Oper} {a:Act} {w:World} {next:Act→World→Prop} {Q:Exit→Act→World→Prop} (hd:∀ c,o.op≠.defer c) (h:o.uponIn (W r) 0 P a next Q ((execOp a.eval o).run P w)) :
  o.wpIn (W r) 0 P a w next Q:=by
 refine ⟨fun _ _=>trivial,?_⟩
 have e:o.semAt (W r).round a.eval=execOp a.eval o:=by
  cases r with
  | none=>exact Oper.semAt_none ..
  | some l=>exact Oper.semAt_some l _ o hd
 rw [e];exact h
theorem N5.refl (m:Nat) (ρ:Env):N5 m ρ ρ:=fun _ _=>rfl
theorem N5.trans {m:Nat} {a b c:Env} (h:N5 m a b) (k:N5 m b c):N5 m a c:=fun i hi=>(k i hi).trans (h i hi)
theorem N5.of_le {C:A2} {ρ ρ':Env} {H:Hp} {w:World} (hH:B0 C ρ H w) (h:ρ.le ρ') {m:Nat} (hm:m≤H.length):N5 m ρ ρ':=fun i hi=>by
 have hlt:i<ρ.rw.length:=by rw [hH.len];omega
 have:ρ.rw[i]?=some ρ.rw[i]:=by simp [hlt]
 rw [this];exact h.1 i _ this
theorem AP.link {C:A2} {m:Nat} {ρ0 ρ:Env} {w0 w:World} {Q:Post} (hp:N5 m ρ0 ρ) (hf:Frm ρ0 w0 ρ w) {e:Exit} {a:Act} {w':World} (h:AP C m ρ w Q e a w'):AP C m ρ0 w0 Q e a w':=by
 obtain ⟨ae,ρ',F',H',h1,h2,h3,h4,h5,h6⟩:=h;exact ⟨ae,ρ',F',H',h1,h2,hp.trans h3,h4,h5,hf.trans h6⟩
def wantA (all:List Oper) (guard:Option (Nat×Bool)) (F:Fr):Option Bool:=
 match guard with
 | none=>some true
 | some (j,want)=>
  match (all[j]?).bind (·.dst) with
  | some t=>match F.getD t .undef with
   | .bool b=>some (b==want)
   | .tup []=>some false
   | _=>none
  | none=>none
theorem R6 {F:Fr} {t:Nat} {v:AV} (h:F.getD t .undef=v) (hv:v≠.undef):F.set t v=F:=by
 by_cases ht:t<F.length
 ·have:F[t]=v:=by simpa [List.getD,ht] using h
  rw [←this];exact List.set_getElem_self ht
 ·simp [List.getD,ht] at h;exact absurd h.symm hv
theorem Yb (n:Nat) (k:Nat→Prop):Gu n k=k n:=by cases n<;>rfl
theorem yQ (n:Int) (k:Int→Prop):eQ n k=k n:=by cases n<;>simp [eQ,Yb]
theorem yP (n:Ref) (k:Ref→Prop):Ya n k=k n:=by cases n<;>simp [Ya,Yb]
theorem jH (v:AV) (k:AV→Prop):Yd v k=k v:=by
 cases v<;>simp only [Yd,yQ,yP,Yb];rename_i b;cases b<;>rfl
theorem Yc:∀ (l:List AV) (k:List AV→Prop),Nh l k=k l
 | [],k=>rfl
 | x::xs,k=>by simp only [Nh,jH,Yc xs]
theorem yN (v:AV) (k:AV→Prop):eO v k=k v:=by
 cases v<;>simp only [eO,Yc,jH]
theorem La {α:Type}:∀ (F:List α) (d:Nat) (v:α) (k:List α→Prop),Kf F d v k=k (F.set d v)
 | [],_,_,_=>rfl
 | _::_,0,_,_=>rfl
 | x::xs,d+1,v,k=>by simp only [Kf,La xs d v,List.set_cons_succ]
theorem Ta {α:Type}:∀ (F:List α) (v:α) (k:List α→Prop),Ji F v k=k (F++[v])
 | [],_,_=>rfl
 | x::xs,v,k=>by simp only [Ji,Ta xs v,List.cons_append]
theorem jG (v:AV) (k:AV→Prop):eU v k=k v:=by cases v<;>rfl
theorem eR:∀ (l:List AV) (k:List AV→Prop),Rn l k=k l
 | [],_=>rfl
 | x::xs,k=>by simp only [Rn,jG,eR xs]
theorem yO (v:AV) (k:AV→Prop):eP v k=k v:=by cases v<;>simp only [eP,jG,eR]
theorem E3 (s:Md) (F:Fr) (d:Option Tmp) (v:AV) (k:Fr→Prop):N8 s F d v k=k (put F d v):=by
 cases s
 ·rfl
 ·cases d
  ·rfl
  ·simp only [N8,yO,La,put]
 ·cases d
  ·rfl
  ·simp only [N8,yN,La,put]
theorem Jh {s:Md} {F:Fr} {d:Option Tmp} {v:AV} {k:Fr→Prop} (h:k (put F d v)):N8 s F d v k:=by rw [E3];exact h
theorem Pr {hint:Nat→Option Bool} {s:Md} {all:List Oper} {guard:Option (Nat×Bool)} {F:Fr} {go skip:Fr→Prop} (h:guardK hint s all guard F go skip) :
  (wantA all guard F=some true∧go F∧∀ go' skip':Fr→Prop,go' F→guardK hint s all guard F go' skip')∨(wantA all guard F=some false∧skip F∧∀ go' skip':Fr→Prop,skip' F→guardK hint s all guard F go' skip'):=by
 unfold guardK at h ⊢;unfold wantA;split at h
 ·exact .inl ⟨rfl,h,fun _ _ h=>h⟩
 ·rename_i j want;split at h
  ·rename_i t ht;simp only [ht];split at h
   ·rename_i b hb;simp only [hb];rcases Xc h with ⟨hb1,h2,h3⟩ | ⟨hb1,h2,h3⟩
    ·subst hb1;have h:=H4 h2;simp only [put,R6 hb (by simp)] at h;cases want
     ·exact .inr ⟨rfl,h,fun go' skip' hk=>h3 _ _ (Jh (by simp only [put,R6 hb (by simp)];exact hk))⟩
     ·exact .inl ⟨rfl,h,fun go' skip' hk=>h3 _ _ (Jh (by simp only [put,R6 hb (by simp)];exact hk))⟩
    ·subst hb1;have h:=H4 h2;simp only [put,R6 hb (by simp)] at h;cases want
     ·exact .inl ⟨rfl,h,fun go' skip' hk=>h3 _ _ (Jh (by simp only [put,R6 hb (by simp)];exact hk))⟩
     ·exact .inr ⟨rfl,h,fun go' skip' hk=>h3 _ _ (Jh (by simp only [put,R6 hb (by simp)];exact hk))⟩
   ·rename_i hb;simp only [hb];exact .inr ⟨by trivial,h,fun _ _ h=>h⟩
   ·exact h.elim
  ·exact h.elim
theorem Si {hint:Nat→Option Bool} {s:Md} {all:List Oper} {guard:Option (Nat×Bool)} {F:Fr} {go skip:Fr→Prop} (h:guardK hint s all guard F go skip) :
  (wantA all guard F=some true∧go F)∨(wantA all guard F=some false∧skip F):=by
 rcases Pr h with ⟨h1,h2,_⟩ | ⟨h1,h2,_⟩
 ·exact .inl ⟨h1,h2⟩
 ·exact .inr ⟨h1,h2⟩
theorem Q9 {all:List Oper} {ρ:Env} {F:Fr} {a:Act} (hF:D5 ρ F a) {o:Oper} {b:Bool} (h:wantA all o.guard F=some b):Region.wanted o (yielded all.toArray a.tmps)=b:=by
 unfold wantA at h;unfold Region.wanted;split at h
 ·rename_i hg;simp at h;subst h;simp [hg]
 ·rename_i j want hg;simp only [hg];split at h
  ·rename_i t ht;have hv:=hF.at t;split at h
   ·rename_i b' hb;simp at h;subst h;rw [hb] at hv;simp only [VR] at hv
    have hsome:a.tmps[t]?=some (.bool b'):=by
     rw [Array.getD_eq_getD_getElem?] at hv;cases hq:a.tmps[t]? with
     | none=>simp [hq,undef] at hv
     | some x=>simp [hq] at hv;rw [hv]
    have:yielded all.toArray a.tmps j=some b':=by
     unfold yielded;simp only [List.getElem?_toArray,ht,Option.bind_some,hsome]
    rw [this];cases b'<;>cases want<;>rfl
   ·rename_i hb;simp at h;subst h;rw [hb] at hv;simp only [VR] at hv;obtain ⟨vs,hvs,hr⟩:=hv;simp only [VRs] at hr
    have:yielded all.toArray a.tmps j=none:=by
     unfold yielded;simp only [List.getElem?_toArray,ht,Option.bind_some];rw [Array.getD_eq_getD_getElem?] at hvs;cases hq:a.tmps[t]? with
     | none=>rfl
     | some x=>simp [hq] at hvs;rw [hvs]
    rw [this];rfl
   ·simp at h
  ·simp at h
theorem Dz {P:Program} {f:FuncId} (h:Wu P f) (args:Array Value) (w:World):(callFunc f args).run P w=.ok (.enter f args) w:=by
 obtain ⟨fn,c,h1,h2,h3⟩:=h;have h4 : ¬ (fn.name = "runtime.NumGoroutine") := by simpa using h3
 simp [callFunc,h1,h2,h4]
theorem Kp {P:Program} {w:World} {ρ:Env} {F:Fr} {a:Act} {o:Oper} {f:FuncId} {args:List AV} (hF:D5 ρ F a) (h:callOp F o.op=some (f,args)) (he:Wu P f) :
  ∃ cargs:List Value,VRs ρ args cargs∧(execOp a.eval o).run P w=.ok (.enter f cargs.toArray) w:=by
 have E:=fun x=>Fc hF x;obtain ⟨dst,op,type,pos,after,guard⟩:=o;simp only at h;unfold callOp at h;unfold execOp;split at h
 ·rename_i g xs ts;split at h
  ·rename_i g' cap hg;simp at h;obtain ⟨rfl,rfl⟩:=h;have hv:=E g;rw [hg] at hv;simp only [VR] at hv;obtain ⟨cs,hcs,hr⟩:=hv;refine ⟨xs.toList.map a.eval++cs.toList,Nu (Sc _ _ _ fun x _=>E x) hr,?_⟩;simp only [resolve,hcs,Deferred.ofValue,Sem.run_bind,Sem.run_pure,Result.andThen_ok,invoke,Dz he];congr 2;apply Array.ext';simp
  ·simp at h
 ·simp at h
theorem cV {C:A2} {ρ:Env} {F:Fr} {H:Hp} {w:World} {a:Act} (hH:B0 C ρ H w) (hF:D5 ρ F a) {g:ResultVar→Sem Value} (hg1:∀ t,g (.tmp t)=pure (a.tmps.getD t undef)) (hg2:∀ x t,g (.cell x t)=do loadVar t (←asAddr (a.tmps.getD x undef)))
  {r:ResultVar} {v:AV} (h:Oo C F H r=some (true,v)):∃ cv,(g r).run C.P w=.ok cv w∧VR ρ v cv:=by
 unfold Oo at h;split at h
 ·simp at h;subst h;exact ⟨_,by rw [hg1];rfl,hF.at _⟩
 ·rename_i x t;split at h
  ·rename_i r off hx;unfold Hd at h;split at h
   ·rename_i cs hcs;have hv:=hF.at x;rw [hx] at hv;simp only [VR] at hv;have hv2:=hv;obtain ⟨ad,ha,_⟩:=hv.add;rw [ha] at hv2;obtain ⟨cv,h1,h2⟩:=Ll hH hcs hv2 h;refine ⟨cv,?_,h2⟩;rw [hg2];simp only [ha,asAddr,Sem.run_bind,Sem.run_pure,Result.andThen_ok,h1]
   ·simp at h
  ·simp at h
theorem Oq {C:A2} {ρ:Env} {F:Fr} {H:Hp} {w:World} {a:Act} (hH:B0 C ρ H w) (hF:D5 ρ F a) {g:ResultVar→Sem Value} (hg1:∀ t,g (.tmp t)=pure (a.tmps.getD t undef)) (hg2:∀ x t,g (.cell x t)=do loadVar t (←asAddr (a.tmps.getD x undef))) :
  ∀ (rs:List ResultVar) (vs:List AV),Dp C F H rs=some (true,vs)→∃ cvs:List Value,(rs.mapM g).run C.P w=.ok cvs w∧VRs ρ vs cvs
 | [],vs,h=>by simp [Dp] at h;subst h;exact ⟨[],rfl,by simp [VRs]⟩
 | r::rs,vs,h=>by
  simp only [Dp] at h;split at h
  ·rename_i c v hr;split at h
   ·rename_i d vs' hrs;simp only [Option.some.injEq,Prod.mk.injEq,Bool.and_eq_true] at h;obtain ⟨⟨rfl,rfl⟩,rfl⟩:=h;obtain ⟨cv,h1,h2⟩:=cV hH hF hg1 hg2 hr;obtain ⟨cvs,g1,g2⟩:=Oq hH hF hg1 hg2 rs vs' hrs;refine ⟨cv::cvs,?_,by simp only [VRs];exact ⟨cv,cvs,rfl,h2,g2⟩⟩;simp only [List.mapM_cons,Sem.run_bind,h1,Result.andThen_ok,g1,Sem.run_pure]
   ·simp at h
  ·simp at h
def uV (tmps:Array Value):ResultVar→Sem Value
 | .tmp t=>pure (tmps.getD t undef)
 | .cell x t=>do loadVar t (←asAddr (tmps.getD x undef))
theorem kN (fn:Func) (tmps:Array Value):results fn tmps=(do
  let vs ←fn.results.mapM (uV tmps)
  pure (if h:vs.size=1 then vs[0] else .tuple vs)):=rfl
theorem Nw {C:A2} {ρ:Env} {F:Fr} {H:Hp} {w:World} {a:Act} (hH:B0 C ρ H w) (hF:D5 ρ F a) {fn:Func} {v:AV} (h:Mo C fn F H=some (true,v)) :
  ∃ cv,(results fn a.tmps).run C.P w=.ok cv w∧VR ρ v cv:=by
 have key:∀ vs,Dp C F H fn.results.toList=some (true,vs)→∃ cvs:List Value,(results fn a.tmps).run C.P w=.ok (if h:cvs.toArray.size=1 then cvs.toArray[0] else .tuple cvs.toArray) w∧VRs ρ vs cvs:=by
  intro vs hvs;obtain ⟨cvs,h1,h2⟩:=Oq hH hF (g:=uV a.tmps) (fun t=>rfl) (fun x t=>rfl) _ _ hvs;refine ⟨cvs,?_,h2⟩;rw [kN,Array.mapM_eq_mapM_toList];simp only [Sem.run_bind,Sem.run_map,Sem.run_pure,h1,Result.andThen_ok]
 unfold Mo at h;split at h
 ·rename_i c v' hr;simp only [Option.some.injEq,Prod.mk.injEq] at h;obtain ⟨rfl,rfl⟩:=h;obtain ⟨cvs,h1,h2⟩:=key _ hr;simp only [VRs] at h2;obtain ⟨cv,vs',rfl,h3,rfl⟩:=h2;exact ⟨cv,by rw [h1];simp,h3⟩
 ·rename_i c vs hne hr;simp only [Option.some.injEq,Prod.mk.injEq] at h;obtain ⟨rfl,rfl⟩:=h;obtain ⟨cvs,h1,h2⟩:=key _ hr;have hl:=D8 h2;refine ⟨.tuple cvs.toArray,?_,by simp only [VR];exact ⟨_,rfl,by simpa using h2⟩⟩;rw [h1,dif_neg];intro hs;simp at hs;rw [hs] at hl
  obtain ⟨v,rfl⟩:∃ v,vs=[v]:=by
   match vs,hl with
   | [v],_=>exact ⟨v,rfl⟩
  exact hne v rfl
 ·simp at h
theorem Vv {ρ:Env} {fn:Func} {args:List AV} {cargs:List Value} (h:VRs ρ args cargs) :
  D5 ρ (J1 fn args) { tmps:=cargs.toArray++Array.replicate (fn.ntmps - cargs.toArray.size) undef,defers:=[] }:=by
 have hl:=D8 h;refine ⟨⟨[],rfl,List.nodup_nil,fun _ h=>by simp at h⟩,by simp [J1,hl],fun i v hv=>?_⟩;simp only [J1] at hv;simp only [Array.getD_eq_getD_getElem?];by_cases hi:i<args.length
 ·rw [List.getElem?_append_left hi] at hv;obtain ⟨cv,h1,h2⟩:=P5 h i v hv;rw [Array.getElem?_append_left (by simp;omega)];simp [h1,h2]
 ·rw [List.getElem?_append_right (by omega)] at hv;have hlt:=(List.getElem?_eq_some_iff.1 hv).1;simp at hlt;simp [List.getElem?_replicate,hlt] at hv;subst hv;rw [Array.getElem?_append_right (by simp;omega)]
  have:i - cargs.toArray.size<fn.ntmps - cargs.toArray.size:=by simp;omega
  simp only [VR];refine ⟨#[],?_,by simp [VRs]⟩;simp only [List.size_toArray] at this ⊢;simp [Array.getElem?_replicate,this,undef]
theorem Pi {P:Program} {fn:Func} {tmps:Array Value} {R:Ending→World→Prop}:∀ (ds:List Nat) (w:World),ds.Nodup→(∀ D∈ds,w.heap[D]?=some (.deferred (some [])))→
  (∀ w':World,w'.heap.size=w.heap.size→(∀ k,k ∉ ds→w'.heap[k]?=w.heap[k]?)→w'.os=w.os→w'.tape=w.tape→w'.output=w.output→∃ v,(results fn tmps).run P w'=.ok v w'∧R (.returned v) w')→
  LeavesInM Fence.wide 0 P fn tmps R (ds.map fun D=>{ target:=.collected D,args:=#[] }) .returning w
 | [],w,_,_,h=>h w rfl (fun _ _=>rfl) rfl rfl rfl
 | D::ds,w,hn,hd,h=>by
  refine ⟨by simp,.inl ⟨D,w.putObj D (.deferred none),rfl,run_takeDeferred (hd D (by simp)),?_⟩⟩;refine Pi ds _ (List.nodup_cons.1 hn).2 (fun D' hD'=>?_) fun w' h1 h2 h3 h4 h5=>?_
  ·rw [World.putObj_heap_other (fun e:D'=D=>(List.nodup_cons.1 hn).1 (by rw [←e];exact hD'))];exact hd D' (by simp [hD'])
  ·refine h w' (by rw [h1];simp) (fun k hk=>?_) h3 h4 h5;rw [h2 k (fun hh=>hk (by simp [hh])),World.putObj_heap_other (fun e=>hk (by simp [e]))]
theorem B0.setDfs {C:A2} {ρ:Env} {H:Hp} {w:World} (h:B0 C ρ H w) (d:List Nat) (hd:∀ D∈d,w.heap[D]?=some (.deferred (some []))∧(∀ (i:Nat) e,ρ.rw[i]?=some (some e)→e.blk≠D)∧∀ i k,¬ρ.ro i D k):B0 C ⟨ρ.rw,ρ.ro,d⟩ H w:=
 ⟨h.len,h.base,h.ents,fun i b hb=>(h.live i b hb).sub (Env.sub_dfs ρ d) fun _ _=>rfl,h.inj,h.ro,hd⟩
theorem acalls_of {C : A2} {f : FuncId} {fn : Func} {c : Code} {args : List AV} {H : Hp} {K : AV → Hp → Prop} (hf : C.P.funcs[f]? = some fn) (hb : fn.body = some c) (hn : (fn.name == "runtime.NumGoroutine") = false)
  (h:AWp C H.length c (J1 fn args) H (J6 C fn K)):ACalls C f args H K:=by
 refine ⟨⟨fn,c,hf,hb,hn⟩,fun ρ w cargs hH hv=>callsIn_wide.1 (callsIn_of_wp_marks (n:=0) hf hb trivial (wpIn_mono (h none rfl ⟨ρ.rw,ρ.ro,[]⟩ _ w (hH.setDfs [] (fun _ h=>by simp at h)) (Vv (VRs.sub (Env.sub_dfs ρ []) _ _ hv))) ?_))⟩;rintro e a' w' ⟨ae,ρ',F',H',rfl,hQ,hp,hH',hF',hfr⟩
 have fin:Sh (Mo C fn F' H') (fun v=>K v H')→LeavesInM Fence.wide 0 C.P fn a'.tmps (fun e w''=>∃ v cv ρ' H',e=.returned cv∧K v H'∧ρ.le ρ'∧B0 C ρ' H' w''∧VR ρ' v cv∧Frm ρ w ρ' w'') a'.defers .returning w':=by
  intro ho;obtain ⟨ds,hds,hnd,hD⟩:=hF'.nod
  have fresh:∀ D∈ds,w.heap.size≤D:=fun D h=>by
   rcases hfr.mkn D (hD D h) with h1 | h1
   ·simp at h1
   ·exact h1
  rw [hds];refine Pi ds w' hnd (fun D h=>(hH'.df D (hD D h)).1) fun w'' hs hk ho2 ht hou=>?_;obtain ⟨v,h1,h2⟩:=S1 ho
  have hH'':B0 C ⟨ρ'.rw,ρ'.ro,ρ.dfs⟩ H' w'':=by
   refine ⟨hH'.len,by rw [hs];exact hH'.base,fun i e he=>by rw [hs];exact hH'.ents i e he,fun i b hb=>(hH'.live i b hb).sub (Env.sub_dfs ρ' ρ.dfs) fun e he=>hk e.blk fun hin=>(hH'.df _ (hD _ hin)).2.1 i e he rfl,hH'.inj,fun i b d hr=>?_,fun D hDD=>⟨?_,fun i e he=>?_,fun i d hr=>?_⟩⟩
   ·obtain ⟨g1,g2,g3⟩:=hH'.ro i b d hr;refine ⟨by rw [hs];exact g1,g2,fun k v hv=>?_⟩;obtain ⟨cv,g4,g5⟩:=g3 k v hv;refine ⟨cv,?_,g5⟩;rw [World.cell?_of_block (w:=w') (hk b fun hin=>(hH'.df b (hD b hin)).2.2 i d hr)];exact g4
   ·have hlt:=hH.df_lt hDD;rw [hk D fun hin=>by have:=fresh D hin;omega,hfr.keep D hlt (.inr (hH.df D hDD).2.1)];exact (hH.df D hDD).1
   ·have hlt:=hH.df_lt hDD;rcases hfr.news i e he with ⟨j,e',hj,hje⟩ | hge
    ·rw [←hje];exact (hH.df D hDD).2.1 j e' hj
    ·omega
   ·have hlt:=hH.df_lt hDD;rcases hfr.newro i D d hr with h1 | ⟨j,e,he,heb⟩ | h1
    ·exact (hH.df D hDD).2.2 i d h1
    ·exact (hH.df D hDD).2.1 j e he heb
    ·omega
  have hF'':D5 ⟨ρ'.rw,ρ'.ro,ρ.dfs⟩ F' ⟨a'.tmps,[]⟩:=⟨⟨[],rfl,List.nodup_nil,fun _ h=>by simp at h⟩,hF'.len,fun i v hv=>VR.sub (Env.sub_dfs ρ' ρ.dfs) v _ (hF'.val i v hv)⟩;obtain ⟨cv,g1,g2⟩:=Nw hH'' hF'' h1
  have hle:ρ.le ⟨ρ'.rw,ρ'.ro,ρ.dfs⟩:=⟨fun i x hx=>by
   have hlt:i<ρ.rw.length:=(List.getElem?_eq_some_iff.1 hx).1;show ρ'.rw[i]?=_
   rw [hp i (by rw [←hH.len];exact hlt)];exact hx,hfr.ro,fun _ h=>h⟩
  exact ⟨cv,g1,v,cv,_,H',rfl,h2,hle,hH'',g2,⟨ho2.trans hfr.os,ht.trans hfr.tape,hou.trans hfr.output,by rw [hs];exact hfr.size,
   fun b hb hn=>(hk b fun hin=>by have:=fresh b hin;omega).trans (hfr.keep b hb hn),hfr.news,hfr.ro,hfr.newro,fun _ h=>.inl h⟩⟩
 cases ae with
 | normal=>exact fin hQ
 | ret=>exact fin hQ
 | exit i=>exact hQ.elim
end Go.Am
namespace Go.Am
open Go.RowKit
structure Ei (K:Cfg) (lps:List Code):Prop where
 mix:K.C.P.follows .mixedOrders=true
 calls:∀ f args H v hs,K.sum f args H=some (true,v,hs)→ACalls K.C f args H fun v' H'=>v'=v∧H'=acts H hs
 loops:∀ m c F H e F' H',m≤K.M→c∈lps→K.loop c F H=some (true,e,F',H')→AWp K.C m (.loop c) F H fun e' F'' H''=>e'=e∧F''=F'∧H''=H'
def AYld (C:A2) (i:Nat) (args:List AV) (H:Hp) (R:AV→Hp→Prop):Prop:=
 ∀ (ρ:Env) (F:Fr) (w:World) (a:Act) (o:Oper) (r:Option Nat) (next:Act→World→Prop) (Q:Exit→Act→World→Prop),B0 C ρ H w→D5 ρ F a→yldOp F o.op=some (i,args)→
  (∀ v H' ρ' cv w',R v H'→B0 C ρ' H' w'→VR ρ' v cv→ρ.le ρ'→Frm ρ w ρ' w'→next (a.put o.dst cv) w')→o.wpIn (W r) 0 C.P a w next Q
inductive St (K:Cfg) (all:List Oper) (o:Oper) (F:Fr) (H:Hp):Tr→AV→Hp→Prop
 | skip (hw:wantA all o.guard F=some false):St K all o F H ⟨.still,H.length,[]⟩ (.tup []) H
 | pure (hw:wantA all o.guard F=some true) {v:AV} (hk:kdOf K.C.P o.op=.pure) (h:E1 K.C.P F o.op=some (true,v)):St K all o F H ⟨.still,H.length,[]⟩ v H
 | read (hw:wantA all o.guard F=some true) {v:AV} (hk:kdOf K.C.P o.op=.read) (h:J4 K.C F H o.op=some (true,v)) :
   St K all o F H ⟨(match Ic F o.op with | some r=>.read r | none=>.still),H.length,[]⟩ v H
 | write (hw:wantA all o.guard F=some true) {v:AV} {x:Hop} (hk:kdOf K.C.P o.op=.write) (h:G4 K.C F H o.op=some (true,v,x)):St K all o F H ⟨.write,H.length,[x]⟩ v (x.act H)
 | call (hw:wantA all o.guard F=some true) {f:FuncId} {args:List AV} {v:AV} {hs:List Hop} (hk:kdOf K.C.P o.op=.call) (h:callOp F o.op=some (f,args)) (hs':ACalls K.C f args H fun v' H'=>v'=v∧H'=acts H hs) :
   St K all o F H ⟨.write,H.length,hs⟩ v (acts H hs)
 | yld (hw:wantA all o.guard F=some true) {i:Nat} {args:List AV} {v:AV} {hs:List Hop} (h:yldOp F o.op=some (i,args)) (hs':AYld K.C i args H fun v' H'=>v'=v∧H'=acts H hs) :
   St K all o F H ⟨.write,H.length,hs⟩ v (acts H hs)
theorem yA {P:Program} {F:Fr} {op:Op} {x:Bool×AV} (h:E1 P F op=some x):∀ c,op≠.defer c:=by rintro c rfl;simp [E1] at h
theorem xZ {C:A2} {F:Fr} {H:Hp} {op:Op} {x:Bool×AV} (h:J4 C F H op=some x):∀ c,op≠.defer c:=by rintro c rfl;simp [J4] at h
theorem sQ {C:A2} {F:Fr} {H:Hp} {op:Op} {x:Bool×AV×Hop} (h:G4 C F H op=some x):∀ c,op≠.defer c:=by rintro c rfl;simp [G4] at h
theorem Xs {F:Fr} {op:Op} {x:FuncId×List AV} (h:callOp F op=some x):∀ c,op≠.defer c:=by rintro c rfl;simp [callOp] at h
theorem St.sound {K:Cfg} {lps:List Code} (hK:Ei K lps) {all:List Oper} {o:Oper} {F:Fr} {H H':Hp} {tr:Tr} {v:AV} (hst:St K all o F H tr v H') {ρ:Env} {a:Act} {w:World} (hH:B0 K.C ρ H w) (hF:D5 ρ F a)
  {next:Act→World→Prop} {Q:Exit→Act→World→Prop} {r:Option Nat}
  (hn:∀ ρ' cv w',B0 K.C ρ' H' w'→VR ρ' v cv→ρ.le ρ'→Frm ρ w ρ' w'→next (a.put o.dst cv) w') :
  if Region.wanted o (yielded all.toArray a.tmps) then o.wpIn (W r) 0 K.C.P a w next Q else (∀ f,o.about K.C.P w a.eval=some f→(W r).fn f)∧next (a.put o.dst undef) w:=by
 cases hst with
 | skip hw=>
  rw [Q9 hF hw,if_neg (by simp)];exact ⟨fun _ _=>trivial,hn ρ undef w hH (by simp only [VR];exact ⟨#[],rfl,by simp [VRs]⟩) (Env.le_refl ρ) (Frm.refl ρ w)⟩
 | pure hw hk h=>
  rw [Q9 hF hw,if_pos rfl];obtain ⟨cv,h1,h2⟩:=kS (w:=w) hF h;refine Ce (yA h) ?_;rw [h1];exact hn ρ cv w hH h2 (Env.le_refl ρ) (Frm.refl ρ w)
 | read hw hk h=>
  rw [Q9 hF hw,if_pos rfl];obtain ⟨cv,h1,h2⟩:=kO hH hF h;refine Ce (xZ h) ?_;rw [h1];exact hn ρ cv w hH h2 (Env.le_refl ρ) (Frm.refl ρ w)
 | write hw hk h=>
  rw [Q9 hF hw,if_pos rfl];obtain ⟨nx,cv,w',ρ',h1,h2,h3,h4,h5,h6⟩:=gE hH hF h;refine Ce (sQ h) ?_;rw [h1];rcases h2 with rfl | ⟨rfl,rfl⟩
  ·exact hn ρ' cv w' h3 h4 h5 h6
  ·exact hn ρ' undef w' h3 h4 h5 h6
 | call hw hk h hs'=>
  rename_i f args hs;rw [Q9 hF hw,if_pos rfl];obtain ⟨he,hc⟩:=hs';obtain ⟨cargs,hv,h1⟩:=Kp (w:=w) hF h he;refine Ce (Xs h) ?_;rw [h1];refine ⟨fun h=>by simp [W,Fence.wide] at h,Jw.2 ((hc ρ w cargs hH hv).mono ?_)⟩;rintro e w' ⟨v',cv,ρ',H'',rfl,⟨rfl,rfl⟩,h3,h4,h5,h6⟩;exact hn ρ' cv w' h4 h5 h3 h6
 | yld hw h hs'=>
  rw [Q9 hF hw,if_pos rfl];exact hs' ρ F w a o r next Q hH hF h fun v' H'' ρ' cv w' ⟨e1,e2⟩ g1 g2 g3 g4=>by subst e1;subst e2;exact hn ρ' cv w' g1 g2 g3 g4
theorem Oper.wpIn_monoQ {F:Fence} {n:Nat} {P:Program} {o:Oper} {a:Act} {w:World} {K K':Act→World→Prop} {Q Q':Exit→Act→World→Prop} (hk:∀ a w,K a w→K' a w) (hq:∀ e a w,Q e a w→Q' e a w) (h:o.wpIn F n P a w K Q):o.wpIn F n P a w K' Q':=by
 unfold Oper.wpIn at *;refine ⟨h.1,?_⟩;have h:=h.2;generalize (o.semAt F.round a.eval).run P w=r at *;have hl:LetsOut Q→LetsOut Q':=fun ⟨a,w,h⟩=>⟨a,w,hq _ _ _ h⟩;cases r with
 | ok n w'=>
  cases n<;>simp only [Oper.uponIn] at h ⊢ <;>
   first
    | exact hk _ _ h
    | exact ⟨h.1,CallsIn.mono h.2 (fun e w'' he=>by cases e<;>first | exact hk _ _ he | exact hq _ _ _ he | exact hl he)⟩
    | exact ⟨h.1,RowsIn.mono h.2 (fun _ _ he=>hk _ _ he)⟩
    | exact ⟨h.1,RoundIn.mono h.2 (fun e w'' he=>by cases e<;>first | exact hk _ _ he | exact hq _ _ _ he | exact hl he)⟩
 | halt x w'=>cases x<;>simp only [Oper.uponIn] at h ⊢<;>exact hq _ _ _ h
theorem N6 {F:Fence} {n:Nat} {P:Program} {ops:Array Oper} {Q Q':Exit→Act→World→Prop} (hq:∀ e a w,Q e a w→Q' e a w):∀ (l:List Oper) (a:Act) (w:World),wpListIn F n P ops Q l a w→wpListIn F n P ops Q' l a w
 | [],a,w,h=>hq _ _ _ h
 | o::l,a,w,h=>by
  unfold wpListIn at *;split
  ·rename_i hw;rw [if_pos hw] at h;exact Oper.wpIn_monoQ (N6 hq l) hq h
  ·rename_i hw;rw [if_neg hw] at h;exact ⟨h.1,N6 hq l _ _ h.2⟩
inductive DT (K:Cfg) (all:List Oper):List Oper→Fr→Hp→List Tr→Fr→Hp→Prop
 | nil (F:Fr) (H:Hp):DT K all [] F H [] F H
 | cons {o:Oper} {l:List Oper} {F F':Fr} {H H' H'':Hp} {tr:Tr} {v:AV} {trs:List Tr} (h:St K all o F H tr v H') (t:DT K all l (put F o.dst v) H' trs F' H''):DT K all (o::l) F H (tr::trs) F' H''
def loopsOf:Code→List Code
 | .seq a b=>loopsOf a++loopsOf b
 | .cond _ a b=>loopsOf a++loopsOf b
 | .block _ c=>loopsOf c
 | .scope c=>loopsOf c
 | .loop c=>c::loopsOf c
 | .rangeFunc g ps as bd=>[.rangeFunc g ps as bd]
 | _=>[]
theorem AWp.mono {C:A2} {m:Nat} {c:Code} {F:Fr} {H:Hp} {Q Q':Post} (h:AWp C m c F H Q) (hq:∀ e F H,Q e F H→Q' e F H):AWp C m c F H Q':=
 fun r hr ρ a w h1 h2=>Code.wpIn_mono (fun e a' w' ⟨ae,ρ',F',H',g1,g2,g3⟩=>⟨ae,ρ',F',H',g1,hq _ _ _ g2,g3⟩) (h r hr ρ a w h1 h2)
theorem W5 {C:A2} {m:Nat} {ρ ρ':Env} {H H':Hp} {w w':World} (hm:m≤H.length) (h1:B0 C ρ H w) (h2:B0 C ρ' H' w') (hp:N5 m ρ ρ'):m≤H'.length:=by
 rw [←h2.len];rcases Nat.eq_zero_or_pos m with rfl | h0
 ·omega
 ·have:=hp (m - 1) (by omega)
  have hl:m - 1<ρ.rw.length:=by rw [h1.len];omega
  rw [List.getElem?_eq_getElem hl] at this
  have:=(List.getElem?_eq_some_iff.1 this).1
  omega
theorem AP.seq {C:A2} {m:Nat} {ρ:Env} {w:World} {rec:Rec} {b:Code} {Q:Post} {H:Hp} (hm:m≤H.length) (hH:B0 C ρ H w)
  {r:Option Nat} (hb:∀ F' H',rec m (.code b) F' H' Q→∀ ρ' a' w',m≤H'.length→B0 C ρ' H' w'→D5 ρ' F' a'→b.wpIn (W r) 0 C.P (AP C m ρ' w' Q) a' w') {e:Exit} {a':Act} {w':World}
  (h:AP C m ρ w (Iz rec m b Q) e a' w'):Exit.then (b.wpIn (W r) 0 C.P (AP C m ρ w Q)) (AP C m ρ w Q) e a' w':=by
 obtain ⟨ae,ρ',F',H',rfl,h2,h3,h4,h5,h6⟩:=h;cases ae with
 | normal=>
  exact Code.wpIn_mono (fun e a w h=>AP.link h3 h6 h) (hb F' H' h2 ρ' a' w' (W5 hm hH h4 h3) h4 h5)
 | exit i=>exact ⟨.exit i,ρ',F',H',rfl,h2,h3,h4,h5,h6⟩
 | ret=>exact ⟨.ret,ρ',F',H',rfl,h2,h3,h4,h5,h6⟩
end Go.Am
namespace Go.Am
open Go.RowKit
theorem tO {F F':Fr} {x:Operand} (h:∀ t,x=.tmp t→F'.getD t .undef=F.getD t .undef):ev F' x=ev F x:=by
 cases x with
 | tmp t=>exact h t rfl
 | const v=>rfl
 | global g=>rfl
 | func f=>rfl
def Ix (op:Op) (F F':Fr):Prop:=∀ x∈op.operands.toList,ev F' x=ev F x
theorem kT {P:Program} {F F':Fr} {op:Op} (h:Ix op F F'):E1 P F' op=E1 P F op:=by
 unfold Ix at h;cases op with
 | move x=>simp only [E1,h x (by simp [Op.operands])]
 | assign x=>simp only [E1,h x (by simp [Op.operands])]
 | pick c a b=>simp only [E1,h c (by simp [Op.operands]),h a (by simp [Op.operands]),h b (by simp [Op.operands])]
 | nilCheck x=>simp only [E1,h x (by simp [Op.operands])]
 | binOp op t x y ty=>simp only [E1,h x (by simp [Op.operands]),h y (by simp [Op.operands])]
 | unOp op t x=>simp only [E1,h x (by simp [Op.operands])]
 | convert s d x=>simp only [E1,h x (by simp [Op.operands])]
 | fieldAddr s x f=>simp only [E1,h x (by simp [Op.operands])]
 | indexAddr t x i=>simp only [E1,h x (by simp [Op.operands]),h i (by simp [Op.operands])]
 | slice t x lo hi mx=>
  cases mx with
  | some m=>rfl
  | none=>
   have hx:=h x (by simp [Op.operands])
   have hlo:lo.map (ev F')=lo.map (ev F):=by
    cases lo with
    | none=>rfl
    | some l=>simp [h l (by simp [Op.operands])]
   have hhi:hi.map (ev F')=hi.map (ev F):=by
    cases hi with
    | none=>rfl
    | some l=>simp [h l (by simp [Op.operands])]
   simp only [E1,hx,hlo,hhi]
 | build t parts=>
  have:parts.toList.map (fun p=>(p.1,ev F' p.2))=parts.toList.map (fun p=>(p.1,ev F p.2)):=List.map_congr_left fun p hp=>by
   rw [h p.2 (by simp only [Op.operands];simp;exact ⟨p.1,by simpa using hp⟩)]
  simp only [E1,this]
 | extract x i=>simp only [E1,h x (by simp [Op.operands])]
 | makeFunc fn first cap=>
  cases fn with
  | func f=>
   have:cap.toList.map (ev F')=cap.toList.map (ev F):=List.map_congr_left fun x hx=>h x (by simp [Op.operands];exact .inr (by simpa using hx))
   simp only [E1,this]
  | _=>rfl
 | call c=>
  obtain ⟨callee,args,ats⟩:=c;have hx:∀ x∈args.toList,ev F' x=ev F x:=fun x hx=>h x (by simp [Op.operands,Call.operands];exact .inr (by simpa using hx));cases callee with
  | value f=>rfl
  | invoke r n=>rfl
  | builtin b=>
   cases b<;>try rfl
   all_goals
    simp only [E1];split
    ·first
      | (rename_i x t e1 e2;rw [hx x (by rw [e1];simp)];done)
      | (rename_i x y e1;rw [hx x (by rw [e1];simp),hx y (by rw [e1];simp)])
    ·rfl
 | _=>rfl
theorem kP {C:A2} {F F':Fr} {H H':Hp} {op:Op} (h:Ix op F F') (hc:∀ r,Ic F op=some r→D0 C H' r=D0 C H r):J4 C F' H' op=J4 C F H op:=by
 unfold Ix at h;cases op with
 | load t a=>
  simp only [J4,Ic,h a (by simp [Op.operands])] at *;split
  ·rename_i r off he;simp only [Hd,hc r (by simp [he])]
  ·rfl
 | field t x f=>simp only [J4,h x (by simp [Op.operands])]
 | index t x i=>simp only [J4,h x (by simp [Op.operands]),h i (by simp [Op.operands])]
 | convert s d x=>
  simp only [J4,Ic,h x (by simp [Op.operands])] at *;split
  ·rfl
  ·rename_i mb r off n _ he;simp only [hc r (by simp [he])]
  ·rfl
 | _=>rfl
theorem gF {C:A2} {F F':Fr} {H:Hp} {op:Op} (h:Ix op F F'):G4 C F' H op=G4 C F H op:=by
 unfold Ix at h;cases op with
 | store t a x=>simp only [G4,h a (by simp [Op.operands]),h x (by simp [Op.operands])]
 | box e x=>simp only [G4,h x (by simp [Op.operands])]
 | buildSlice t n parts=>
  have:parts.toList.map (fun p=>(p.1,ev F' p.2))=parts.toList.map (fun p=>(p.1,ev F p.2)):=List.map_congr_left fun p hp=>by
   rw [h p.2 (by simp only [Op.operands];simp;exact ⟨p.1,by simpa using hp⟩)]
  simp only [G4,this]
 | makeSlice t l c=>simp only [G4,h l (by simp [Op.operands]),h c (by simp [Op.operands])]
 | convert s d x=>simp only [G4,h x (by simp [Op.operands])]
 | call c=>
  obtain ⟨callee,args,ats⟩:=c;have hx:∀ x∈args.toList,ev F' x=ev F x:=fun x hx=>h x (by simp [Op.operands,Call.operands];exact .inr (by simpa using hx));cases callee with
  | value f=>rfl
  | invoke r n=>rfl
  | builtin b=>
   cases b<;>try rfl
   all_goals
    simp only [G4];split
    ·first
      | (rename_i s x t u e1 e2;rw [hx s (by rw [e1];simp),hx x (by rw [e1];simp)];done)
      | (rename_i x t e1 e2;rw [hx x (by rw [e1];simp)];done)
    ·rfl
 | _=>rfl
theorem mA {F F':Fr} {op:Op} (h:Ix op F F'):callOp F' op=callOp F op:=by
 unfold Ix at h;cases op with
 | call c=>
  obtain ⟨callee,args,ats⟩:=c;have hx:∀ x∈args.toList,ev F' x=ev F x:=fun x hx=>h x (by simp [Op.operands,Call.operands];exact .inr (by simpa using hx));cases callee with
  | value f=>
   have hf:=h f (by simp [Op.operands,Call.operands])
   have:args.toList.map (ev F')=args.toList.map (ev F):=List.map_congr_left hx
   simp only [callOp,hf,this]
  | _=>rfl
 | _=>rfl
theorem mM {F F':Fr} {op:Op} (h:Ix op F F'):yldOp F' op=yldOp F op:=by
 unfold Ix at h;cases op with
 | call c=>
  obtain ⟨callee,args,ats⟩:=c;have hx:∀ x∈args.toList,ev F' x=ev F x:=fun x hx=>h x (by simp [Op.operands,Call.operands];exact .inr (by simpa using hx));cases callee with
  | value f=>
   have hf:=h f (by simp [Op.operands,Call.operands])
   have:args.toList.map (ev F')=args.toList.map (ev F):=List.map_congr_left hx
   simp only [yldOp,hf,this]
  | _=>rfl
 | _=>rfl
theorem sY {all:List Oper} {o:Oper} {F F':Fr} (h:∀ t∈Jp all o,F'.getD t .undef=F.getD t .undef):Ix o.op F F':=fun x hx=>tO fun t ht=>by
 subst ht;refine h t ?_;unfold Jp;exact List.mem_append.2 (.inl (List.mem_filterMap.2 ⟨.tmp t,hx,rfl⟩))
theorem jZ {all:List Oper} {o:Oper} {F F':Fr} (h:∀ t∈Jp all o,F'.getD t .undef=F.getD t .undef):wantA all o.guard F'=wantA all o.guard F:=by
 unfold wantA;split
 ·rfl
 ·rename_i j want hg;split
  ·rename_i t ht;rw [h t ?_];unfold Jp;refine List.mem_append.2 (.inr ?_);simp only [hg,ht];simp
  ·rfl
theorem St.heap {K:Cfg} {all:List Oper} {o:Oper} {F:Fr} {H H':Hp} {tr:Tr} {v:AV} (h:St K all o F H tr v H'):H'=acts H tr.hs∧tr.len=H.length∧(tr.hs=[]∨tr.kd=.write):=by
 cases h with
 | skip hw=>exact ⟨rfl,rfl,.inl rfl⟩
 | pure hw hk h=>exact ⟨rfl,rfl,.inl rfl⟩
 | read hw hk h=>exact ⟨rfl,rfl,.inl rfl⟩
 | write hw hk h=>exact ⟨rfl,rfl,.inr rfl⟩
 | call hw hk h hs'=>exact ⟨rfl,rfl,.inr rfl⟩
 | yld hw h hs'=>exact ⟨rfl,rfl,.inr rfl⟩
theorem St.move {K:Cfg} {all:List Oper} {o:Oper} {F F':Fr} {H H2 H':Hp} {tr:Tr} {v:AV} (h:St K all o F H tr v H') (ha:∀ t∈Jp all o,F'.getD t .undef=F.getD t .undef)
  (hw:tr.kd=.write→H2=H) (hr:∀ r,tr.kd=.read r→D0 K.C H2 r=D0 K.C H r):∃ tr',St K all o F' H2 tr' v (acts H2 tr.hs):=by
 have ag:=sY ha;have wn:=jZ ha;cases h with
 | skip h1=>exact ⟨_,.skip (wn.trans h1)⟩
 | pure h1 hk h=>exact ⟨_,.pure (wn.trans h1) hk ((kT ag).trans h)⟩
 | read h1 hk h=>
  refine ⟨_,.read (wn.trans h1) hk ((kP ag fun r hs=>hr r ?_).trans h)⟩;simp only [hs]
 | write h1 hk h=>
  have:=hw rfl
  subst this;exact ⟨_,.write (wn.trans h1) hk ((gF ag).trans h)⟩
 | call h1 hk h hs'=>
  have:=hw rfl
  subst this;exact ⟨_,.call (wn.trans h1) hk ((mA ag).trans h) hs'⟩
 | yld h1 h hs'=>
  have:=hw rfl
  subst this;exact ⟨_,.yld (wn.trans h1) ((mM ag).trans h) hs'⟩
end Go.Am
namespace Go.Am
open Go.RowKit
def FSel (S:Nat→Bool):Nat→List Oper→List AV→Fr→Fr
 | i,o::l,v::vs,F=>FSel S (i+1) l vs (bif S i then put F o.dst v else F)
 | _,_,_,F=>F
def I9 (S:Nat→Bool):Nat→List Tr→Hp→Hp
 | i,t::ts,H=>I9 S (i+1) ts (bif S i then acts H t.hs else H)
 | _,[],H=>H
def D7 (j:Nat):Nat→Bool:=fun i=>decide (i<j)
theorem kR (F:Fr) (d:Option Tmp) (v:AV):(put F d v).length=F.length:=by cases d<;>simp [put]
theorem aM {F:Fr} {d:Option Tmp} {v:AV} {t:Tmp} (h:d≠some t):(put F d v).getD t .undef=F.getD t .undef:=by
 cases d with
 | none=>rfl
 | some d=>
  have:d≠t:=fun e=>h (by rw [e])
  simp [put,List.getD,List.getElem?_set,this]
theorem rZ {F:Fr} {d d':Option Tmp} {v v':AV} (h:d=none∨d≠d'):put (put F d v) d' v'=put (put F d' v') d v:=by
 cases d with
 | none=>rfl
 | some d=>
  cases d' with
  | none=>rfl
  | some d'=>
   have:d≠d':=fun e=>by
    rcases h with h | h
    ·simp at h
    ·exact h (by rw [e])
   exact List.set_comm _ _ this
theorem gC (S:Nat→Bool):∀ (l:List Oper) (vs:List AV) (i:Nat) (F:Fr) (d:Option Tmp) (v:AV),(∀ k o,l[k]?=some o→S (i+k)=true→d=none∨d≠o.dst)→
  FSel S i l vs (put F d v)=put (FSel S i l vs F) d v
 | [],vs,i,F,d,v,_=>by simp [FSel]
 | o::l,[],i,F,d,v,_=>by simp [FSel]
 | o::l,x::vs,i,F,d,v,h=>by
  simp only [FSel];have ih:=fun F=>gC S l vs (i+1) F d v fun k o' hk hs=>h (k+1) o' (by simpa using hk) (by rw [show i+(k+1)=i+1+k by omega];exact hs);cases hS:S i with
  | false=>simp only [cond_false];exact ih F
  | true=>
   simp only [cond_true];rw [rZ (h 0 o rfl (by simpa using hS))];exact ih _
theorem Hi (S S':Nat→Bool):∀ (l:List Oper) (vs:List AV) (i:Nat) (F:Fr),(∀ k,k<l.length→S (i+k)=S' (i+k))→FSel S i l vs F=FSel S' i l vs F
 | [],vs,i,F,_=>by simp [FSel]
 | o::l,[],i,F,_=>by simp [FSel]
 | o::l,x::vs,i,F,h=>by
  simp only [FSel];have h0:=h 0 (by simp);simp only [Nat.add_zero] at h0;rw [h0]
  exact Hi S S' l vs (i+1) _ fun k hk=>by
   have:=h (k+1) (by simp;omega)
   rwa [show i+(k+1)=i+1+k by omega] at this
theorem Sn (S S':Nat→Bool):∀ (l:List Oper) (vs:List AV) (i:Nat) (F:Fr) (j:Nat) (o:Oper) (v:AV),l[j]?=some o→vs[j]?=some v→S (i+j)=false→S' (i+j)=true→
  (∀ k,k≠i+j→S' k=S k)→(∀ k o',j<k→l[k]?=some o'→S (i+k)=true→o.dst=none∨o.dst≠o'.dst)→FSel S' i l vs F=put (FSel S i l vs F) o.dst v
 | [],vs,i,F,j,o,v,h1,_,_,_,_,_=>by simp at h1
 | o1::l,[],i,F,j,o,v,_,h2,_,_,_,_=>by simp at h2
 | o1::l,x::vs,i,F,0,o,v,h1,h2,h3,h4,h5,h6=>by
  simp only [List.getElem?_cons_zero,Option.some.injEq] at h1 h2;subst h1 h2;simp only [Nat.add_zero] at h3 h4 h5;simp only [FSel,h3,h4,cond_true,cond_false];rw [Hi S' S l vs (i+1) _ (fun k _=>h5 _ (by omega))];exact gC S l vs (i+1) F _ _ fun k o' hk hs=>h6 (k+1) o' (by omega) (by simpa using hk) (by rw [show i+(k+1)=i+1+k by omega];exact hs)
 | o1::l,x::vs,i,F,j+1,o,v,h1,h2,h3,h4,h5,h6=>by
  simp only [FSel];rw [h5 i (by omega)]
  exact Sn S S' l vs (i+1) _ j o v (by simpa using h1) (by simpa using h2) (by rw [show i+1+j=i+(j+1) by omega];exact h3) (by rw [show i+1+j=i+(j+1) by omega];exact h4)
   (fun k hk=>h5 k (by omega)) fun k o' hk ho hs=>h6 (k+1) o' (by omega) (by simpa using ho) (by rw [show i+(k+1)=i+1+k by omega];exact hs)
theorem gD (S S':Nat→Bool) (t:Tmp):∀ (l:List Oper) (vs:List AV) (i:Nat) (F F':Fr),F.length=F'.length→F.getD t .undef=F'.getD t .undef→
  (∀ k o,l[k]?=some o→o.dst=some t→S (i+k)=S' (i+k))→(FSel S i l vs F).getD t .undef=(FSel S' i l vs F').getD t .undef
 | [],vs,i,F,F',_,h,_=>by simpa [FSel] using h
 | o::l,[],i,F,F',_,h,_=>by simpa [FSel] using h
 | o::l,x::vs,i,F,F',hl,h,hs=>by
  simp only [FSel]
  refine gD S S' t l vs (i+1) _ _ ?_ ?_ fun k o' hk hd=>by
   have:=hs (k+1) o' (by simpa using hk) hd
   rwa [show i+(k+1)=i+1+k by omega] at this
  ·cases S i<;>cases S' i<;>simp [kR,hl]
  ·by_cases hd:o.dst=some t
   ·have:=hs 0 o rfl hd
    simp only [Nat.add_zero] at this;rw [this];cases S' i with
    | false=>exact h
    | true=>
     simp only [cond_true,hd,put];simp [List.getD,List.getElem?_set,hl]
   ·cases S i<;>cases S' i<;>simp only [cond_true,cond_false,aM hd,h]
theorem Y1 (S S':Nat→Bool):∀ (ts:List Tr) (i:Nat) (H:Hp),(∀ k t,ts[k]?=some t→t.hs=[]∨S (i+k)=S' (i+k))→I9 S i ts H=I9 S' i ts H
 | [],i,H,_=>by simp [I9]
 | t::ts,i,H,h=>by
  simp only [I9];have h0:=h 0 t rfl
  have e:(bif S i then acts H t.hs else H)=bif S' i then acts H t.hs else H:=by
   rcases h0 with h0 | h0
   ·simp [h0,acts]
   ·simp only [Nat.add_zero] at h0;rw [h0]
  rw [e]
  exact Y1 S S' ts (i+1) _ fun k t' hk=>by
   have:=h (k+1) t' (by simpa using hk)
   rwa [show i+(k+1)=i+1+k by omega] at this
theorem Ay:∀ (ts:List Tr) (i:Nat) (H:Hp) (S:Nat→Bool),(∀ k,k<ts.length→S (i+k)=false)→I9 S i ts H=H
 | [],i,H,S,_=>by simp [I9]
 | t::ts,i,H,S,h=>by
  simp only [I9];have h0:=h 0 (by simp);simp only [Nat.add_zero] at h0;rw [h0]
  exact Ay ts (i+1) H S fun k hk=>by
   have:=h (k+1) (by simp;omega)
   rwa [show i+(k+1)=i+1+k by omega] at this
theorem Qn:∀ (ts:List Tr) (i:Nat) (H:Hp) (j:Nat) (t:Tr),ts[j]?=some t→I9 (D7 (i+j+1)) i ts H=acts (I9 (D7 (i+j)) i ts H) t.hs
 | [],i,H,j,t,h=>by simp at h
 | t1::ts,i,H,0,t,h=>by
  simp only [List.getElem?_cons_zero,Option.some.injEq] at h;subst h;simp only [I9,Nat.add_zero];have e1:D7 (i+1) i=true:=by simp [D7]
  have e2:D7 i i=false:=by simp [D7]
  rw [e1,e2];simp only [cond_true,cond_false];rw [Ay ts (i+1) _ _ (fun k _=>decide_eq_false (by omega)),Ay ts (i+1) _ _ (fun k _=>decide_eq_false (by omega))]
 | t1::ts,i,H,j+1,t,h=>by
  simp only [I9];have e1:D7 (i+(j+1)+1) i=true:=decide_eq_true (by omega);have e2:D7 (i+(j+1)) i=true:=decide_eq_true (by omega);rw [e1,e2]
  have:=Qn ts (i+1) (acts H t1.hs) j t (by simpa using h)
  rw [show i+1+j=i+(j+1) by omega] at this;exact this
theorem DT.spell {K:Cfg} {all:List Oper}:∀ {l:List Oper} {F F':Fr} {H H':Hp} {trs:List Tr},DT K all l F H trs F' H'→∃ vs:List AV,vs.length=l.length∧trs.length=l.length∧
  FSel (D7 l.length) 0 l vs F=F'∧I9 (D7 l.length) 0 trs H=H'∧
  ∀ (j:Nat) o,l[j]?=some o→∃ tr v H2,trs[j]?=some tr∧vs[j]?=some v∧St K all o (FSel (D7 j) 0 l vs F) (I9 (D7 j) 0 trs H) tr v H2:=by
 intro l F F' H H' trs h
 induction h with
 | nil F H=>exact ⟨[],rfl,rfl,rfl,rfl,fun j o h=>by simp at h⟩
 | cons hst t ih=>
  rename_i o l F F' H H' H'' tr v trs;obtain ⟨vs,h1,h2,h3,h4,h5⟩:=ih;obtain ⟨hh,_,_⟩:=hst.heap;subst hh
  have shiftF:∀ j,FSel (D7 (j+1)) 0 (o::l) (v::vs) F=FSel (D7 j) 0 l vs (put F o.dst v):=fun j=>by
   simp only [FSel];have e:D7 (j+1) 0=true:=by simp [D7]
   rw [e];simp only [cond_true]
   have shift:∀ (l:List Oper) (vs:List AV) (i:Nat) (F:Fr),FSel (D7 (j+1)) (i+1) l vs F=FSel (D7 j) i l vs F:=by
    intro l
    induction l with
    | nil=>intro vs i F;simp [FSel]
    | cons o l ih=>
     intro vs i F;cases vs with
     | nil=>simp [FSel]
     | cons x vs=>
      simp only [FSel];rw [show D7 (j+1) (i+1)=D7 j i by simp [D7]];exact ih vs (i+1) _
   exact shift l vs 0 _
  have shiftH:∀ j,I9 (D7 (j+1)) 0 (tr::trs) H=I9 (D7 j) 0 trs (acts H tr.hs):=fun j=>by
   simp only [I9];have e:D7 (j+1) 0=true:=by simp [D7]
   rw [e];simp only [cond_true]
   have shift:∀ (l:List Tr) (i:Nat) (H:Hp),I9 (D7 (j+1)) (i+1) l H=I9 (D7 j) i l H:=by
    intro l
    induction l with
    | nil=>intro i H;simp [I9]
    | cons t l ih=>
     intro i H;simp only [I9];rw [show D7 (j+1) (i+1)=D7 j i by simp [D7]];exact ih (i+1) _
   exact shift trs 0 _
  refine ⟨v::vs,by simp [h1],by simp [h2],?_,?_,fun j o' hj=>?_⟩
  ·rw [List.length_cons,shiftF];exact h3
  ·rw [List.length_cons,shiftH];exact h4
  ·cases j with
   | zero=>
    simp only [List.getElem?_cons_zero,Option.some.injEq] at hj;subst hj;refine ⟨tr,v,acts H tr.hs,rfl,rfl,?_⟩
    have eF:FSel (D7 0) 0 (o::l) (v::vs) F=F:=by
     rw [Hi (D7 0) (fun _=>false) _ _ _ _ (fun k _=>by simp [D7])]
     have none:∀ (l:List Oper) (vs:List AV) (i:Nat) (F:Fr),FSel (fun _=>false) i l vs F=F:=by
      intro l
      induction l with
      | nil=>intro vs i F;simp [FSel]
      | cons o l ih=>intro vs i F;cases vs with
       | nil=>simp [FSel]
       | cons x vs=>simp only [FSel,cond_false];exact ih vs _ F
     exact none _ _ _ _
    have eH:I9 (D7 0) 0 (tr::trs) H=H:=Ay _ _ _ _ fun k _=>by simp [D7]
    rw [eF,eH];exact hst
   | succ j=>
    obtain ⟨tr',v',H2,g1,g2,g3⟩:=h5 j o' (by simpa using hj);refine ⟨tr',v',H2,by simpa using g1,by simpa using g2,?_⟩;rw [shiftF,shiftH];exact g3
def Vl (acc:List Nat) (es:List Edge):Nat:=es.foldl (fun s e=>bif Region.binds .any e then s ||| (2^e.on ||| acc.getD e.on 0) else s) 0
theorem eW (acc:List Nat) (i:Nat):∀ (es:List Edge) (s:Nat),(es.foldl (fun s e=>bif Region.binds .any e then s ||| (2^e.on ||| acc.getD e.on 0) else s) s).testBit i=true→
  s.testBit i=true∨∃ e∈es,Region.binds .any e=true∧(e.on=i∨(acc.getD e.on 0).testBit i=true)
 | [],s,h=>.inl h
 | e::es,s,h=>by
  simp only [List.foldl_cons] at h;rcases eW acc i es _ h with h | ⟨e',h1,h2⟩
  ·cases hb:Region.binds .any e with
   | false=>rw [hb] at h;exact .inl h
   | true=>
    rw [hb] at h;simp only [cond_true,Nat.testBit_or,Bool.or_eq_true,Nat.testBit_two_pow,decide_eq_true_eq] at h;rcases h with h | h | h
    ·exact .inl h
    ·exact .inr ⟨e,by simp,hb,.inl h⟩
    ·exact .inr ⟨e,by simp,hb,.inr h⟩
  ·exact .inr ⟨e',by simp [h1],h2⟩
theorem Vk:∀ (l:List Oper) (acc:List Nat),∃ t:List Nat,Cd l acc=acc++t∧t.length=l.length∧∀ (k:Nat) o,l[k]?=some o→t[k]?=some (Vl (acc++t.take k) o.after.toList)
 | [],acc=>⟨[],by simp [Cd],rfl,fun k o h=>by simp at h⟩
 | o::l,acc=>by
  obtain ⟨t,h1,h2,h3⟩:=Vk l (acc++[Vl acc o.after.toList]);refine ⟨Vl acc o.after.toList::t,?_,by simp [h2],fun k o' hk=>?_⟩
  ·have:Cd (o::l) acc=Cd l (acc++[Vl acc o.after.toList]):=rfl
   rw [this,h1];simp
  ·cases k with
   | zero=>simp at hk;subst hk;simp
   | succ k=>have:=h3 k o' (by simpa using hk);simpa using this
theorem Mz {all:List Oper} {S:Nat→Bool} (hcl:∀ (j:Nat) o,all[j]?=some o→S j=true→∀ e∈o.after.toList,Region.binds .any e=true→S e.on=true) :
  ∀ (j:Nat) o,all[j]?=some o→(∀ e∈o.after.toList,Region.binds .any e=true→S e.on=true)→∀ i,((Cd all []).getD j 0).testBit i=true→S i=true:=by
 obtain ⟨t,h1,h2,h3⟩:=Vk all [];simp only [List.nil_append] at h1 h3;intro j
 induction j using Nat.strongRecOn with
 | _ j ih=>
  intro o ho he i hi;have hm:=h3 j o ho;rw [h1] at hi;simp only [List.getD,hm,Option.getD_some] at hi;rcases eW (t.take j) i o.after.toList 0 hi with h | ⟨e,hmem,hb,h⟩
  ·simp at h
  ·rcases h with rfl | h
   ·exact he e hmem hb
   ·have hlt:e.on<j∧e.on<t.length:=by
     by_cases hc:e.on<(t.take j).length
     ·simp at hc;omega
     ·rw [List.getD,List.getElem?_eq_none (by omega)] at h;simp at h
    have hx:(t.take j).getD e.on 0=(Cd all []).getD e.on 0:=by
     rw [h1];simp [List.getD,hlt.1]
    rw [hx] at h;obtain ⟨o',ho'⟩:∃ o',all[e.on]?=some o':=⟨_,List.getElem?_eq_getElem (by omega)⟩;exact ih e.on hlt.1 o' ho' (hcl e.on o' ho' (he e hmem hb)) i h
theorem Nm:∀ (l:List Oper) (k:Nat),Lv k l=true→∀ (j:Nat) o,l[j]?=some o→∀ e∈o.after.toList,Region.binds .any e=true→e.on<k+j
 | [],k,_,j,o,h=>by simp at h
 | x::l,k,hk,j,o,h=>by
  simp only [Lv,Bool.and_eq_true] at hk;cases j with
  | zero=>
   simp at h;subst h;intro e he hb
   have:=(List.all_eq_true.1 hk.1) e he
   simp [hb] at this;omega
  | succ j=>
   intro e he hb
   have:=Nm l (k+1) hk.2 j o (by simpa using h) e he hb
   omega
theorem Fi:∀ (hs:List Hop) (H:Hp) (i:Nat),Fj i H.length hs=false→(acts H hs)[i]?=H[i]?
 | [],H,i,_=>rfl
 | h::hs,H,i,ht=>by
  simp only [acts];cases h with
  | set j b=>
   simp only [Fj,Bool.or_eq_false_iff,beq_eq_false_iff_ne] at ht
   have:=Fi hs (H.set j (some b)) i (by simpa using ht.2)
   show (acts (H.set j (some b)) hs)[i]?=_;rw [this,List.getElem?_set,if_neg ht.1]
  | new b=>
   simp only [Fj,Bool.or_eq_false_iff,beq_eq_false_iff_ne] at ht
   have:=Fi hs (H++[some b]) i (by simpa using ht.2)
   show (acts (H++[some b]) hs)[i]?=_;rw [this];by_cases hi:i<H.length
   ·rw [List.getElem?_append_left hi]
   ·rw [List.getElem?_eq_none (by simp;omega),List.getElem?_eq_none (by omega)]
  | app j b=>
   simp only [Fj,Bool.or_eq_false_iff,beq_eq_false_iff_ne] at ht
   have:=Fi hs (H.set j none++[some b]) i (by simpa using ht.2.2)
   show (acts (H.set j none++[some b]) hs)[i]?=_;rw [this];by_cases hi:i<H.length
   ·rw [List.getElem?_append_left (by simpa using hi),List.getElem?_set,if_neg ht.1]
   ·rw [List.getElem?_eq_none (by simp;omega),List.getElem?_eq_none (by omega)]
theorem cF {C:A2} {hs:List Hop} {H:Hp} {r:Ref} (h:Hy r H.length hs=false):D0 C (acts H hs) r=D0 C H r:=by
 cases r with
 | rw i=>simp only [D0,Fi hs H i h]
 | ro i=>rfl
end Go.Am
namespace Go.Am
open Go.RowKit
section
variable {K:Cfg} {lps:List Code} {all:List Oper} {trs:List Tr} {vs:List AV} {F0:Fr} {H0:Hp} {ρ0:Env} {w0:World}
theorem W6 (hd:S4 all trs=true) {i j:Nat} (hij:i<j) {x y:Oper} (hx:all[i]?=some x) (hy:all[j]?=some y) {a b:Tr} (ha:trs[i]?=some a) (hb:trs[j]?=some b) :
  ((Cd all []).getD j 0).testBit i=true∨(Lz all x y=true∧Y9 a b=true):=by
 simp only [S4,Bool.and_eq_true,List.all_eq_true] at hd;have hj:j<all.length:=(List.getElem?_eq_some_iff.1 hy).1
 have:=hd.2 j (List.mem_range.2 hj) i (List.mem_range.2 hij)
 simp only [hx,hy,ha,hb,Bool.or_eq_true,Bool.and_eq_true] at this;exact this
structure Wr (K:Cfg) (all:List Oper) (trs:List Tr) (vs:List AV) (F0:Fr) (H0:Hp) (ρ0:Env) (w0:World) (S:Nat→Bool) (a:Act) (w:World):Prop where
 closed:∀ (j:Nat) o,all[j]?=some o→S j=true→∀ e∈o.after.toList,Region.binds .any e=true→S e.on=true
 rel:∃ ρ,B0 K.C ρ (I9 S 0 trs H0) w∧D5 ρ (FSel S 0 all vs F0) a∧ρ0.le ρ∧Frm ρ0 w0 ρ w
theorem yM (hd:S4 all trs=true) (hl:trs.length=all.length) (hh:∀ (j:Nat) tr,trs[j]?=some tr→tr.hs=[]∨tr.kd=.write) {S:Nat→Bool}
  (hcl:∀ (j:Nat) o,all[j]?=some o→S j=true→∀ e∈o.after.toList,Region.binds .any e=true→S e.on=true) :
  ∃ p,I9 S 0 trs H0=I9 (D7 p) 0 trs H0∧(∀ (i:Nat) t,trs[i]?=some t→t.kd=.write→(S i=true↔i<p)):=by
 have opOf:∀ {i:Nat} {t:Tr},trs[i]?=some t→∃ o,all[i]?=some o:=fun {i t} h=>⟨_,List.getElem?_eq_getElem (by have:=(List.getElem?_eq_some_iff.1 h).1;omega)⟩
 have chain:∀ {i j:Nat} {a b:Tr},i<j→trs[i]?=some a→trs[j]?=some b→a.kd=.write→b.kd=.write→S j=true→S i=true:=by
  intro i j a b hij ha hb hka hkb hS;obtain ⟨x,hx⟩:=opOf ha;obtain ⟨y,hy⟩:=opOf hb;rcases W6 hd hij hx hy ha hb with h | ⟨_,h⟩
  ·exact Mz hcl j y hy (hcl j y hy hS) i h
  ·simp [Y9,hka,hkb] at h
 have ex:∃ p,∀ (i:Nat) t,trs[i]?=some t→t.kd=.write→(S i=true↔i<p):=by
  by_cases hw:∃ i t,trs[i]?=some t∧t.kd=.write∧S i=false
  ·have least:∃ p t,trs[p]?=some t∧t.kd=.write∧S p=false∧∀ i t',i<p→trs[i]?=some t'→t'.kd=.write→S i=true:=by
    obtain ⟨i,hi⟩:=hw
    induction i using Nat.strongRecOn with
    | _ i ih=>
     obtain ⟨t,h1,h2,h3⟩:=hi;by_cases hm:∃ i' t',i'<i∧trs[i']?=some t'∧t'.kd=.write∧S i'=false
     ·obtain ⟨i',t',hlt,g1,g2,g3⟩:=hm;exact ih i' hlt ⟨t',g1,g2,g3⟩
     ·refine ⟨i,t,h1,h2,h3,fun i' t' hlt g1 g2=>?_⟩;cases hs:S i' with
      | true=>rfl
      | false=>exact absurd ⟨i',t',hlt,g1,g2,hs⟩ hm
   obtain ⟨p,t,h1,h2,h3,h4⟩:=least;refine ⟨p,fun i t' g1 g2=>⟨fun hS=>?_,fun hlt=>h4 i t' hlt g1 g2⟩⟩;rcases Nat.lt_trichotomy i p with h | h | h
   ·exact h
   ·subst h;rw [h3] at hS;simp at hS
   ·have:=chain h h1 g1 h2 g2 hS
    rw [h3] at this;simp at this
  ·refine ⟨trs.length,fun i t g1 g2=>⟨fun _=>(List.getElem?_eq_some_iff.1 g1).1,fun _=>?_⟩⟩;cases hs:S i with
   | true=>rfl
   | false=>exact absurd ⟨i,t,g1,g2,hs⟩ hw
 obtain ⟨p,hp⟩:=ex;refine ⟨p,Y1 S (D7 p) trs 0 H0 fun k t hk=>?_,hp⟩;rcases hh k t hk with h | h
 ·exact .inl h
 ·refine .inr ?_
  have:=hp k t hk h
  simp only [Nat.zero_add];cases hS:S k with
  | true=>rw [eq_comm];exact decide_eq_true (this.1 hS)
  | false=>
   rw [eq_comm];refine decide_eq_false fun hlt=>?_;rw [this.2 hlt] at hS;simp at hS
theorem Kj (hst:∀ (j:Nat) tr,trs[j]?=some tr→tr.len=(I9 (D7 j) 0 trs H0).length) {r:Ref} {p:Nat}:∀ (q:Nat),p≤q→q≤trs.length→
  (∀ (i:Nat) t,p≤i→i<q→trs[i]?=some t→t.hs=[]∨Hy r t.len t.hs=false)→D0 K.C (I9 (D7 q) 0 trs H0) r=D0 K.C (I9 (D7 p) 0 trs H0) r:=by
 intro q
 induction q with
 | zero=>
  intro hpq _ _;have h0:p=0:=by omega
  rw [h0]
 | succ q ih=>
  intro hpq hq h;by_cases he:p=q+1
  ·subst he;rfl
  ·obtain ⟨t,ht⟩:∃ t,trs[q]?=some t:=⟨_,List.getElem?_eq_getElem (by omega)⟩;have hs:=Qn trs 0 H0 q t ht;simp only [Nat.zero_add] at hs;rw [hs];have ih:=ih (by omega) (by omega) fun i t' h1 h2 h3=>h i t' h1 (by omega) h3;rcases h q t (by omega) (by omega) ht with h0 | h0
   ·rw [h0];exact ih
   ·rw [hst q t ht] at h0;rw [cF h0];exact ih
theorem kE (hK:Ei K lps) (hd:S4 all trs=true) (hvl:vs.length=all.length) (hl:trs.length=all.length)
    (htr:∀ (j:Nat) o,all[j]?=some o→∃ tr v H2,trs[j]?=some tr∧vs[j]?=some v∧St K all o (FSel (D7 j) 0 all vs F0) (I9 (D7 j) 0 trs H0) tr v H2)
    {S S':Nat→Bool} {a:Act} {w:World} (hs:Wr K all trs vs F0 H0 ρ0 w0 S a w) {j:Nat} {o:Oper} (ho:all[j]?=some o) (hS:S j=false) (hS':S' j=true) (hother:∀ k,k≠j→S' k=S k)
    (hready:∀ e∈o.after.toList,Region.binds .any e=true→S e.on=true) {next:Act→World→Prop} {Q:Exit→Act→World→Prop} {r:Option Nat}
    (hn:∀ a' w',Wr K all trs vs F0 H0 ρ0 w0 S' a' w'→next a' w') :
    if Region.wanted o (yielded all.toArray a.tmps) then o.wpIn (W r) 0 K.C.P a w next Q else (∀ f,o.about K.C.P w a.eval=some f→(W r).fn f)∧next (a.put o.dst undef) w:=by
  obtain ⟨tr,v,H2,h1,h2,hst⟩:=htr j o ho;obtain ⟨ρ,hH,hF,hle,hfr⟩:=hs.rel;have hjl:j<all.length:=(List.getElem?_eq_some_iff.1 ho).1;have trOf:∀ {i:Nat} {x:Oper},all[i]?=some x→∃ t,trs[i]?=some t:=fun {i x} h=>⟨_,List.getElem?_eq_getElem (by have:=(List.getElem?_eq_some_iff.1 h).1;omega)⟩
  have hhs:∀ (i:Nat) t,trs[i]?=some t→t.hs=[]∨t.kd=.write:=fun i t hi=>by
    obtain ⟨x,hx⟩:∃ x,all[i]?=some x:=⟨_,List.getElem?_eq_getElem (by have:=(List.getElem?_eq_some_iff.1 hi).1;omega)⟩;obtain ⟨tr',v',H3,g1,g2,g3⟩:=htr i x hx;rw [hi] at g1;simp at g1;subst g1;exact g3.heap.2.2
  have hlen:∀ (i:Nat) t,trs[i]?=some t→t.len=(I9 (D7 i) 0 trs H0).length:=fun i t hi=>by
    obtain ⟨x,hx⟩:∃ x,all[i]?=some x:=⟨_,List.getElem?_eq_getElem (by have:=(List.getElem?_eq_some_iff.1 hi).1;omega)⟩;obtain ⟨tr',v',H3,g1,g2,g3⟩:=htr i x hx;rw [hi] at g1;simp at g1;subst g1;exact g3.heap.2.1
  -- an earlier one that is named by the mask is listed;a later one whose mask names this one is not
  have early:∀ i,((Cd all []).getD j 0).testBit i=true→S i=true:=Mz hs.closed j o ho hready
  have late:∀ {i:Nat} {x:Oper},all[i]?=some x→((Cd all []).getD i 0).testBit j=true→S i=false:=fun {i x} hx hm=>by
    cases hSi:S i with
    | false=>rfl
    | true=>
      have:=Mz hs.closed i x hx (hs.closed i x hx hSi) j hm
      rw [hS] at this;simp at this
  -- the slots
  have hag:∀ t∈Jp all o,(FSel S 0 all vs F0).getD t .undef=(FSel (D7 j) 0 all vs F0).getD t .undef:=fun t ht=>by
    refine gD S (D7 j) t all vs 0 F0 F0 rfl rfl fun k x hx hdst=>?_;simp only [Nat.zero_add];obtain ⟨tx,htx⟩:=trOf hx;rcases Nat.lt_trichotomy k j with h | h | h
    · rw [show D7 j k=true from decide_eq_true h];rcases W6 hd h hx ho htx h1 with hm | ⟨hm,_⟩
      · exact early k hm
      · simp only [Lz,hdst,Bool.and_eq_true,Bool.not_eq_true'] at hm
        have:=hm.1.1
        rw [List.contains_eq_mem,decide_eq_false_iff_not] at this;exact absurd ht this
    · subst h;rw [show D7 k k=false from decide_eq_false (by omega)];exact hS
    · rw [show D7 j k=false from decide_eq_false (by omega)];rcases W6 hd h ho hx h1 htx with hm | ⟨hm,_⟩
      · exact late hx hm
      · simp only [Lz,hdst,Bool.and_eq_true,Bool.not_eq_true'] at hm
        have:=hm.2
        rw [List.contains_eq_mem,decide_eq_false_iff_not] at this;exact absurd ht this
  obtain ⟨p,hp,hpw⟩:=yM (H0:=H0) hd hl hhs hs.closed
  have hwrite:tr.kd=.write→I9 S 0 trs H0=I9 (D7 j) 0 trs H0:=fun hk=>by
    refine Y1 S (D7 j) trs 0 H0 fun k t ht=>?_;rcases hhs k t ht with h | h
    · exact .inl h
    · refine .inr ?_;simp only [Nat.zero_add];obtain ⟨x,hx⟩:∃ x,all[k]?=some x:=⟨_,List.getElem?_eq_getElem (by have:=(List.getElem?_eq_some_iff.1 ht).1;omega)⟩;rcases Nat.lt_trichotomy k j with hlt | hlt | hlt
      · rw [show D7 j k=true from decide_eq_true hlt];rcases W6 hd hlt hx ho ht h1 with hm | ⟨_,hm⟩
        · exact early k hm
        · simp [Y9,h,hk] at hm
      · subst hlt;rw [show D7 k k=false from decide_eq_false (by omega)];exact hS
      · rw [show D7 j k=false from decide_eq_false (by omega)];rcases W6 hd hlt ho hx h1 ht with hm | ⟨_,hm⟩
        · exact late hx hm
        · simp [Y9,h,hk] at hm
  have hread:∀ r,tr.kd=.read r→D0 K.C (I9 S 0 trs H0) r=D0 K.C (I9 (D7 j) 0 trs H0) r:=fun r hk=>by
    rw [hp];rcases Nat.le_total p j with hpj | hpj
    · refine (Kj hlen j hpj (by omega) fun i t h3 h4 h5=>?_).symm;rcases hhs i t h5 with h | h
      · exact .inl h
      · refine .inr ?_;obtain ⟨x,hx⟩:∃ x,all[i]?=some x:=⟨_,List.getElem?_eq_getElem (by have:=(List.getElem?_eq_some_iff.1 h5).1;omega)⟩;rcases W6 hd h4 hx ho h5 h1 with hm | ⟨_,hm⟩
        · have:=(hpw i t h5 h).1 (early i hm);omega
        · simpa [Y9,h,hk] using hm
    · by_cases hpl:p≤trs.length
      · refine Kj hlen p hpj hpl fun i t h3 h4 h5=>?_;rcases hhs i t h5 with h | h
        · exact .inl h
        · refine .inr ?_
          have hji:j<i:=by
            rcases Nat.lt_or_ge j i with h | h
            · exact h
            · obtain rfl:i=j:=by omega
              rw [h1] at h5;simp at h5;subst h5;rw [hk] at h;simp at h
          obtain ⟨x,hx⟩:∃ x,all[i]?=some x:=⟨_,List.getElem?_eq_getElem (by have:=(List.getElem?_eq_some_iff.1 h5).1;omega)⟩;rcases W6 hd hji ho hx h1 h5 with hm | ⟨_,hm⟩
          · have:=late hx hm
            rw [(hpw i t h5 h).2 h4] at this;simp at this
          · simpa [Y9,h,hk] using hm
      · have e:I9 (D7 p) 0 trs H0=I9 (D7 trs.length) 0 trs H0:=Y1 _ _ _ _ _ fun k t hk'=>.inr (by
          have:=(List.getElem?_eq_some_iff.1 hk').1
          simp only [Nat.zero_add]
          rw [show D7 p k=true from decide_eq_true (by omega),show D7 trs.length k=true from decide_eq_true (by omega)])
        rw [e];refine Kj hlen trs.length (by omega) (Nat.le_refl _) fun i t h3 h4 h5=>?_;rcases hhs i t h5 with h | h
        · exact .inl h
        · refine .inr ?_
          have hji:j<i:=by
            rcases Nat.lt_or_ge j i with h | h
            · exact h
            · obtain rfl:i=j:=by omega
              rw [h1] at h5;simp at h5;subst h5;rw [hk] at h;simp at h
          obtain ⟨x,hx⟩:∃ x,all[i]?=some x:=⟨_,List.getElem?_eq_getElem (by have:=(List.getElem?_eq_some_iff.1 h5).1;omega)⟩;rcases W6 hd hji ho hx h1 h5 with hm | ⟨_,hm⟩
          · have:=late hx hm
            rw [(hpw i t h5 h).2 (by omega)] at this;simp at this
          · simpa [Y9,h,hk] using hm
  obtain ⟨tr',hst'⟩:=hst.move hag hwrite hread
  -- what it becomes
  have hF':FSel S' 0 all vs F0=put (FSel S 0 all vs F0) o.dst v:=Sn S S' all vs 0 F0 j o v ho h2 (by simpa using hS) (by simpa using hS') (fun k hk=>hother k (by simpa using hk)) fun k x hk hx hSk=>by
    simp only [Nat.zero_add] at hSk;obtain ⟨tx,htx⟩:=trOf hx;rcases W6 hd hk ho hx h1 htx with hm | ⟨hm,_⟩
    · have:=late hx hm;rw [hSk] at this;simp at this
    · cases hdst:o.dst with
      | none=>exact .inl rfl
      | some d=>
        refine .inr fun e=>?_;simp only [Lz,hdst,Bool.and_eq_true,Bool.not_eq_true',←e] at hm
        have:=hm.1.2
        simp at this
  have hH':I9 S' 0 trs H0=acts (I9 S 0 trs H0) tr.hs:=by
    rcases hhs j tr h1 with h | h
    · rw [h];refine Y1 S' S trs 0 H0 fun k t ht=>?_;by_cases hkj:k=j
      · subst hkj;rw [h1] at ht;simp at ht;subst ht;exact .inl h
      · exact .inr (by simp only [Nat.zero_add];exact hother k hkj)
    · rw [hwrite h]
      have:=Qn trs 0 H0 j tr h1
      simp only [Nat.zero_add] at this;rw [← this];refine Y1 S' (D7 (j+1)) trs 0 H0 fun k t ht=>?_;rcases hhs k t ht with h' | h'
      · exact .inl h'
      · refine .inr ?_;simp only [Nat.zero_add];by_cases hkj:k=j
        · subst hkj;rw [hS',show D7 (k+1) k=true from decide_eq_true (by omega)]
        · rw [hother k hkj];obtain ⟨x,hx⟩:∃ x,all[k]?=some x:=⟨_,List.getElem?_eq_getElem (by have:=(List.getElem?_eq_some_iff.1 ht).1;omega)⟩;rcases Nat.lt_or_ge k j with hlt | hge
          · rw [show D7 (j+1) k=true from decide_eq_true (by omega)];rcases W6 hd hlt hx ho ht h1 with hm | ⟨_,hm⟩
            · exact early k hm
            · simp [Y9,h,h'] at hm
          · rw [show D7 (j+1) k=false from decide_eq_false (by omega)];rcases W6 hd (by omega:j<k) ho hx h1 ht with hm | ⟨_,hm⟩
            · exact late hx hm
            · simp [Y9,h,h'] at hm
  refine hst'.sound hK hH hF fun ρ' cv w' g1 g2 g3 g4=>hn _ _ ⟨?_,ρ',?_,?_,Env.le_trans hle g3,hfr.trans g4⟩
  · intro k x hx hSk e he hb;by_cases hek:e.on=j
    · rw [hek];exact hS'
    · rw [hother _ hek];by_cases hkj:k=j
      · subst hkj;rw [ho] at hx;simp at hx;subst hx;exact hready e he hb
      · rw [hother k hkj] at hSk;exact hs.closed k x hx hSk e he hb
  · rw [hH'];exact g1
  · rw [hF'];exact (hF.mono g3).put _ _ _ g2
end
end Go.Am
namespace Go.Am
open Go.RowKit
theorem Gb (e:Int) (K:Int→Prop):nam e K=K e:=propext ⟨fun h=>h e rfl,fun h x hx=>by subst hx;exact h⟩
theorem iN (nm:Bool) (s:Md) (F:Fr) (d:Option Tmp) (v:AV) (k:Fr→Prop):Xm nm s F d v k=k (put F d v):=by
 cases nm
 ·exact E3 s F d v k
 ·cases v<;>simp only [Xm,Gb,E3]
theorem Qy (sp nm:Bool) (s:Md) (F:Fr) (d:Option Tmp) (v:AV) (k:Fr→Prop):Xl sp nm s F d v k=k (put F d v):=by
 cases sp
 ·exact iN nm s F d v k
 ·cases v<;>simp only [Xl,iN,E3];rename_i b;cases b<;>rfl
theorem iY:∀ (args:List AV) (k:List AV→Prop),Xt args k=k args
 | [],k=>rfl
 | x::l,k=>by cases x<;>simp only [Xt,Gb,iY l]
theorem Hn (nm:Bool) (args:List AV) (k:List AV→Prop):namL nm args k=k args:=by
 cases nm
 ·rfl
 ·exact iY args k
theorem yR (b:Blk) (k:Blk→Prop):Tm b k=k b:=by obtain ⟨e,cs⟩:=b;simp only [Tm,Yc]
theorem Lq (s:Md) (H:Hp) (o:Hop) (k:Hp→Prop):Pp s H o k=k (o.act H):=by
 cases s
 ·rfl
 ·cases o<;>simp only [Pp,La,Ta,Hop.act]
 ·cases o<;>simp only [Pp,yR,La,Ta,Hop.act]
theorem Ik (s:Md):∀ (hs:List Hop) (H:Hp) (k:Hp→Prop),Nf s H hs k=k (acts H hs)
 | [],_,_=>rfl
 | h::hs,H,k=>by simp only [Nf,Lq,Ik s hs,acts]
theorem Oy {o:Option (Bool×AV)} {K:AV→Prop} {v:AV} (h:o=some (true,v)) (k:K v):Sh o K:=by rw [h];exact k
theorem mP {o:Option (Bool×AV×Hop)} {K:AV→Hop→Prop} {v:AV} {x:Hop} (h:o=some (true,v,x)) (k:K v x):wrc o K:=by rw [h];exact k
theorem nJ {o:Option (Bool×AV×List Hop)} {K:AV→List Hop→Prop} {v:AV} {x:List Hop} (h:o=some (true,v,x)) (k:K v x):smc o K:=by rw [h];exact k
theorem lpc_of {o:Option (Bool×Ex×Fr×Hp)} {K:Ex→Fr→Hp→Prop} {e:Ex} {F:Fr} {H:Hp} (h:o=some (true,e,F,H)) (k:K e F H):lpc o K:=by rw [h];exact k
theorem Bz {c:Bool} {K:Prop} (h:c=true) (k:K):chk c K:=by rw [h];exact k
def L4 (K:Cfg) (d:Nat):Wk→Bool
 | .code c=>G7 K d c
 | .ops _ l=>l.all (Do K (G7 K d))
 | .dr _ l _=>l.all (Do K (G7 K d))
def Pt (K:Cfg) (n:Nat):Prop:=∀ m wk F H Q,vc K n m wk F H Q→∃ e F' H',(∀ Q':Post,Q' e F' H'→vc K n m wk F H Q')∧Q e F' H'∧∀ d,L4 K d wk=true→H'=H
theorem rH:∀ {x y:AV},kJ x y=true→x=y:=by
 intro x y h;unfold kJ at h;split at h<;>simp_all
theorem cP:∀ {xs ys:List AV},Qv xs ys=true→xs=ys
 | [],[],_=>rfl
 | [],_::_,h=>by simp [Qv] at h
 | _::_,[],h=>by simp [Qv] at h
 | x::xs,y::ys,h=>by
  simp only [Qv,Bool.and_eq_true] at h;rw [rH h.1,cP h.2]
theorem rF {x:Option Blk} {b:Blk} (h:bA x b=true):x=some b:=by
 cases x with
 | none=>simp [bA] at h
 | some a=>
  obtain ⟨e,cs⟩:=a;obtain ⟨e',cs'⟩:=b;simp only [bA,Bool.and_eq_true] at h;rw [Nat.eq_of_beq_eq_true h.1,cP h.2]
theorem It:∀ (H':Hp) (i:Nat) (H0:Hp) (hs:List Hop),(H0.length=i→S8 false i H'=some hs→acts H0 hs=H0++H')∧(H0.length+1=i→S8 true i H'=some hs→acts (H0++[some ⟨0,[]⟩]) hs=H0++none::H')
 | [],i,H0,hs=>⟨fun _ h=>by simp [S8] at h;subst h;simp [acts],fun _ h=>by simp [S8] at h⟩
 | x::H',i,H0,hs=>by
  have e0:∀ b,H0.length+1=i→(Hop.app (i - 1) b).act (H0++[some (⟨0,[]⟩:Blk)])=H0++[none]++[some b]:=fun b hl=>by
   simp only [Hop.act];rw [List.set_append_right _ _ (by omega),show i - 1 - H0.length=0 by omega];simp
  cases x with
  | some b=>
   refine ⟨fun hl h=>?_,fun hl h=>?_⟩
   ·simp only [S8] at h;split at h
    ·rename_i hs' h1;simp at h;subst h;simp only [acts,Hop.act];rw [(It H' (i+1) (H0++[some b]) hs').1 (by simp [hl]) h1];simp
    ·simp at h
   ·simp only [S8] at h;split at h
    ·rename_i hs' h1;simp at h;subst h;simp only [acts];rw [e0 b hl,(It H' (i+1) (H0++[none]++[some b]) hs').1 (by simp;omega) h1];simp
    ·simp at h
  | none=>
   refine ⟨fun hl h=>?_,fun hl h=>?_⟩
   ·simp only [S8] at h;split at h
    ·rename_i hs' h1;simp at h;subst h;simp only [acts,Hop.act];rw [(It H' (i+1) H0 hs').2 (by simp [hl]) h1]
    ·simp at h
   ·simp only [S8] at h;split at h
    ·rename_i hs' h1;simp at h;subst h;simp only [acts];rw [e0 _ hl,(It H' (i+1) (H0++[none]) hs').2 (by simp;omega) h1];simp
    ·simp at h
theorem Gk {cmp:Bool}:∀ (i:Nat) (H0 H H':Hp) (hs:List Hop),H0.length=i→V9 cmp i H H'=some hs→acts (H0++H) hs=H0++H'
 | i,H0,[],H',hs,hl,h=>by rw [List.append_nil];exact (It H' i H0 hs).1 hl (by simpa only [V9] using h)
 | i,H0,x::H,[],hs,_,h=>by cases x<;>simp [V9] at h
 | i,H0,x::H,some b::H',hs,hl,h=>by
  have h:(∃ hs',V9 cmp (i+1) H H'=some hs'∧hs=Hop.set i b::hs')∨(x=some b∧V9 cmp (i+1) H H'=some hs):=by
   simp only [V9] at h;split at h
   ·rename_i hc;simp only [Bool.and_eq_true] at hc;exact .inr ⟨rF hc.2,h⟩
   ·split at h
    ·exact .inl ⟨_,by assumption,(Option.some.inj h).symm⟩
    ·simp at h
  rcases h with ⟨hs',h1,rfl⟩ | ⟨rfl,h1⟩
  ·have ih:=Gk (i+1) (H0++[some b]) H H' hs' (by simp [hl]) h1;simp only [acts,Hop.act]
   have e:(H0++x::H).set i (some b)=H0++[some b]++H:=by
    rw [List.set_append_right _ _ (by omega),hl];simp
   rw [e,ih];simp
  ·have ih:=Gk (i+1) (H0++[some b]) H H' hs (by simp [hl]) h1;simpa using ih
 | i,H0,none::H,none::H',hs,hl,h=>by
  simp only [V9] at h;have ih:=Gk (i+1) (H0++[none]) H H' hs (by simp [hl]) h;simpa using ih
 | i,H0,some _::H,none::H',hs,hl,h=>by simp [V9] at h
theorem ret_pt {C:A2} {fn:Func} {Q:AV→Hp→Prop} {e:Ex} {F:Fr} {H:Hp} (h:J6 C fn Q e F H):∃ v,Q v H∧∀ Q':AV→Hp→Prop,Q' v H→J6 C fn Q' e F H:=by
 unfold J6 at h;split at h
 ·exact h.elim
 ·rename_i hne;obtain ⟨v,h1,h2⟩:=S1 h;refine ⟨v,h2,fun Q' hq=>?_⟩;unfold J6;split
  ·rename_i i;exact absurd rfl (hne i)
  ·exact Oy h1 hq
theorem Ry {K:Cfg} {n:Nat} (ih:Pt K n) {c:Code} {fn:Func} {F:Fr} {H:Hp} {m:Nat} {Q:AV→Hp→Prop} (h:vc K n m (.code c) F H (J6 K.C fn Q)) :
  ∃ v H',Q v H'∧(∀ Q':AV→Hp→Prop,Q' v H'→vc K n m (.code c) F H (J6 K.C fn Q'))∧∀ d,G7 K d c=true→H'=H:=by
 obtain ⟨e,F',H',h1,h2,h3⟩:=ih _ _ _ _ _ h;obtain ⟨v,h4,h5⟩:=ret_pt h2;exact ⟨v,H',h4,fun Q' hq=>h1 _ (h5 Q' hq),fun d hd=>h3 d hd⟩
theorem Ft {K:Cfg} {rec:Code→Bool} {o:Oper} {F:Fr} {f:FuncId} {args:List AV} (hk:kdOf K.C.P o.op=.call) (hr:Do K rec o=true) (hc:callOp F o.op=some (f,args)) :
  K.inl f=true∧∀ fn c,K.C.P.funcs[f]?=some fn→fn.body=some c→rec c=true:=by
 unfold Do at hr;rw [hk] at hr;simp only at hr;split at hr
 ·rename_i g args' ts hop;rw [hop] at hc;simp only [callOp,ev,Option.some.injEq,Prod.mk.injEq] at hc;obtain ⟨rfl,_⟩:=hc;simp only [Bool.and_eq_true] at hr;refine ⟨hr.1,fun fn c h1 h2=>?_⟩
  have:=hr.2
  rw [h1] at this;simp only [h2] at this;exact this
 ·simp at hr
theorem zE {K:Cfg} {n:Nat} (ih:Pt K n) {m:Nat} {all l:List Oper} {dst:Option Tmp} {i:Nat} {args:List AV} {F:Fr} {H:Hp} {Q:Post} (h:Hj K (vc K n) m all l dst i args F H Q) :
  ∃ v H',vc K n m (.ops all l) (put F dst v) H' Q∧∀ Q':Post,vc K n m (.ops all l) (put F dst v) H' Q'→Hj K (vc K n) m all l dst i args F H Q':=by
 unfold Hj at h;split at h
 ·rename_i e ps as bd F0 h0;obtain ⟨hc,h1⟩:=H6 h;obtain ⟨e1,F1,H1,g1,g2,_⟩:=ih _ _ _ _ _ h1;unfold Qp at g2;split at g2
  ·split at g2
   ·rename_i e2 ps2 as2 bd2 F2 h2;obtain ⟨hc2,h3⟩:=H6 g2;obtain ⟨e3,F3,H3,q1,q2,_⟩:=ih _ _ _ _ _ h3;unfold Kq at q2;split at q2
    ·rename_i e4 ps4 as4 bd4 F4 h4;obtain ⟨hc4,h5⟩:=H6 q2;rw [E3] at h5;refine ⟨_,_,h5,fun Q' hq=>?_⟩;unfold Hj;simp only [h0];refine Bz hc (g1 _ ?_);unfold Qp;simp only [h2];refine Bz hc2 (q1 _ ?_);unfold Kq;simp only [h4];exact Bz hc4 (by rw [E3];exact hq)
    ·exact q2.elim
   ·exact g2.elim
  ·exact g2.elim
 ·exact h.elim
theorem rng_pt {i:Nat} {F:Fr} {Q:Post} {v:AV} {H:Hp} (h:Fy i F Q v H):∃ ex H',Q ex F H'∧∀ Q':Post,Q' ex F H'→Fy i F Q' v H:=by
 unfold Fy at h;split at h
 ·rename_i e p ps as bd F0 h0;obtain ⟨hc,h1⟩:=H6 h
  have key:∀ ex:Ex,(∀ Q':Post,Q' ex F (H.set i none)→rngJ p F (H.set i none) Q')→∀ Q':Post,Q' ex F (H.set i none)→Fy i F Q' v H:=fun ex hk Q' hq=>by
   unfold Fy;simp only [h0];exact Bz hc (hk Q' hq)
  match p,h1,key with
  | 0,h1,key=>exact ⟨_,_,h1,key _ fun _ hq=>hq⟩
  | 1,h1,key=>exact h1.elim
  | 2,h1,key=>exact ⟨_,_,h1,key _ fun _ hq=>hq⟩
  | n+3,h1,key=>exact ⟨_,_,h1,key _ fun _ hq=>hq⟩
 ·exact h.elim
theorem qI {K:Cfg} {rec:Code→Bool} {o:Oper} {F:Fr} {i:Nat} {args:List AV} (hk:kdOf K.C.P o.op=.call) (hr:Do K rec o=true) (hc:yldOp F o.op=some (i,args)):False:=by
 unfold Do at hr;rw [hk] at hr;simp only at hr;split at hr
 ·rename_i g args' ts hop;rw [hop] at hc;simp [yldOp,ev] at hc
 ·simp at hr
theorem oF (K:Cfg):∀ n,Pt K n
  | 0=>fun _ _ _ _ _ h=>h.elim
  | n+1=>by
    have ih:=oF K n;intro m wk F H Q h;cases wk with
    | ops all l=>
      change Hk K (vc K n) m all l F H Q at h;change ∃ e F' H',(∀ Q':Post,Q' e F' H'→Hk K (vc K n) m all l F H Q')∧_;cases l with
      | nil=>exact ⟨.normal,F,H,fun Q' hq=>hq,h,fun _ _=>rfl⟩
      | cons o l=>
        obtain ⟨dst,op,ty,pos,after,guard⟩:=o;simp only [Hk] at h ⊢
        have hro:∀ d,L4 K d (.ops all (⟨dst,op,ty,pos,after,guard⟩::l))=true→Do K (G7 K d) ⟨dst,op,ty,pos,after,guard⟩=true∧L4 K d (.ops all l)=true:=fun d hd=>by
          simpa [L4] using hd
        -- the rest of the region
        have rest:∀ {v:AV} {H1:Hp} {k:Post→Prop},vc K n m (.ops all l) (put F dst v) H1 Q→(∀ Q':Post,vc K n m (.ops all l) (put F dst v) H1 Q'→k Q')→(∀ d,Do K (G7 K d) ⟨dst,op,ty,pos,after,guard⟩=true→H1=H)→
            ∃ e F' H',(∀ Q':Post,Q' e F' H'→k Q')∧Q e F' H'∧∀ d,L4 K d (.ops all (⟨dst,op,ty,pos,after,guard⟩::l))=true→H'=H:=by
          intro v H1 k h1 h2 h3;obtain ⟨e,F',H',g1,g2,g3⟩:=ih _ _ _ _ _ h1;exact ⟨e,F',H',fun Q' hq=>h2 Q' (g1 Q' hq),g2,fun d hd=>(g3 d (hro d hd).2).trans (h3 d (hro d hd).1)⟩
        rcases Pr h with ⟨hw,h,hg⟩ | ⟨hw,h,hg⟩
        · unfold Dk at h;split at h
          · rename_i hk;obtain ⟨v,h1,h2⟩:=S1 h;rw [Qy] at h2;refine rest h2 (fun Q' hq=>hg _ _ ?_) (fun _ _=>rfl);unfold Dk;rw [hk];exact Oy h1 (by rw [Qy];exact hq)
          · rename_i hk;obtain ⟨v,h1,h2⟩:=S1 h;rw [E3] at h2;refine rest h2 (fun Q' hq=>hg _ _ ?_) (fun _ _=>rfl);unfold Dk;rw [hk];exact Oy h1 (by rw [E3];exact hq)
          · rename_i hk;obtain ⟨v,x,h1,h2⟩:=Mc h;rw [Lq,E3] at h2;refine rest h2 (fun Q' hq=>hg _ _ ?_) (fun d hd=>?_)
            · unfold Dk;rw [hk];exact mP h1 (by rw [Lq,E3];exact hq)
            · unfold Do at hd;rw [hk] at hd;simp at hd
          · rename_i hk;split at h
            · rename_i f args hc;unfold Ia at h;split at h
              · rename_i hi;split at h
                · rename_i fn hfn;split at h
                  · rename_i c hb;obtain ⟨hnm,h2⟩:=H6 h;obtain ⟨v,H1,g1,g2,g3⟩:=Ry ih h2;rw [E3] at g1;refine rest g1 (fun Q' hq=>hg _ _ ?_) (fun d hd=>g3 d ((Ft hk hd hc).2 fn c hfn hb));unfold Dk;rw [hk];simp only [hc];unfold Ia;rw [hi];simp only [hfn,hb];exact Bz hnm (g2 _ (by rw [E3];exact hq))
                  · exact h.elim
                · exact h.elim
              · rename_i hi;rw [Hn] at h;obtain ⟨v,hs,h1,h2⟩:=Mh h;rw [Ik,E3] at h2;refine rest h2 (fun Q' hq=>hg _ _ ?_) (fun d hd=>?_)
                · unfold Dk;rw [hk];simp only [hc];unfold Ia;rw [hi];simp only [Hn];exact nJ h1 (by rw [Ik,E3];exact hq)
                · have:=(Ft hk hd hc).1
                  rw [hi] at this;simp at this
            · rename_i hc;split at h
              · rename_i i args hy;obtain ⟨v,H1,g1,g2⟩:=zE ih h;refine rest g1 (fun Q' hq=>hg _ _ ?_) (fun d hd=>(qI hk hd hy).elim);unfold Dk;rw [hk];simp only [hc,hy];exact g2 Q' hq
              · exact h.elim
        · rw [E3] at h;exact rest h (fun Q' hq=>hg _ _ (by rw [E3];exact hq)) (fun _ _=>rfl)
    | dr all l trs=>
      change Kx K (vc K n) m all l trs F H Q at h;change ∃ e F' H',(∀ Q':Post,Q' e F' H'→Kx K (vc K n) m all l trs F H Q')∧_;cases l with
      | nil=>
        obtain ⟨h1,h2⟩:=H6 h;exact ⟨.normal,F,H,fun Q' hq=>Bz h1 hq,h2,fun _ _=>rfl⟩
      | cons o l=>
        obtain ⟨dst,op,ty,pos,after,guard⟩:=o;simp only [Kx] at h ⊢
        have hro:∀ d,L4 K d (.dr all (⟨dst,op,ty,pos,after,guard⟩::l) trs)=true→Do K (G7 K d) ⟨dst,op,ty,pos,after,guard⟩=true∧∀ tr,L4 K d (.dr all l (trs++[tr]))=true:=fun d hd=>by
          simp only [L4,List.all_cons,Bool.and_eq_true] at hd;exact ⟨hd.1,fun _=>hd.2⟩
        have rest:∀ {v:AV} {H1:Hp} {tr:Tr} {k:Post→Prop},vc K n m (.dr all l (trs++[tr])) (put F dst v) H1 Q→(∀ Q':Post,vc K n m (.dr all l (trs++[tr])) (put F dst v) H1 Q'→k Q')→(∀ d,Do K (G7 K d) ⟨dst,op,ty,pos,after,guard⟩=true→H1=H)→
            ∃ e F' H',(∀ Q':Post,Q' e F' H'→k Q')∧Q e F' H'∧∀ d,L4 K d (.dr all (⟨dst,op,ty,pos,after,guard⟩::l) trs)=true→H'=H:=by
          intro v H1 tr k h1 h2 h3;obtain ⟨e,F',H',g1,g2,g3⟩:=ih _ _ _ _ _ h1;exact ⟨e,F',H',fun Q' hq=>h2 Q' (g1 Q' hq),g2,fun d hd=>(g3 d ((hro d hd).2 tr)).trans (h3 d (hro d hd).1)⟩
        rcases Pr h with ⟨hw,h,hg⟩ | ⟨hw,h,hg⟩
        · unfold X1 at h;split at h
          · rename_i hk;obtain ⟨v,h1,h2⟩:=S1 h;rw [Qy] at h2;refine rest h2 (fun Q' hq=>hg _ _ ?_) (fun _ _=>rfl);unfold X1;rw [hk];exact Oy h1 (by rw [Qy];exact hq)
          · rename_i hk;obtain ⟨v,h1,h2⟩:=S1 h;rw [E3] at h2;refine rest h2 (fun Q' hq=>hg _ _ ?_) (fun _ _=>rfl);unfold X1;rw [hk];exact Oy h1 (by rw [E3];exact hq)
          · rename_i hk;obtain ⟨v,x,h1,h2⟩:=Mc h;rw [Lq,E3] at h2;refine rest h2 (fun Q' hq=>hg _ _ ?_) (fun d hd=>?_)
            · unfold X1;rw [hk];exact mP h1 (by rw [Lq,E3];exact hq)
            · unfold Do at hd;rw [hk] at hd;simp at hd
          · rename_i hk;split at h
            · rename_i f args hc;split at h
              · rename_i hi;split at h
                · rename_i fn hfn;split at h
                  · rename_i c hb;obtain ⟨hnm,h2⟩:=H6 h;obtain ⟨v,H1,g1,g2,g3⟩:=Ry ih h2;have hr:∀ d,Do K (G7 K d) ⟨dst,op,ty,pos,after,guard⟩=true→H1=H:=fun d hd=>g3 d ((Ft hk hd hc).2 fn c hfn hb);split at g1
                    · rename_i hrc;rw [E3] at g1;refine rest g1 (fun Q' hq=>hg _ _ ?_) (fun _ _=>rfl);unfold X1;rw [hk];simp only [hc,hi,hfn,hb];refine Bz hnm (g2 _ ?_);rw [hrc,E3];exact hq
                    · rename_i hrc;split at g1
                      · rename_i hs hdf;rw [E3] at g1;refine rest g1 (fun Q' hq=>hg _ _ ?_) hr;unfold X1;rw [hk];simp only [hc,hi,hfn,hb];refine Bz hnm (g2 _ ?_);rw [hrc];simp only [hdf];rw [E3];exact hq
                      · exact g1.elim
                  · exact h.elim
                · exact h.elim
              · rename_i hi;rw [Hn] at h;obtain ⟨v,hs,h1,h2⟩:=Mh h;rw [Ik,E3] at h2;refine rest h2 (fun Q' hq=>hg _ _ ?_) (fun d hd=>?_)
                · unfold X1;rw [hk];simp only [hc,hi,Hn];exact nJ h1 (by rw [Ik,E3];exact hq)
                · have:=(Ft hk hd hc).1
                  rw [hi] at this;simp at this
            · exact h.elim
        · rw [E3] at h;exact rest h (fun Q' hq=>hg _ _ (by rw [E3];exact hq)) (fun _ _=>rfl)
    | code c=>
      change P8 K (vc K n) m c F H Q at h;change ∃ e F' H',(∀ Q':Post,Q' e F' H'→P8 K (vc K n) m c F H Q')∧_
      -- two Bv,one behind the other
      have both:∀ {a b:Code},vc K n m (.code a) F H (Iz (vc K n) m b Q)→∃ e F' H',(∀ Q':Post,Q' e F' H'→vc K n m (.code a) F H (Iz (vc K n) m b Q'))∧Q e F' H'∧∀ d d',G7 K d a=true→G7 K d' b=true→H'=H:=by
        intro a b h;obtain ⟨e,F1,H1,g1,g2,g3⟩:=ih _ _ _ _ _ h;cases e with
        | normal=>
          obtain ⟨e,F',H',q1,q2,q3⟩:=ih _ _ _ _ _ g2;exact ⟨e,F',H',fun Q' hq=>g1 _ (q1 Q' hq),q2,fun d d' hd hd'=>(q3 d' hd').trans (g3 d hd)⟩
        | exit i=>exact ⟨_,F1,H1,fun Q' hq=>g1 _ hq,g2,fun d _ hd _=>g3 d hd⟩
        | ret=>exact ⟨_,F1,H1,fun Q' hq=>g1 _ hq,g2,fun d _ hd _=>g3 d hd⟩
      cases c with
      | skip => exact ⟨.normal, F, H, fun Q' hq => hq, h, fun _ _ => rfl⟩
      | region id ops draw=>
        cases draw with
        | true=>
          obtain ⟨e,F',H',g1,g2,g3⟩:=ih _ _ _ _ _ h;refine ⟨e,F',H',g1,g2,fun d hd=>?_⟩;cases d with
          | zero=>simp [L4,G7] at hd
          | succ d=>exact g3 d (by simpa [L4,G7,Ai] using hd)
        | false=>
          obtain ⟨e,F',H',g1,g2,g3⟩:=ih _ _ _ _ _ h;refine ⟨e,F',H',g1,g2,fun d hd=>?_⟩;cases d with
          | zero=>simp [L4,G7] at hd
          | succ d=>exact g3 d (by simpa [L4,G7,Ai] using hd)
      | seq a b=>
        obtain ⟨e,F',H',g1,g2,g3⟩:=both h;refine ⟨e,F',H',g1,g2,fun d hd=>?_⟩;cases d with
        | zero=>simp [L4,G7] at hd
        | succ d=>
          simp only [L4,G7,Ai,Bool.and_eq_true] at hd;exact g3 (d+1) (d+1) hd.1 hd.2
      | cond c x y=>
        simp only [P8,Sw] at h ⊢
        have hro:∀ d,L4 K d (.code (.cond c x y))=true→L4 K d (.code x)=true∧L4 K d (.code y)=true:=fun d hd=>by
          cases d with
          | zero=>simp [L4,G7] at hd
          | succ d=>simpa [L4,G7,Ai] using hd
        split at h
        · rename_i t;split at h
          · rename_i b hb;rcases Xc h with ⟨hb1,h2,h3⟩ | ⟨hb1,h2,h3⟩
            · subst hb1;rw [E3] at h2;obtain ⟨e,F',H',g1,g2,g3⟩:=ih _ _ _ _ _ h2;refine ⟨e,F',H',fun Q' hq=>?_,g2,fun d hd=>g3 d (hro d hd).1⟩;exact h3 _ _ (by rw [E3];exact g1 Q' hq)
            · subst hb1;rw [E3] at h2;obtain ⟨e,F',H',g1,g2,g3⟩:=ih _ _ _ _ _ h2;refine ⟨e,F',H',fun Q' hq=>?_,g2,fun d hd=>g3 d (hro d hd).2⟩;exact h3 _ _ (by rw [E3];exact g1 Q' hq)
          · exact h.elim
        · rename_i b;cases b with
          | true=>
            obtain ⟨e,F',H',g1,g2,g3⟩:=ih _ _ _ _ _ h;exact ⟨e,F',H',g1,g2,fun d hd=>g3 d (hro d hd).1⟩
          | false=>
            obtain ⟨e,F',H',g1,g2,g3⟩:=ih _ _ _ _ _ h;exact ⟨e,F',H',g1,g2,fun d hd=>g3 d (hro d hd).2⟩
        · exact h.elim
      | block id c=>
        obtain ⟨e,F',H',g1,g2,g3⟩:=ih _ _ _ _ _ h
        have hro:∀ d,L4 K d (.code (.block id c))=true→L4 K d (.code c)=true:=fun d hd=>by
          cases d with
          | zero=>simp [L4,G7] at hd
          | succ d=>simpa [L4,G7,Ai] using hd
        cases e with
        | normal=>exact ⟨.normal,F',H',fun Q' hq=>g1 _ hq,g2,fun d hd=>g3 d (hro d hd)⟩
        | ret=>exact ⟨.ret,F',H',fun Q' hq=>g1 _ hq,g2,fun d hd=>g3 d (hro d hd)⟩
        | exit i=>
          simp only [Aw] at g2;split at g2
          · rename_i hi;exact ⟨.normal,F',H',fun Q' hq=>g1 _ (by simp only [Aw,hi];exact hq),g2,fun d hd=>g3 d (hro d hd)⟩
          · rename_i hi;exact ⟨.exit i,F',H',fun Q' hq=>g1 _ (by simp only [Aw,hi];exact hq),g2,fun d hd=>g3 d (hro d hd)⟩
      | loop c=>
        cases hu:K.unr with
        | true=>
          simp only [P8,hu] at h ⊢;obtain ⟨e,F',H',g1,g2,g3⟩:=both h;refine ⟨e,F',H',g1,g2,fun d hd=>?_⟩;cases d with
          | zero=>simp [L4,G7] at hd
          | succ d=>
            refine g3 (d+1) (d+1) ?_ hd;simp only [L4,G7,Ai,Bool.and_eq_true] at hd;exact hd.2
        | false=>
          simp only [P8,hu] at h ⊢;obtain ⟨hM,h2⟩:=H6 h;obtain ⟨e,F',H',h3,h4⟩:=dV h2;rw [Hn] at h4;refine ⟨e,F',H',fun Q' hq=>Bz hM (lpc_of h3 (by rw [Hn];exact hq)),h4,fun d hd=>?_⟩;cases d with
          | zero=>simp [L4,G7] at hd
          | succ d=>simp [L4,G7,Ai,hu] at hd
      | exit id=>exact ⟨.exit id,F,H,fun Q' hq=>hq,h,fun _ _=>rfl⟩
      | scope c=>
        obtain ⟨e,F',H',g1,g2,g3⟩:=ih _ _ _ _ _ h;refine ⟨e,F',H',g1,g2,fun d hd=>?_⟩;cases d with
        | zero=>simp [L4,G7] at hd
        | succ d=>exact g3 (d+1) (by simpa [L4,G7,Ai] using hd)
      | label l=>exact ⟨.normal,F,H,fun Q' hq=>hq,h,fun _ _=>rfl⟩
      | ret=>exact ⟨.ret,F,H,fun Q' hq=>hq,h,fun _ _=>rfl⟩
      | rangeFunc g ps as bd=>
        simp only [P8] at h ⊢;unfold Kw at h;split at h
        · rename_i f cap hf;split at h
          · rename_i fn hfn;split at h
            · rename_i c hb;obtain ⟨hc,h1⟩:=H6 h;obtain ⟨v,H1,g1,g2,_⟩:=Ry ih h1;obtain ⟨ex,H2,q1,q2⟩:=rng_pt g1;refine ⟨ex,F,H2,fun Q' hq=>?_,q1,fun d hd=>?_⟩
              · unfold Kw;simp only [hf,hfn,hb];exact Bz hc (g2 _ (q2 Q' hq))
              · cases d with
                | zero=>simp [L4,G7] at hd
                | succ d=>simp [L4,G7,Ai] at hd
            · exact h.elim
          · exact h.elim
        · exact h.elim
      | goto l=>exact h.elim
      | refuse s=>exact h.elim
end Go.Am
namespace Go.Am
open Go.RowKit
theorem B0.back {C:A2} {ρ ρ':Env} {H H':Hp} {w w':World} (h:B0 C ρ H w) (hf:Frm ⟨ρ.rw,ρ.ro,[]⟩ w ρ' w') (h':B0 C ρ' H' w') :
  B0 C ⟨ρ'.rw,ρ'.ro,ρ.dfs⟩ H' w'∧Frm ρ w ⟨ρ'.rw,ρ'.ro,ρ.dfs⟩ w':=by
 refine ⟨h'.setDfs ρ.dfs fun D hD=>⟨?_,fun i e he=>?_,fun i d hr=>?_⟩,⟨hf.os,hf.tape,hf.output,hf.size,hf.keep,hf.news,hf.ro,hf.newro,fun _ h=>.inl h⟩⟩
 ·rw [hf.keep D (h.df_lt hD) (.inr (h.df D hD).2.1)];exact (h.df D hD).1
 ·have hlt:=h.df_lt hD;rcases hf.news i e he with ⟨j,e',hj,hje⟩ | hge
  ·rw [←hje];exact (h.df D hD).2.1 j e' hj
  ·omega
 ·have hlt:=h.df_lt hD;rcases hf.newro i D d hr with h1 | ⟨j,e,he,heb⟩ | h1
  ·exact (h.df D hD).2.2 i d h1
  ·exact (h.df D hD).2.1 j e he heb
  ·omega
theorem cL {ρ:Env}:∀ (ps:List Nat) (F:Fr) (args:List AV) (cargs:List Value) (tmps:Array Value),VRs ρ args cargs→F.length=tmps.size→(∀ (i:Nat) v,F[i]?=some v→VR ρ v (tmps.getD i undef))→
  (Gy F ps args).length=((ps.zip cargs).foldl (fun t p=>t.setIfInBounds p.1 p.2) tmps).size∧∀ (i:Nat) v,(Gy F ps args)[i]?=some v→VR ρ v (((ps.zip cargs).foldl (fun t p=>t.setIfInBounds p.1 p.2) tmps).getD i undef)
 | [],F,args,cargs,tmps,_,h1,h2=>by simp only [Gy,List.zip_nil_left,List.foldl_nil];exact ⟨h1,h2⟩
 | p::ps,F,[],cargs,tmps,hv,h1,h2=>by
  simp only [VRs] at hv;subst hv;simp only [Gy,List.zip_nil_right,List.foldl_nil];exact ⟨h1,h2⟩
 | p::ps,F,x::args,cargs,tmps,hv,h1,h2=>by
  simp only [VRs] at hv;obtain ⟨v,vs,rfl,hx,hs⟩:=hv;simp only [Gy,List.zip_cons_cons,List.foldl_cons];refine cL ps _ _ _ _ hs (by simp [h1]) fun i y hy=>?_;rw [List.getElem?_set] at hy;rw [Array.getD_eq_getD_getElem?,Array.getElem?_setIfInBounds];by_cases hi:p=i
  ·subst hi;rw [if_pos rfl] at hy ⊢;split at hy
   ·rename_i hl;rw [if_pos (by omega)];simp at hy;subst hy;simpa using hx
   ·simp at hy
  ·rw [if_neg hi] at hy ⊢;simpa [Array.getD_eq_getD_getElem?] using h2 i y hy
theorem B0.recAt {C:A2} {ρ:Env} {H:Hp} {w:World} (hH:B0 C ρ H w) {i e p:Nat} {ps:Array Nat} {as bd:Code} {F:Fr} {en:M9} (hi:H[i]?=some (some ⟨e,.rcd p ps as bd::F⟩)) (he:Nat.beq e 4294967291=true) (hen:ρ.rw[i]?=some (some en)) :
  ∃ r:Loop,w.heap[en.blk]?=some (.loop r)∧StR p r.state r.pending∧r.params=ps∧r.assign=as∧r.body=bd∧F.length=r.tmps.size∧∀ (k:Nat) v,F[k]?=some v→VR ρ v (r.tmps.getD k undef):=by
 have hl:=hH.live i _ hi;rw [hen] at hl;obtain ⟨_,r,h1,p',ps',a',b',F',h2,h3⟩:=hl.rec (by unfold isRec;exact he);simp only [List.cons.injEq,AV.rcd.injEq] at h2;obtain ⟨⟨rfl,rfl,rfl,rfl⟩,rfl⟩:=h2;exact ⟨r,h1,h3⟩
theorem B0.recSet {C:A2} {ρ:Env} {H:Hp} {w:World} (hH:B0 C ρ H w) {i e p q:Nat} {ps:Array Nat} {as bd:Code} {F:Fr} {en:M9} (hi:H[i]?=some (some ⟨e,.rcd p ps as bd::F⟩)) (he:Nat.beq e 4294967291=true) (hen:ρ.rw[i]?=some (some en))
  {r:Loop} {st:LoopState} {pe:Option Code} (h3:r.params=ps) (h4:r.assign=as) (h5:r.body=bd) (h6:F.length=r.tmps.size) (h7:∀ (k:Nat) v,F[k]?=some v→VR ρ v (r.tmps.getD k undef)) (hst:StR q st pe) :
  B0 C ρ (H.set i (some ⟨e,.rcd q ps as bd::F⟩)) (w.putObj en.blk (.loop { r with state:=st,pending:=pe }))∧Frm ρ w ρ (w.putObj en.blk (.loop { r with state:=st,pending:=pe })):=
 hH.updRec (b':=⟨e,.rcd q ps as bd::F⟩) (r':={ r with state:=st,pending:=pe }) hi hen rfl (by unfold isRec;exact he) ⟨q,ps,as,bd,F,rfl,hst,h3,h4,h5,h6,h7⟩
theorem jY {P:Program} {w:World} {ρ:Env} {F:Fr} {a:Act} {o:Oper} {i:Nat} {args:List AV} (hF:D5 ρ F a) (h:yldOp F o.op=some (i,args)) :
  ∃ (e:M9) (cargs:List Value),ρ.rw[i]?=some (some e)∧VRs ρ args cargs∧(execOp a.eval o).run P w=(Instr.yield e.blk cargs.toArray).run P w:=by
 have E:=fun x=>Fc hF x;obtain ⟨dst,op,type,pos,after,guard⟩:=o;simp only at h;unfold yldOp at h;unfold execOp;split at h
 ·rename_i g xs ts;split at h
  ·rename_i i' hg;simp at h;obtain ⟨rfl,rfl⟩:=h;have hv:=E g;rw [hg] at hv;simp only [VR] at hv;obtain ⟨e,he,hcs⟩:=hv;refine ⟨e,xs.toList.map a.eval,he,Sc _ _ _ fun x _=>E x,?_⟩;simp only [resolve,hcs,Deferred.ofValue,Sem.run_bind,Sem.run_pure,Result.andThen_ok,invoke];congr 2;apply Array.ext';simp
  ·simp at h
 ·simp at h
theorem nd_yld {F:Fr} {op:Op} {x:Nat×List AV} (h:yldOp F op=some x):∀ c,op≠.defer c:=by rintro c rfl;simp [yldOp] at h
theorem mK {C:A2} {ρ:Env} {F:Fr} {H:Hp} {w:World} {a:Act} {o:Oper} {i e:Nat} {args:List AV} {ps:Array Nat} {as bd:Code} {F0:Fr} (hH:B0 C ρ H w) (hF:D5 ρ F a) (ho:yldOp F o.op=some (i,args))
  (hi:H[i]?=some (some ⟨e,.rcd 0 ps as bd::F0⟩)) (he:Nat.beq e 4294967291=true) (hl:args.length=ps.size) {Q1 Q2:Post} {R:AV→Hp→Prop}
  (A:∀ r ρ a w,B0 C ρ H w→D5 ρ (Gy F0 ps.toList args) a→as.wpIn (W (some r)) 0 C.P (AP C H.length ρ w Q1) a w)
  (B:∀ ex F1 H1,H.length≤H1.length→Q1 ex F1 H1→ex=.normal∧∃ e ps' as' bd' F',H1[i]?=some (some ⟨e,.rcd 0 ps' as' bd'::F'⟩)∧Nat.beq e 4294967291=true∧
   ∀ r ρ a w,B0 C ρ (H1.set i (some ⟨e,.rcd 1 ps' as' bd'::F'⟩)) w→D5 ρ F1 a→bd.wpIn (W (some r)) 0 C.P (AP C H.length ρ w Q2) a w)
  (E:∀ ex F2 H2,H.length≤H2.length→Q2 ex F2 H2→∃ e ps' as' bd' F',H2[i]?=some (some ⟨e,.rcd 1 ps' as' bd'::F'⟩)∧Nat.beq e 4294967291=true∧R (.bool (Tj ex)) (H2.set i (some ⟨e,.rcd (kF ex) ps' as' bd'::F'⟩)))
  {r:Option Nat} {next:Act→World→Prop} {Q:Exit→Act→World→Prop}
  (hn:∀ v H' ρ' cv w',R v H'→B0 C ρ' H' w'→VR ρ' v cv→ρ.le ρ'→Frm ρ w ρ' w'→next (a.put o.dst cv) w'):o.wpIn (W r) 0 C.P a w next Q:=by
 obtain ⟨en,cargs,hen,hv,hrun⟩:=jY (P:=C.P) (w:=w) hF ho;refine Ce (nd_yld ho) ?_;have hil:i<H.length:=(List.getElem?_eq_some_iff.1 hi).1;obtain ⟨r0,g1,g2,g3,g4,g5,g6,g7⟩:=hH.recAt hi he hen;have hcl:=D8 hv;rw [hrun,run_yield g1 (by simp [g3,hcl,hl])];refine ⟨fun h=>by simp [W,Fence.wide] at h,?_⟩;rw [g4,g5];have hHb:=hH.setDfs [] (fun _ h=>by simp at h);refine roundIn_of_wpIn (F:=W r) (n:=0) trivial ?_
 have hfold:(r0.params.zip cargs.toArray).foldl (fun tmps (x:Tmp×Value)=>tmps.setIfInBounds x.1 x.2) r0.tmps=(ps.toList.zip cargs).foldl (fun t p=>t.setIfInBounds p.1 p.2) r0.tmps:=by
  rw [g3,←Array.foldl_toList];congr 1;simp
 obtain ⟨q1,q2⟩:=cL (ρ:=⟨ρ.rw,ρ.ro,[]⟩) ps.toList F0 args cargs r0.tmps (VRs.sub (Env.sub_dfs ρ []) _ _ hv) g6 fun k v hk=>VR.sub (Env.sub_dfs ρ []) _ _ (g7 k v hk)
 have hFb:D5 ⟨ρ.rw,ρ.ro,[]⟩ (Gy F0 ps.toList args) { tmps:=(r0.params.zip cargs.toArray).foldl (fun tmps (x:Tmp×Value)=>tmps.setIfInBounds x.1 x.2) r0.tmps,defers:=[] }:=by
  rw [hfold];exact ⟨⟨[],rfl,List.nodup_nil,fun _ h=>by simp at h⟩,q1,q2⟩
 refine wpIn_mono (A en.blk _ _ w hHb hFb) ?_;rintro ex a1 w1 ⟨ae,ρ1,F1,H1,rfl,hQ1,hp1,hH1,hF1,hfr1⟩;have hm1:=W5 (Nat.le_refl _) hHb hH1 hp1;obtain ⟨rfl,e1,ps1,as1,bd1,F1',hi1,he1,hbody⟩:=B ae F1 H1 hm1 hQ1;have hen1:ρ1.rw[i]?=some (some en):=(hp1 i hil).trans hen;obtain ⟨r1,k1,k2,k3,k4,k5,k6,k7⟩:=hH1.recAt hi1 he1 hen1;obtain ⟨kst,kpe⟩:r1.state=.ready∧r1.pending=none:=k2;refine ⟨_,run_beginRound k1 kst,?_⟩;obtain ⟨hH1',hfr1'⟩:=hH1.recSet (q:=1) (st:=.busy) (pe:=r1.pending) hi1 he1 hen1 k3 k4 k5 k6 k7 ⟨rfl,kpe⟩;refine wpIn_mono (hbody en.blk _ _ _ hH1' hF1) ?_
 rintro ex2 a2 w2 ⟨ae2,ρ2,F2,H2,rfl,hQ2,hp2,hH2,hF2,hfr2⟩;have hm2:=W5 (by simpa using hm1) hH1' hH2 hp2;obtain ⟨e2,ps2,as2,bd2,F2',hi2,he2,hR⟩:=E ae2 F2 H2 hm2 hQ2;have hen2:ρ2.rw[i]?=some (some en):=(hp2 i hil).trans hen1;obtain ⟨r2,l1,l2,l3,l4,l5,l6,l7⟩:=hH2.recAt hi2 he2 hen2
 have fin:∀ (b:Bool) (st:LoopState) (pe:Option Code),b=Tj ae2→StR (kF ae2) st pe→next (a.put o.dst (.bool b)) (w2.putObj en.blk (.loop { r2 with state:=st,pending:=pe })):=by
  intro b st pe hb hst;obtain ⟨hH3,hfr3⟩:=hH2.recSet (q:=kF ae2) (st:=st) (pe:=pe) hi2 he2 hen2 l3 l4 l5 l6 l7 hst;obtain ⟨hH4,hfr4⟩:=hH.back (hfr1.trans (hfr1'.trans (hfr2.trans hfr3))) hH3;refine hn _ _ _ _ _ hR hH4 (by simp only [VR,hb]) ⟨fun k x hx=>?_,hfr4.ro,fun _ h=>h⟩ hfr4;have hk:k<H.length:=by rw [←hH.len];exact (List.getElem?_eq_some_iff.1 hx).1
  exact ((hp2 k hk).trans (hp1 k hk)).trans hx
 cases ae2 with
 | normal=>exact ⟨_,_,run_endRound none l1,fin true .ready none rfl ⟨rfl,rfl⟩⟩
 | ret=>exact ⟨_,_,run_endRound (some .ret) l1,fin false .done (some .ret) rfl ⟨rfl,rfl⟩⟩
 | exit n=>exact ⟨_,_,run_endRound (some (.exit n)) l1,fin false .done (some (.exit n)) rfl ⟨rfl,rfl⟩⟩
theorem nV {C:A2} {ρ:Env} {F:Fr} {H:Hp} {w:World} {a:Act} (hH:B0 C ρ H w) (hF:D5 ρ F a) (ps:Array Tmp) (as bd:Code) (rc:Loop) (h1:rc.state=.ready) (h2:rc.pending=none) (h3:rc.tmps=a.tmps) (h4:rc.params=ps) (h5:rc.assign=as) (h6:rc.body=bd) (z:Nat) (hz:Nat.beq z 4294967291=true) :
  B0 C ⟨ρ.rw++[some ⟨w.heap.size+1,0,z⟩],ρ.ro,w.heap.size::ρ.dfs⟩ (H++[some ⟨z,.rcd 0 ps as bd::F⟩]) ((w.alloc (.deferred (some []))).alloc (.loop rc))∧
  Frm ρ w ⟨ρ.rw++[some ⟨w.heap.size+1,0,z⟩],ρ.ro,w.heap.size::ρ.dfs⟩ ((w.alloc (.deferred (some []))).alloc (.loop rc))∧
  D5 ⟨ρ.rw++[some ⟨w.heap.size+1,0,z⟩],ρ.ro,w.heap.size::ρ.dfs⟩ F { a with defers:=[{ target:=.collected w.heap.size,args:=#[] }]++a.defers }∧
  ρ.sub ⟨ρ.rw++[some ⟨w.heap.size+1,0,z⟩],ρ.ro,w.heap.size::ρ.dfs⟩:=by
 have hs0:(w.alloc (.deferred (some []))).heap.size=w.heap.size+1:=by simp
 have hA:=hH.alloc (.deferred (some []))
 have hB:B0 C ⟨ρ.rw,ρ.ro,w.heap.size::ρ.dfs⟩ H (w.alloc (.deferred (some []))):=hA.setDfs (w.heap.size::ρ.dfs) fun D hD=>by
  rcases List.mem_cons.1 hD with rfl | hD
  ·exact ⟨World.alloc_heap_new w _,fun i e he=>by have:=(hH.ents i e he).2;omega,fun i d hr=>by have:=(hH.ro i _ d hr).1;omega⟩
  ·exact hA.df D hD
 have hC:=hB.alloc (.loop rc);have sub1:ρ.sub ⟨ρ.rw++[some ⟨w.heap.size+1,0,z⟩],ρ.ro,w.heap.size::ρ.dfs⟩:=⟨fun i x hx=>(Env.le_push ρ (some ⟨w.heap.size+1,0,z⟩)).1 i x hx,fun _ _ _ h=>h⟩;refine ⟨?_,?_,?_,sub1⟩
 ·refine hC.more (some ⟨w.heap.size+1,0,z⟩) _ (fun e he=>?_) ?_ (fun e he i b' e' h1 h2=>?_) (fun e he D hD=>?_) fun e he i d hr=>?_
  ·simp at he;subst he
   have:=hH.base
   exact ⟨by show C.B≤w.heap.size+1;omega,by simp⟩
  ·refine .ofRec hz ⟨rfl,rc,?_,0,ps,as,bd,F,rfl,⟨h1,h2⟩,h4,h5,h6,by rw [h3];exact hF.len,fun k v hk=>by rw [h3];exact VR.sub sub1 _ _ (hF.val k v hk)⟩
   have:=World.alloc_heap_new (w.alloc (.deferred (some []))) (.loop rc)
   rw [hs0] at this;exact this
  ·simp at he;subst he
   have:=(hH.ents i e' h2).2
   show e'.blk≠w.heap.size+1;omega
  ·simp at he;subst he;show w.heap.size+1≠D;rcases List.mem_cons.1 hD with rfl | hD
   ·omega
   ·have:=hH.df_lt hD;omega
  ·simp at he;subst he
   have:=(hH.ro i _ d hr).1
   simp only at this;omega
 ·refine ⟨rfl,rfl,rfl,by simp;omega,fun b hb _=>?_,fun i e he=>?_,fun _ _ _ h=>h,fun _ _ _ h=>.inl h,fun D hD=>?_⟩
  ·exact (Below.heap_alloc (w.alloc (.deferred (some []))) _ b (by omega)).trans (Below.heap_alloc w _ b hb)
  ·rcases R9 ρ (some ⟨w.heap.size+1,0,z⟩) i _ he with ⟨_,h⟩ | ⟨_,h⟩
   ·exact .inl ⟨i,e,h,rfl⟩
   ·simp at h;subst h;exact .inr (by show w.heap.size≤w.heap.size+1;omega)
  ·rcases List.mem_cons.1 hD with rfl | hD
   ·exact .inr (Nat.le_refl _)
   ·exact .inl hD
 ·obtain ⟨ds,h1,h2,h3⟩:=hF.nod;refine ⟨⟨w.heap.size::ds,by simp [h1],List.nodup_cons.2 ⟨fun hin=>?_,h2⟩,fun D hD=>?_⟩,hF.len,fun k v hk=>VR.sub sub1 _ _ (hF.val k v hk)⟩
  ·have:=hH.df_lt (h3 _ hin);omega
  ·rcases List.mem_cons.1 hD with rfl | hD
   ·exact List.mem_cons_self
   ·exact List.mem_cons_of_mem _ (h3 D hD)
theorem nU {C:A2} {m:Nat} {ρ:Env} {F:Fr} {H:Hp} {w:World} {a:Act} {g:Operand} {ps:Array Tmp} {as bd:Code} {f:FuncId} {cap:List AV} {Q0:Post} (hm:m≤H.length) (hH:B0 C ρ H w) (hF:D5 ρ F a) (hg:ev F g=.func f cap)
  (call:ACalls C f (.yld H.length::cap) (H++[some ⟨4294967291,.rcd 0 ps as bd::F⟩]) (Fy H.length F Q0)):(Code.rangeFunc g ps as bd).wpIn (W none) 0 C.P (AP C m ρ w Q0) a w:=by
 have hv:=Fc hF g;rw [hg] at hv;simp only [VR] at hv;obtain ⟨cs,hcs,hcap⟩:=hv;refine wpIn_rangeFunc fun fn _=>?_;obtain ⟨z,hz,hze⟩:∃ z,Nat.beq z 4294967291=true∧(4294967291:Nat)=z:=⟨_,rfl,rfl⟩;rw [hze] at call
 let rc:Loop:={ state:=.ready,pending:=none,fn,tmps:=a.tmps,params:=ps,assign:=as,body:=bd,defers:=w.heap.size }
 obtain ⟨hD,hfr1,hF1,sub1⟩:=nV hH hF ps as bd rc rfl rfl rfl rfl rfl rfl z hz;generalize hρ1:(⟨ρ.rw++[some ⟨w.heap.size+1,0,z⟩],ρ.ro,w.heap.size::ρ.dfs⟩:Env)=ρ1 at hD hfr1 hF1 sub1
 have hen1:ρ1.rw[H.length]?=some (some ⟨w.heap.size+1,0,z⟩):=by
  rw [←hρ1];show (ρ.rw++[some _])[H.length]?=_;rw [←hH.len];simp
 obtain ⟨hent,hcall⟩:=call
 have hargs:VRs ρ1 (.yld H.length::cap) (.func (.yield (w.heap.size+1)) #[] #[]::cs.toList):=by
  simp only [VRs,VR];exact ⟨_,_,rfl,⟨_,hen1,rfl⟩,VRs.sub sub1 _ _ hcap⟩
 refine ⟨w.heap.size+1,[{ target:=.collected w.heap.size,args:=#[] }],(w.alloc (.deferred (some []))).alloc (.loop rc),⟨.fn (.func f) cs,#[.func (.yield (w.heap.size+1)) #[] #[]]⟩,(w.alloc (.deferred (some []))).alloc (.loop rc),f,(.func (.yield (w.heap.size+1)) #[] #[]::cs.toList).toArray,(w.alloc (.deferred (some []))).alloc (.loop rc),
  run_enterLoop_outer fn a.tmps ps as bd,?_,fun _ _=>trivial,?_,fun h=>by simp [W,Fence.wide] at h,Jw.2 ((hcall ρ1 _ _ hD hargs).mono ?_)⟩
 ·have hy:a.eval (.const (.func (.yield (w.heap.size+1)) #[] #[]))=.func (.yield (w.heap.size+1)) #[] #[]:=rfl;simp [resolve,hcs,Deferred.ofValue,hy]
 ·simp only [invoke];rw [Dz hent];congr 2;apply Array.ext';simp
 rintro ex w2 ⟨v,cv,ρ2,H2,rfl,hR,hle,hH2,_,hfr2⟩;unfold Fy at hR;split at hR
 ·rename_i e p ps' as' bd' F' hi;obtain ⟨he,hR⟩:=H6 hR;have hen2:ρ2.rw[H.length]?=some (some (⟨w.heap.size+1,0,z⟩:M9)):=hle.1 _ _ hen1;obtain ⟨r2,k1,k2,_⟩:=hH2.recAt hi he hen2;obtain ⟨hH3,hfr3⟩:=hH2.putDead hi hen2 (.loop { r2 with state:=.exhausted });have hF3:=hF1.mono hle
  have hpin:N5 m ρ ρ2:=fun i hi=>by
   have hlt:i<ρ.rw.length:=by rw [hH.len];omega
   have e0:ρ.rw[i]?=some ρ.rw[i]:=by simp [hlt]
   rw [e0];exact hle.1 i _ (sub1.1 i _ e0)
  have out:∀ ae,Q0 ae F (H2.set H.length none)→AP C m ρ w Q0 (Of ae) { a with defers:=[{ target:=.collected w.heap.size,args:=#[] }]++a.defers } (w2.putObj (w.heap.size+1) (.loop { r2 with state:=.exhausted })):=
   fun ae hq=>⟨ae,ρ2,F,_,rfl,hq,hpin,hH3,hF3,hfr1.trans (hfr2.trans hfr3)⟩
  have nb:r2.state≠.busy:=by
   match p,k2,hR with
   | 0,k2,_=>rw [k2.1];simp
   | 1,_,hR=>exact hR.elim
   | 2,k2,_=>rw [k2.1];simp
   | n+3,k2,_=>rw [k2.1];simp
  obtain ⟨w3,hw3⟩:∃ w3,w3=w2.putObj (w.heap.size+1) (.loop { r2 with state:=.exhausted }):=⟨_,rfl⟩;rw [←hw3] at out;refine ⟨r2.pending,w3,by rw [hw3];exact run_endLoop k1 nb,?_⟩
  match p,k2,hR with
  | 0,k2,hR=>rw [k2.2];exact out .normal hR
  | 1,_,hR=>exact hR.elim
  | 2,k2,hR=>rw [k2.2];exact wpIn_ret (out .ret hR)
  | n+3,k2,hR=>rw [k2.2];exact wpIn_exit (out (.exit n) hR)
 ·exact hR.elim
end Go.Am
namespace Go.Am
open Go.RowKit
theorem Ej {F:Fence} {n:Nat} {P:Program} {c:Code} {Q:Exit→Act→World→Prop} {a:Act} {w:World} (h:c.wpIn F n P (Exit.noGoto Q) a w):(Code.scope c).wpIn F n P Q a w:=by
 intro b k cs hro hb hr;have h0:(lone (b.atR a (.code (.scope c)::k)) cs w).fenced P F:=fenced_calm hb hr rfl;have s0:step P (lone (b.atR a (.code (.scope c)::k)) cs w)=.next (lone (b.atR a (.code c::.inScope c::k)) cs w):=step_lone_go (by simp [stepG,stepG.exec,Frame.atR]);have s1:∀ a w,step P (lone (b.atR a (.inScope c::k)) cs w)=.next (lone (b.atR a k) cs w):=fun a w=>step_lone_go (by simp [stepG,stepG.exec,Frame.atR]);obtain ⟨e,a₁,w₁,hq,harr⟩:=h b (.inScope c::k) cs hro hb hr;have hx:∀ id,exitTo id (.inScope c::k)=exitTo id k:=fun id=>by simp [exitTo]
 cases e with
 | normal=>exact ⟨.normal,a₁,w₁,hq,.head h0 s0 (StepsIn.trans harr (.one (fenced_calm hb hr rfl) (s1 _ _)))⟩
 | exit id=>exact ⟨.exit id,a₁,w₁,hq,fun k' hk=>.head h0 s0 (harr.1 k' (by rw [hx];exact hk)),fun hr' hk=>let ⟨k₁,h1,h2⟩:=harr.2 hr' (by rw [hx];exact hk);⟨k₁,h1,.head h0 s0 h2⟩⟩
 | goto l=>exact hq.elim
 | ret=>exact ⟨_,a₁,w₁,hq,.of_steps (.one h0 s0) harr⟩
 | panic ch=>exact ⟨_,a₁,w₁,hq,.of_steps (.one h0 s0) harr⟩
 | outgrown=>exact ⟨_,a₁,w₁,hq,.of_steps (.one h0 s0) harr⟩
section
variable {K:Cfg} {lps:List Code}
theorem Ts (hK:Ei K lps) {all:List Oper} {trs:List Tr} {vs:List AV} {F0:Fr} {H0:Hp} {ρ0:Env} {w0:World} (hd:S4 all trs=true) (hvl:vs.length=all.length) (hl:trs.length=all.length)
  (htr:∀ (j:Nat) o,all[j]?=some o→∃ tr v H2,trs[j]?=some tr∧vs[j]?=some v∧St K all o (FSel (D7 j) 0 all vs F0) (I9 (D7 j) 0 trs H0) tr v H2)
  {r:Option Nat} {Q:Exit→Act→World→Prop} (hQ:∀ a w,Wr K all trs vs F0 H0 ρ0 w0 (D7 all.length) a w→Q .normal a w) :
  ∀ (fuel:Nat) (listed:Array Bool) (a:Act) (w:World),listed.size=all.length→(List.range all.length).countP (fun i=>!listed.getD i false)=fuel→
   Wr K all trs vs F0 H0 ρ0 w0 (fun i=>listed.getD i false) a w→wpAnyIn (W r) 0 K.C.P .any all.toArray Q fuel listed a w:=by
 have full:∀ (listed:Array Bool) (a:Act) (w:World),listed.size=all.length→(List.range all.length).countP (fun i=>!listed.getD i false)=0→
   Wr K all trs vs F0 H0 ρ0 w0 (fun i=>listed.getD i false) a w→Q .normal a w:=by
  intro listed a w hsz hc hs;rw [List.countP_eq_zero] at hc;have hall:∀ i,i<all.length→listed.getD i false=true:=fun i hi=>by simpa using hc i (List.mem_range.2 hi)
  refine hQ a w ⟨fun j o ho hj e he hb=>?_,?_⟩
  ·have hjl:j<all.length:=(List.getElem?_eq_some_iff.1 ho).1
   have:=hs.closed j o ho (hall j hjl) e he hb
   simp only [S4,Bool.and_eq_true] at hd
   have:=Nm all 0 hd.1 j o ho e he hb
   exact decide_eq_true (by omega)
  ·obtain ⟨ρ,h1,h2,h3,h4⟩:=hs.rel;refine ⟨ρ,?_,?_,h3,h4⟩
   ·rw [Y1 (D7 all.length) (fun i=>listed.getD i false) trs 0 H0 fun k t hk=>.inr ?_]
    ·exact h1
    ·have:=(List.getElem?_eq_some_iff.1 hk).1
     simp only [Nat.zero_add];rw [hall k (by omega)];exact decide_eq_true (by omega)
   ·rw [Hi (D7 all.length) (fun i=>listed.getD i false) all vs 0 F0 fun k hk=>?_]
    ·exact h2
    ·simp only [Nat.zero_add];rw [hall k hk];exact decide_eq_true hk
 intro fuel
 induction fuel with
 | zero=>
  intro listed a w hsz hc hs;refine ⟨?_,full listed a w hsz hc hs⟩;rw [List.countP_eq_zero] at hc;refine List.filter_eq_nil_iff.2 fun i hi=>?_;have hil:i<all.length:=by simpa using List.mem_range.1 hi
  have:=hc i (List.mem_range.2 hil)
  have hg:listed.getD i true=listed.getD i false:=by simp [Array.getD,hsz,hil]
  simp only [hg];simp at this;simp [this]
 | succ fuel ih=>
  intro listed a w hsz hc hs;refine ⟨fun hnil=>?_,fun i hi=>?_⟩
  ·-- somebody is not listed;the first of them is ready
   exfalso
   have hex:∃ i,i<all.length∧listed.getD i false=false:=by
    have hpos:0<(List.range all.length).countP (fun i=>!listed.getD i false):=by omega
    obtain ⟨i,hi,hp⟩:=List.countP_pos_iff.1 hpos;exact ⟨i,List.mem_range.1 hi,by simpa using hp⟩
   have least:∃ i,i<all.length∧listed.getD i false=false∧∀ k,k<i→listed.getD k false=true:=by
    obtain ⟨i,hi⟩:=hex
    induction i using Nat.strongRecOn with
    | _ i ih'=>
     by_cases hm:∃ k,k<i∧listed.getD k false=false
     ·obtain ⟨k,hk,hf⟩:=hm;exact ih' k hk ⟨by omega,hf⟩
     ·refine ⟨i,hi.1,hi.2,fun k hk=>?_⟩;cases hq:listed.getD k false with
      | true=>rfl
      | false=>exact absurd ⟨k,hk,hq⟩ hm
   obtain ⟨i,hil,hf,hbelow⟩:=least;obtain ⟨o,ho⟩:∃ o,all[i]?=some o:=⟨_,List.getElem?_eq_getElem hil⟩
   have hmem:i∈Region.ready .any all.toArray listed:=by
    unfold Region.ready;refine List.mem_filter.2 ⟨List.mem_range.2 (by simpa using hil),?_⟩;have hg:listed.getD i true=listed.getD i false:=by simp [Array.getD,hsz,hil]
    simp only [hg,hf,List.getElem?_toArray,ho,Option.map_some,Option.getD_some,Bool.not_false,Bool.true_and];rw [Array.all_eq_true_iff_forall_mem];intro e he;simp only [S4,Bool.and_eq_true] at hd;cases hb:Region.binds .any e with
    | false=>rfl
    | true=>
     have:=Nm all 0 hd.1 i o ho e (by simpa using he) hb
     simp [hbelow e.on (by omega)]
   rw [hnil] at hmem;simp at hmem
  ·obtain ⟨hir,hip⟩:=List.mem_filter.1 hi;have hil:i<all.length:=by simpa using List.mem_range.1 hir
   obtain ⟨o,ho⟩:∃ o,all[i]?=some o:=⟨_,List.getElem?_eq_getElem hil⟩;have hg:listed.getD i true=listed.getD i false:=by simp [Array.getD,hsz,hil]
   simp only [hg,List.getElem?_toArray,ho,Option.map_some,Option.getD_some,Bool.and_eq_true,Bool.not_eq_true',Array.all_eq_true_iff_forall_mem] at hip
   have hset:∀ k,(listed.setIfInBounds i true).getD k false=if k=i then true else listed.getD k false:=fun k=>by
    simp only [Array.getD_eq_getD_getElem?,Array.getElem?_setIfInBounds];by_cases hk:i=k
    ·subst hk;simp [hsz,hil]
    ·rw [if_neg hk,if_neg (fun h:k=i=>hk h.symm)]
   unfold wpOpIn;simp only [List.getElem?_toArray,ho];refine kE hK hd hvl hl htr hs ho hip.1 (S':=fun k=>(listed.setIfInBounds i true).getD k false) (by simp [hset]) (fun k hk=>by simp [hset,hk]) (fun e he hb=>?_) fun a' w' hs'=>?_
   ·have:=hip.2 e (by simpa using he)
    simpa [hb] using this
   ·refine ih _ a' w' (by simp [hsz]) ?_ hs'
    have e1:(fun k=>!(listed.setIfInBounds i true).getD k false)=fun k=>!(k==i)&&!listed.getD k false:=by
     funext k;rw [hset];by_cases hk:k=i
     ·simp [hk]
     ·simp [hk]
    rw [e1]
    -- one fewer
    have cnt:∀ n,i<n→(List.range n).countP (fun k=>!listed.getD k false)=(List.range n).countP (fun k=>!(k==i)&&!listed.getD k false)+1:=by
     intro n
     induction n with
     | zero=>intro h;omega
     | succ n ihn=>
      intro h;rw [List.range_succ,List.countP_append,List.countP_append];by_cases hin:i=n
      ·subst hin
       have same:(List.range i).countP (fun k=>!listed.getD k false)=(List.range i).countP (fun k=>!(k==i)&&!listed.getD k false):=List.countP_congr fun k hk=>by
        have:k≠i:=by have:=List.mem_range.1 hk;omega
        simp [this]
       rw [same];simp only [List.countP_cons,List.countP_nil,hip.1,Bool.not_false,beq_self_eq_true,Bool.not_true,Bool.false_and,if_true];rfl
      ·rw [ihn (by omega)]
       have:(n==i)=false:=by simp;omega
       simp only [List.countP_cons,List.countP_nil,this];simp;omega
    have:=cnt all.length hil
    omega
theorem Wj (hK:Ei K lps) {all:List Oper} {trs:List Tr} {F F':Fr} {H H':Hp} (ht:DT K all all F H trs F' H') (hd:S4 all trs=true) {ρ:Env} {a:Act} {w:World} (hH:B0 K.C ρ H w) (hF:D5 ρ F a)
  {id:Nat} {r:Option Nat} {Q:Exit→Act→World→Prop} (hQ:∀ ρ' a' w',B0 K.C ρ' H' w'→D5 ρ' F' a'→ρ.le ρ'→Frm ρ w ρ' w'→Q .normal a' w'):(Code.region id all.toArray true).wpIn (W r) 0 K.C.P Q a w:=by
 obtain ⟨vs,h1,h2,h3,h4,h5⟩:=ht.spell;refine wpIn_region_any hK.mix ?_;have hw:({ w with drawn:=w.drawn+1 }:World)=w.drew:=rfl;rw [hw];have hsz:all.toArray.size=all.length:=by simp
 rw [hsz];refine Ts (F0:=F) (H0:=H) (ρ0:=ρ) (w0:=w) hK hd h1 h2 h5 (fun a' w' hs=>?_) all.length _ a w.drew (by simp) ?_ ⟨fun j o _ hj=>?_,ρ,?_,?_,Env.le_refl ρ,(Frm.refl ρ w).drew⟩
 ·obtain ⟨ρ',g1,g2,g3,g4⟩:=hs.rel;rw [h4] at g1;rw [h3] at g2;exact hQ ρ' a' w' g1 g2 g3 g4
 ·rw [List.countP_eq_length.2]
  ·simp
  ·intro i hi
   have:=List.mem_range.1 hi
   simp [Array.getD]
 ·simp [Array.getD] at hj
 ·rw [Ay]
  ·exact hH.drew
  ·intro k _;simp [Array.getD]
 ·have none:∀ (l:List Oper) (vs:List AV) (i:Nat) (F:Fr),FSel (fun i=>(Array.replicate all.length false).getD i false) i l vs F=F:=by
   intro l
   induction l with
   | nil=>intro vs i F;simp [FSel]
   | cons o l ih=>
    intro vs i F;cases vs with
    | nil=>simp [FSel]
    | cons x vs=>
     simp only [FSel]
     have:(Array.replicate all.length false).getD i false=false:=by simp [Array.getD]
     rw [this];exact ih vs _ F
  rw [none];exact hF
def Snd (K:Cfg) (m:Nat) (wk:Wk) (F:Fr) (H:Hp) (Q:Post):Prop:=
 match wk with
 | .code c=>∀ (r:Option Nat),Ap r c=true→∀ (ρ:Env) (a:Act) (w:World),m≤H.length→B0 K.C ρ H w→D5 ρ F a→c.wpIn (W r) 0 K.C.P (AP K.C m ρ w Q) a w
 | .ops all l=>∀ (r:Option Nat) (ρ:Env) (a:Act) (w:World),m≤H.length→B0 K.C ρ H w→D5 ρ F a→wpListIn (W r) 0 K.C.P all.toArray (AP K.C m ρ w Q) l a w
 | .dr all l trs=>∃ trs' F' H',DT K all l F H trs' F' H'∧S4 all (trs++trs')=true∧Q .normal F' H'
def Yr (K:Cfg) (lps:List Code) (wk:Wk):Prop:=
 match wk with
 | .code c=>K.unr=false→∀ b∈loopsOf c,b∈lps
 | _=>True
theorem M5 (hK:Ei K lps) {all:List Oper} {o:Oper} {l:List Oper} {F:Fr} {H H':Hp} {tr:Tr} {v:AV} {m:Nat} {Q:Post} (hst:St K all o F H tr v H')
  (ih:Snd K m (.ops all l) (put F o.dst v) H' Q):Snd K m (.ops all (o::l)) F H Q:=by
 intro r ρ a w hm hH hF;unfold wpListIn;refine hst.sound hK hH hF fun ρ' cv w' h1 h2 h3 h4=>?_;have hp:=N5.of_le hH h3 hm;exact N6 (fun e a w h=>AP.link hp h4 h) l _ _ (ih r ρ' _ w' (W5 hm hH h1 hp) h1 ((hF.mono h3).put _ _ _ h2))
theorem bY (hK:Ei K lps) (hinl:K.unr=false→∀ f fn c,K.inl f=true→K.C.P.funcs[f]?=some fn→fn.body=some c→∀ b∈loopsOf c,b∈lps):∀ n,
    (∀ m wk F H Q,Yr K lps wk→vc K n m wk F H Q→Snd K m wk F H Q)∧
    (K.unr=true→∀ m c F H Q,vc K n m (.code (.loop c)) F H Q→∀ (r:Option Nat),Ap r c=true→∀ (ρ0:Env) (w0:World) (ρ:Env) (a:Act) (w:World),m≤H.length→N5 m ρ0 ρ→Frm ρ0 w0 ρ w→B0 K.C ρ H w→D5 ρ F a→
      Code.roundsIn (W r) 0 K.C.P c (AP K.C m ρ0 w0 Q) n a w):=by
  intro n
  induction n with
  | zero => exact ⟨fun _ _ _ _ _ _ h => h.elim, fun _ _ _ _ _ _ h => h.elim⟩
  | succ n ih=>
    obtain ⟨ih,ihr⟩:=ih
    have second:K.unr=true→∀ m c F H Q,vc K (n+1) m (.code (.loop c)) F H Q→∀ (r:Option Nat),Ap r c=true→∀ (ρ0:Env) (w0:World) (ρ:Env) (a:Act) (w:World),m≤H.length→N5 m ρ0 ρ→Frm ρ0 w0 ρ w→B0 K.C ρ H w→D5 ρ F a→
        Code.roundsIn (W r) 0 K.C.P c (AP K.C m ρ0 w0 Q) (n+1) a w:=by
      intro hu m c F H Q h r hr ρ0 w0 ρ a w hm hp hf hH hF
      have h:vc K n m (.code c) F H (Iz (vc K n) m (.loop c) Q):=by
        change P8 K (vc K n) m (.loop c) F H Q at h;simp only [P8,hu] at h;exact h
      rw [roundsIn_succ];refine Code.wpIn_mono ?_ (ih m (.code c) F H _ (fun hu'=>by rw [hu] at hu';simp at hu') h r hr ρ a w hm hH hF);rintro e a' w' ⟨ae,ρ',F',H',rfl,h2,h3,h4,h5,h6⟩;cases ae with
      | normal => exact ihr hu m c F' H' Q h2 r hr ρ0 w0 ρ' a' w' (W5      hm hH h4 h3) (hp.trans h3) (hf.trans h6) h4 h5
      | exit i => exact ⟨.exit i, ρ', F', H', rfl, h2, hp.trans h3, h4, h5, hf.trans h6⟩
      | ret=>exact ⟨.ret,ρ',F',H',rfl,h2,hp.trans h3,h4,h5,hf.trans h6⟩
    refine ⟨?_,second⟩;intro m wk F H Q hlp h;cases wk with
    | ops all l=>
      change Hk K (vc K n) m all l F H Q at h;cases l with
      | nil=>exact fun r ρ a w hm hH hF=>⟨.normal,ρ,F,H,rfl,h,N5.refl m ρ,hH,hF,Frm.refl ρ w⟩
      | cons o l=>
        obtain ⟨dst,op,ty,pos,after,guard⟩:=o;simp only [Hk] at h;rcases Si h with ⟨hw,h⟩ | ⟨hw,h⟩
        · unfold Dk at h;split at h
          · rename_i hk;obtain ⟨v,h1,h2⟩:=S1 h;exact M5 hK (.pure hw hk h1) (ih m _ _ _ _ trivial (Zl h2))
          · rename_i hk;obtain ⟨v,h1,h2⟩:=S1 h;exact M5 hK (.read hw hk h1) (ih m _ _ _ _ trivial (H4 h2))
          · rename_i hk;obtain ⟨v,x,h1,h2⟩:=Mc h;exact M5 hK (.write hw hk h1) (ih m _ _ _ _ trivial (H4 (Po h2)))
          · rename_i hk;split at h
            · rename_i f args hc;unfold Ia at h;split at h
              · rename_i hi;split at h
                · rename_i fn hfn;split at h
                  · rename_i c hb;obtain ⟨hnm,h2⟩:=H6 h;have hbody:=ih H.length (.code c) (J1 fn args) H _ (fun hu=>hinl hu f fn c hi hfn hb) h2;have hcall:=acalls_of (f:=f) hfn hb (by simpa using hnm) (fun r hr ρ a w hH hF=>hbody r hr ρ a w (Nat.le_refl _) hH hF);intro r ρ a w hm hH hF;unfold wpListIn;rw [Q9 hF hw,if_pos rfl];obtain ⟨cargs,hv,h1⟩:=Kp (w:=w) (o:=⟨dst,op,ty,pos,after,guard⟩) hF hc hcall.1;refine Ce (Xs hc) ?_;rw [h1];refine ⟨fun h=>by simp [W,Fence.wide] at h,Jw.2 ((hcall.2 ρ w cargs hH hv).mono ?_)⟩
                    rintro e w' ⟨v,cv,ρ',H',rfl,g1,g2,g3,g4,g5⟩;have hp:=N5.of_le hH g2 hm;exact N6 (fun e a w h=>AP.link hp g5 h) l _ _ (ih m (.ops all l) _ _ _ trivial (H4 g1) r ρ' _ w' (W5 hm hH g3 hp) g3 ((hF.mono g2).put _ _ _ g4))
                  · exact h.elim
                · exact h.elim
              · obtain ⟨v,hs,h1,h2⟩:=Mh (Pf h);exact M5 hK (.call hw hk hc (hK.calls _ _ _ _ _ h1)) (ih m _ _ _ _ trivial (H4 (Nd h2)))
            · split at h
              · rename_i i args hy;unfold Hj at h;split at h
                · rename_i e ps as bd F0 hi;obtain ⟨hc,h1⟩:=H6 h;simp only [Bool.and_eq_true] at hc;obtain ⟨he,hl,hna,hnb,hu⟩:=hc;have nol:∀ c',Yr K lps (.code c'):=fun c' hu'=>by rw [hu] at hu';simp at hu'
                  intro r ρ a w hm hH hF;unfold wpListIn;rw [Q9 hF hw,if_pos rfl]
                  refine mK (Q2:=Kq K (vc K n) m all l dst i F Q) (R:=fun v H'=>vc K n m (.ops all l) (put F dst v) H' Q) hH hF hy hi he (Nat.eq_of_beq_eq_true hl)
                    (fun l' ρ' a' w' hH' hF'=>ih H.length (.code as) _ H _ (nol _) h1 (some l') hna ρ' a' w' (Nat.le_refl _) hH' hF')
                    (fun ex F1 H1 hle hq=>?_) (fun ex F2 H2 hle hq=>?_) fun v H' ρ' cv w' hR hH' hv hle hfr=>?_
                  · unfold Qp at hq;split at hq
                    · split at hq
                      · rename_i e1 ps1 as1 bd1 F1' hi1;obtain ⟨he1,h2⟩:=H6 hq;exact ⟨rfl,e1,ps1,as1,bd1,F1',hi1,he1,fun l' ρ' a' w' hH' hF'=>ih H.length (.code bd) F1 _ (Kq K (vc K n) m all l dst i F Q) (nol _) h2 (some l') hnb ρ' a' w' (by simpa using hle) hH' hF'⟩
                      · exact hq.elim
                    · exact hq.elim
                  · unfold Kq at hq;split at hq
                    · rename_i e1 ps1 as1 bd1 F1' hi1;obtain ⟨he1,h2⟩:=H6 hq;exact ⟨e1,ps1,as1,bd1,F1',hi1,he1,H4 h2⟩
                    · exact hq.elim
                  · have hp:=N5.of_le hH hle hm;exact N6 (fun e a w h=>AP.link hp hfr h) l _ _ (ih m (.ops all l) _ _ _ trivial hR r ρ' _ w' (W5 hm hH hH' hp) hH' ((hF.mono hle).put _ _ _ hv))
                · exact h.elim
              · exact h.elim
        · exact M5 hK (.skip hw) (ih m _ _ _ _ trivial (H4 h))
    | dr all l trs=>
      change Kx K (vc K n) m all l trs F H Q at h;cases l with
      | nil=>
        obtain ⟨h1,h2⟩:=H6 h;exact ⟨[],F,H,.nil F H,by simpa using h1,h2⟩
      | cons o l=>
        obtain ⟨dst,op,ty,pos,after,guard⟩:=o;simp only [Kx] at h
        have go:∀ {tr:Tr} {v:AV} {H':Hp},St K all ⟨dst,op,ty,pos,after,guard⟩ F H tr v H'→vc K n m (.dr all l (trs++[tr])) (put F dst v) H' Q→Snd K m (.dr all (⟨dst,op,ty,pos,after,guard⟩::l) trs) F H Q:=by
          intro tr v H' hst hrec;obtain ⟨trs',F',H'',g1,g2,g3⟩:=ih m (.dr all l (trs++[tr])) _ _ _ trivial hrec;exact ⟨tr::trs',F',H'',.cons hst g1,by simpa using g2,g3⟩
        rcases Si h with ⟨hw,h⟩ | ⟨hw,h⟩
        · unfold X1 at h;split at h
          · rename_i hk;obtain ⟨v,h1,h2⟩:=S1 h;exact go (.pure hw hk h1) (Zl h2)
          · rename_i hk;obtain ⟨v,h1,h2⟩:=S1 h;exact go (.read hw hk h1) (H4 h2)
          · rename_i hk;obtain ⟨v,x,h1,h2⟩:=Mc h;exact go (.write hw hk h1) (H4 (Po h2))
          · rename_i hk;split at h
            · rename_i f args hc;split at h
              · rename_i hi;split at h
                · rename_i fn hfn;split at h
                  · rename_i c hb;obtain ⟨hnm,h2⟩:=H6 h;obtain ⟨v,H1,g1,g2,g3⟩:=Ry (oF K n) h2
                    have hcall:∀ R:AV→Hp→Prop,R v H1→ACalls K.C f args H R:=fun R hR=>
                      acalls_of (f:=f) hfn hb (by simpa using hnm) fun r hr ρ a w hH hF=>ih H.length (.code c) (J1 fn args) H _ (fun hu=>hinl hu f fn c hi hfn hb) (g2 R hR) r hr ρ a w (Nat.le_refl _) hH hF
                    split at g1
                    · rename_i hrc;have e:=g3 20 hrc;subst e;exact go (.call (hs:=[]) hw hk hc (hcall _ ⟨rfl,rfl⟩)) (H4 g1)
                    · split at g1
                      · rename_i hs hdf;have e:=Gk 0 [] H H1 hs rfl hdf;simp only [List.nil_append] at e
                        have:=go (tr:=⟨.write,H.length,hs⟩) (v:=v) (H':=acts H hs) (.call hw hk hc (hcall _ ⟨rfl,e.symm⟩))
                        rw [e] at this;exact this (H4 g1)
                      · exact g1.elim
                  · exact h.elim
                · exact h.elim
              · obtain ⟨v,hs,h1,h2⟩:=Mh (Pf h);exact go (.call hw hk hc (hK.calls _ _ _ _ _ h1)) (H4 (Nd h2))
            · exact h.elim
        · exact go (.skip hw) (H4 h)
    | code c=>
      change P8 K (vc K n) m c F H Q at h;intro r hr ρ a w hm hH hF;have here:∀ ae,Q ae F H→AP K.C m ρ w Q (Of ae) a w:=fun ae hq=>⟨ae,ρ,F,H,rfl,hq,N5.refl m ρ,hH,hF,Frm.refl ρ w⟩;cases c with
      | skip => exact wpIn_skip (here .normal h)
      | region id ops draw=>
        cases draw with
        | true=>
          obtain ⟨trs',F',H',g1,g2,g3⟩:=ih m (.dr ops.toList ops.toList []) F H Q trivial h
          have:=Wj (id:=id) (r:=r) (Q:=AP K.C m ρ w Q) hK g1 (by simpa using g2) hH hF fun ρ' a' w' q1 q2 q3 q4=>⟨.normal,ρ',F',H',rfl,g3,N5.of_le hH q3 hm,q1,q2,q4⟩
          rwa [Array.toArray_toList] at this
        | false=>
          have:=ih m (.ops ops.toList ops.toList) F H Q trivial h r ρ a w hm hH hF
          rw [Array.toArray_toList] at this;exact wpIn_region_list this
      | seq x y=>
        have hx:Yr K lps (.code x):=fun hu b hb=>hlp hu b (List.mem_append.2 (.inl hb));have hy:Yr K lps (.code y):=fun hu b hb=>hlp hu b (List.mem_append.2 (.inr hb));exact wpIn_seq (Code.wpIn_mono (fun e a' w' h=>AP.seq hm hH (fun F' H' hrr=>ih m (.code y) F' H' Q hy hrr r (Hm hr).2) h) (ih m (.code x) F H _ hx h r (Hm hr).1 ρ a w hm hH hF))
      | cond c x y=>
        have hx:Yr K lps (.code x):=fun hu b hb=>hlp hu b (List.mem_append.2 (.inl hb));have hy:Yr K lps (.code y):=fun hu b hb=>hlp hu b (List.mem_append.2 (.inr hb));simp only [P8,Sw] at h;split at h
        · rename_i t;split at h
          · rename_i b hb;have hv:=hF.at t;rw [hb] at hv;simp only [VR] at hv;rcases mW h with ⟨hb1,h2⟩ | ⟨hb1,h2⟩
            · subst hb1;have h2:=H4 h2;simp only [put,R6 hb (by simp)] at h2;exact wpIn_cond_true hv (ih m (.code x) F H Q hx h2 r (Ao hr).1 ρ a w hm hH hF)
            · subst hb1;have h2:=H4 h2;simp only [put,R6 hb (by simp)] at h2;exact wpIn_cond_false hv (ih m (.code y) F H Q hy h2 r (Ao hr).2 ρ a w hm hH hF)
          · exact h.elim
        · rename_i b;cases b with
          | true=>exact wpIn_cond_true rfl (ih m (.code x) F H Q hx h r (Ao hr).1 ρ a w hm hH hF)
          | false=>exact wpIn_cond_false rfl (ih m (.code y) F H Q hy h r (Ao hr).2 ρ a w hm hH hF)
        · exact h.elim
      | block id c=>
        refine wpIn_block (Code.wpIn_mono ?_ (ih m (.code c) F H _ (fun hu b hb=>hlp hu b hb) h r (Oz hr) ρ a w hm hH hF));rintro e a' w' ⟨ae,ρ',F',H',rfl,h2,h3⟩;cases ae with
        | normal=>exact ⟨.normal,ρ',F',H',rfl,h2,h3⟩
        | ret=>exact ⟨.ret,ρ',F',H',rfl,h2,h3⟩
        | exit i=>
          simp only [Aw] at h2;show (if i=id then AP K.C m ρ w Q .normal a' w' else AP K.C m ρ w Q (.exit i) a' w');split at h2
          · rename_i hi;rw [if_pos (by simpa using hi)];exact ⟨.normal,ρ',F',H',rfl,h2,h3⟩
          · rename_i hi;rw [if_neg (by simpa using hi)];exact ⟨.exit i,ρ',F',H',rfl,h2,h3⟩
      | loop c=>
        cases hu:K.unr with
        | true=>exact wpIn_loop_rounds (n+1) (second hu m c F H Q h r (dN hr) ρ w ρ a w hm (N5.refl m ρ) (Frm.refl ρ w) hH hF)
        | false=>
          simp only [P8,hu] at h;obtain ⟨hM,h2⟩:=H6 h;obtain ⟨e,F',H',h3,h4⟩:=dV h2;have h4:=Pf h4
          have:=hK.loops m c F H e F' H' (Nat.le_of_ble_eq_true hM) (hlp hu c (by simp [loopsOf])) h3
          exact this.mono (fun e' F'' H'' ⟨q1,q2,q3⟩=>by rw [q1,q2,q3];exact h4) r hr ρ a w hH hF
      | exit id=>exact wpIn_exit (here (.exit id) h)
      | scope c=>
        refine Ej (Code.wpIn_mono ?_ (ih m (.code c) F H Q (fun hu b hb=>hlp hu b hb) h r (Zq hr) ρ a w hm hH hF));rintro e a' w' h;obtain ⟨ae,ρ',F',H',rfl,h2⟩:=h;cases ae with
        | normal=>exact ⟨.normal,ρ',F',H',rfl,h2⟩
        | ret=>exact ⟨.ret,ρ',F',H',rfl,h2⟩
        | exit i=>exact ⟨.exit i,ρ',F',H',rfl,h2⟩
      | label l=>exact wpIn_label (here .normal h)
      | ret=>exact wpIn_ret (here .ret h)
      | rangeFunc g ps as bd=>
        cases r with
        | some l=>simp [Ap,M3] at hr
        | none=>
          change Kw K (vc K n) g ps as bd F H Q at h;unfold Kw at h;split at h
          · rename_i f cap hf;split at h
            · rename_i fn hfn;split at h
              · rename_i c hb;obtain ⟨hc,h1⟩:=H6 h;simp only [Bool.and_eq_true,Bool.not_eq_true'] at hc;have hlen:(H++[some (⟨4294967291,.rcd 0 ps as bd::F⟩:Blk)]).length=H.length+1:=by simp
                refine nU hm hH hF hf (acalls_of hfn hb hc.1 fun r' hr' ρ' a' w' hH' hF'=>?_);rw [hlen];exact ih (H.length+1) (.code c) _ _ _ (fun hu=>by rw [hc.2] at hu;simp at hu) h1 r' hr' ρ' a' w' (by rw [hlen];exact Nat.le_refl _) hH' hF'
              · exact h.elim
            · exact h.elim
          · exact h.elim
      | goto l=>exact h.elim
      | refuse s=>exact h.elim
theorem call_of_vc (hK:Ei K lps) (hinl:K.unr=false→∀ f fn c,K.inl f=true→K.C.P.funcs[f]?=some fn→fn.body=some c→∀ b∈loopsOf c,b∈lps) {f:FuncId} {fn:Func} {c:Code} {args:List AV} {H:Hp} {Q:AV→Hp→Prop}
  (n : Nat) (hf : K.C.P.funcs[f]? = some fn) (hb : fn.body = some c) (hn : (fn.name == "runtime.NumGoroutine") = false) (hl : K.unr = false → ∀ b ∈ loopsOf c, b ∈ lps)
  (h:vc K n H.length (.code c) (J1 fn args) H (J6 K.C fn Q)):ACalls K.C f args H Q:=
 acalls_of hf hb hn fun r hr ρ a w hH hF=>(bY hK hinl n).1 H.length (.code c) _ H _ hl h r hr ρ a w (Nat.le_refl _) hH hF
theorem wp_of_vc (hK:Ei K lps) (hinl:K.unr=false→∀ f fn c,K.inl f=true→K.C.P.funcs[f]?=some fn→fn.body=some c→∀ b∈loopsOf c,b∈lps) {c:Code} {F:Fr} {H:Hp} {m:Nat} {Q:Post}
  (n:Nat) (hm:m≤H.length) (hl:K.unr=false→∀ b∈loopsOf c,b∈lps) (h:vc K n m (.code c) F H Q):AWp K.C m c F H Q:=
 fun r hr ρ a w hH hF=>(bY hK hinl n).1 m (.code c) F H Q hl h r hr ρ a w hm hH hF
end
end Go.Am
namespace Go.Am
open Go.RowKit
mutual
def C1 (θ:List Nat):AV→AV
 | .ptr (.rw i) off=>.ptr (.rw (θ.getD i 0)) off
 | .slice mb (.rw i) off len=>.slice mb (.rw (θ.getD i 0)) off len
 | .func f cap=>.func f (rens θ cap)
 | .agg cs=>.agg (rens θ cs)
 | .tup vs=>.tup (rens θ vs)
 | .yld i=>.yld (θ.getD i 0)
 | v=>v
def rens (θ:List Nat):List AV→List AV
 | []=>[]
 | v::vs=>C1 θ v::rens θ vs
end
mutual
/-- all indices below n -/
def A8 (n:Nat):AV→Bool
 | .ptr (.rw i) _=>decide (i<n)
 | .slice _ (.rw i) _ _=>decide (i<n)
 | .func _ cap=>A4 n cap
 | .agg cs=>A4 n cs
 | .tup vs=>A4 n vs
 | .yld i=>decide (i<n)
 | _=>true
def A4 (n:Nat):List AV→Bool
 | []=>true
 | v::vs=>A8 n v&&A4 n vs
end
theorem K8 (θ:List Nat):∀ l,rens θ l=l.map (C1 θ)
 | []=>by simp [rens]
 | v::l=>by simp [rens,K8 θ l]
theorem J8 (n:Nat):∀ l,A4 n l=l.all (A8 n)
 | []=>by simp [A4]
 | v::l=>by simp [A4,J8 n l]
mutual
theorem Es (θ:List Nat):∀ v,A8 0 v=true→C1 θ v=v
 | .undef,_=>by simp [C1]
 | .bool _,_=>by simp [C1]
 | .int _ _,_=>by simp [C1]
 | .str _,_=>by simp [C1]
 | .nilp,_=>by simp [C1]
 | .nils,_=>by simp [C1]
 | .nilf,_=>by simp [C1]
 | .ptr (.rw i) off,h=>by simp [A8] at h
 | .ptr (.ro i) off,_=>by simp [C1]
 | .slice mb (.rw i) off len,h=>by simp [A8] at h
 | .slice mb (.ro i) off len,_=>by simp [C1]
 | .func f cap,h=>by simp only [A8] at h;simp only [C1,B5 θ cap h]
 | .agg cs,h=>by simp only [A8] at h;simp only [C1,B5 θ cs h]
 | .tup cs,h=>by simp only [A8] at h;simp only [C1,B5 θ cs h]
 | .yld i,h=>by simp [A8] at h
 | .rcd ..,_=>by simp [C1]
theorem B5 (θ:List Nat):∀ l,A4 0 l=true→rens θ l=l
 | [],_=>by simp [rens]
 | v::l,h=>by
  simp only [A4,Bool.and_eq_true] at h;simp only [rens,Es θ v h.1,B5 θ l h.2]
end
mutual
theorem Tv {m n:Nat} (hmn:m≤n):∀ v,A8 m v=true→A8 n v=true
 | .undef,_=>by simp [A8]
 | .bool _,_=>by simp [A8]
 | .int _ _,_=>by simp [A8]
 | .str _,_=>by simp [A8]
 | .nilp,_=>by simp [A8]
 | .nils,_=>by simp [A8]
 | .nilf,_=>by simp [A8]
 | .ptr (.rw i) off,h=>by simp [A8] at *;omega
 | .ptr (.ro i) off,_=>by simp [A8]
 | .slice mb (.rw i) off len,h=>by simp [A8] at *;omega
 | .slice mb (.ro i) off len,_=>by simp [A8]
 | .func f cap,h=>by simp only [A8] at *;exact I3 hmn cap h
 | .agg cs,h=>by simp only [A8] at *;exact I3 hmn cs h
 | .tup cs,h=>by simp only [A8] at *;exact I3 hmn cs h
 | .yld i,h=>by simp [A8] at *;omega
 | .rcd ..,_=>by simp [A8]
theorem I3 {m n:Nat} (hmn:m≤n):∀ l,A4 m l=true→A4 n l=true
 | [],_=>by simp [A4]
 | v::l,h=>by
  simp only [A4,Bool.and_eq_true] at *;exact ⟨Tv hmn v h.1,I3 hmn l h.2⟩
end
def Ua (θ:List Nat) (ρ0 ρ:Env):Prop:=(∀ i,i<θ.length→ρ.rw[θ.getD i 0]?=ρ0.rw[i]?)∧ρ.ro=ρ0.ro
mutual
theorem Ax {θ:List Nat} {ρ0 ρ:Env} (h:Ua θ ρ0 ρ):∀ (v:AV) (cv:Value),A8 θ.length v=true→(VR ρ (C1 θ v) cv↔VR ρ0 v cv)
 | .undef,_,_=>by simp [C1,VR]
 | .bool _,_,_=>by simp [C1,VR]
 | .int _ _,_,_=>by simp [C1,VR]
 | .str _,_,_=>by simp [C1,VR]
 | .nilp,_,_=>by simp [C1,VR]
 | .nils,_,_=>by simp [C1,VR]
 | .nilf,_,_=>by simp [C1,VR]
 | .ptr (.rw i) off,cv,hb=>by
  simp only [A8,decide_eq_true_eq] at hb;simp only [C1,VR,P9,h.1 i hb]
 | .ptr (.ro i) off,cv,_=>by simp only [C1,VR,P9,h.2]
 | .slice mb (.rw i) off len,cv,hb=>by
  simp only [A8,decide_eq_true_eq] at hb;simp only [C1,VR,N4,h.1 i hb]
 | .slice mb (.ro i) off len,cv,_=>by simp only [C1,VR,N4,h.2]
 | .func f cap,cv,hb=>by
  simp only [A8] at hb;simp only [C1,VR];exact ⟨fun ⟨cs,e,hs⟩=>⟨cs,e,(Bi h cap _ hb).1 hs⟩,fun ⟨cs,e,hs⟩=>⟨cs,e,(Bi h cap _ hb).2 hs⟩⟩
 | .agg cap,cv,hb=>by
  simp only [A8] at hb;simp only [C1,VR];exact ⟨fun ⟨cs,e,hs⟩=>⟨cs,e,(Bi h cap _ hb).1 hs⟩,fun ⟨cs,e,hs⟩=>⟨cs,e,(Bi h cap _ hb).2 hs⟩⟩
 | .tup cap,cv,hb=>by
  simp only [A8] at hb;simp only [C1,VR];exact ⟨fun ⟨cs,e,hs⟩=>⟨cs,e,(Bi h cap _ hb).1 hs⟩,fun ⟨cs,e,hs⟩=>⟨cs,e,(Bi h cap _ hb).2 hs⟩⟩
 | .yld i,cv,hb=>by
  simp only [A8,decide_eq_true_eq] at hb;simp only [C1,VR,h.1 i hb]
 | .rcd ..,cv,_=>by simp only [C1,VR]
theorem Bi {θ:List Nat} {ρ0 ρ:Env} (h:Ua θ ρ0 ρ):∀ (l:List AV) (cl:List Value),A4 θ.length l=true→(VRs ρ (rens θ l) cl↔VRs ρ0 l cl)
 | [],_,_=>by simp [rens,VRs]
 | v::l,cl,hb=>by
  simp only [A4,Bool.and_eq_true] at hb;simp only [rens,VRs];constructor
  ·rintro ⟨x,xs,e,h1,h2⟩;exact ⟨x,xs,e,(Ax h v x hb.1).1 h1,(Bi h l xs hb.2).1 h2⟩
  ·rintro ⟨x,xs,e,h1,h2⟩;exact ⟨x,xs,e,(Ax h v x hb.1).2 h1,(Bi h l xs hb.2).2 h2⟩
end
theorem xL {θ:List Nat} {v:AV} {p:Nat} {ps:Array Nat} {a b:Code} (h:C1 θ v=.rcd p ps a b):v=.rcd p ps a b:=by
 cases v with
 | ptr r _=>cases r<;>simp [C1] at h
 | slice _ r _ _=>cases r<;>simp [C1] at h
 | rcd _ _ _ _=>simpa [C1] using h
 | _=>simp [C1] at h
theorem aK {θ:List Nat} {ρ0 ρ:Env} (h:Ua θ ρ0 ρ) {cs cs':List AV} {r:Loop} (hr:Iu ρ cs' r) (hl:cs.length=cs'.length) (hh:cs.head?.map (C1 θ)=cs'.head?)
  (hc:∀ (k:Nat) v,cs[k]?=some v→A8 θ.length v=true∧(v=.undef∨cs'[k]?=some (C1 θ v))):Iu ρ0 cs r:=by
 obtain ⟨p,ps,a,b,F,rfl,h2,h3,h4,h5,h6,h7⟩:=hr
 obtain ⟨F',rfl⟩:∃ F',cs=.rcd p ps a b::F':=by
  cases cs with
  | nil=>simp at hh
  | cons x F'=>simp at hh;exact ⟨F',by rw [xL hh]⟩
 refine ⟨p,ps,a,b,F',rfl,h2,h3,h4,h5,(by simpa using hl:F'.length=F.length).trans h6,fun k v hv=>?_⟩;obtain ⟨g1,g2⟩:=hc (k+1) v (by simpa using hv);rcases g2 with rfl | g2
 ·simp [VR]
 ·exact (Ax h v _ g1).1 (h7 k _ (by simpa using g2))
theorem fZ {θ:List Nat} {ρ0 ρ:Env} (h:Ua θ ρ0 ρ) {cs:List AV} {r:Loop} (hb:A4 θ.length cs=true):Iu ρ (rens θ cs) r↔Iu ρ0 cs r:=by
 rw [J8,List.all_eq_true] at hb;rw [K8];constructor
 ·intro hr;refine aK h hr (by simp) ?_ fun k v hv=>⟨hb v (List.mem_of_getElem? hv),.inr (by simp [hv])⟩;obtain ⟨p,ps,a,b,F,h1,_⟩:=hr;cases cs with
  | nil=>simp
  | cons x F'=>simp
 ·rintro ⟨p,ps,a,b,F,rfl,h2,h3,h4,h5,h6,h7⟩;refine ⟨p,ps,a,b,F.map (C1 θ),by simp [C1],h2,h3,h4,h5,by simpa using h6,fun k v hv=>?_⟩;simp only [List.getElem?_map,Option.map_eq_some_iff] at hv;obtain ⟨v0,hv0,rfl⟩:=hv;exact (Ax h v0 _ (hb v0 (by simp [List.mem_of_getElem? hv0]))).2 (h7 k v0 hv0)
def BlkV (θ:List Nat) (b b':Blk):Prop:=b.esz=b'.esz∧(∀ (k:Nat) v,b.cells[k]?=some v→A8 θ.length v=true∧(v=.undef∨b'.cells[k]?=some (C1 θ v)))∧(isRec b=true→b.cells.length=b'.cells.length∧b.cells.head?.map (C1 θ)=b'.cells.head?)
structure C2 (m:Nat) (F:Fr) (H:Hp) (F':Fr) (H':Hp):Prop where
 ex:∃ θ:List Nat,θ.length=H.length∧m≤H.length∧(∀ i,i<m→θ.getD i 0=i)∧(∀ i,i<θ.length→θ.getD i 0<H'.length)∧
  (∀ (i j:Nat) b b',H[i]?=some (some b)→H[j]?=some (some b')→θ.getD i 0=θ.getD j 0→i=j)∧
  (∀ (i:Nat) b,H[i]?=some (some b)→∃ b',H'[θ.getD i 0]?=some (some b')∧b.cells.length≤b'.cells.length∧BlkV θ b b')∧
  F.length=F'.length∧∀ (k:Nat) v,F[k]?=some v→A8 θ.length v=true∧(v=.undef∨F'[k]?=some (C1 θ v))
theorem C2.use' {C:A2} {m:Nat} {F F':Fr} {H H':Hp} (hv:C2 m F H F' H') {ρ':Env} {a:Act} {w:World} (hH:B0 C ρ' H' w) (hF:D5 ρ' F' a) :
  ∃ ρ,B0 C ρ H w∧D5 ρ F a∧N5 m ρ' ρ∧Frm ρ' w ρ w∧ρ.dfs=ρ'.dfs:=by
 obtain ⟨θ,hθ,hm,hpin,hlt,hinj,hblk,hfl,hf⟩:=hv.ex
 let ρ:Env:=⟨θ.map fun j=>(ρ'.rw[j]?).getD none,ρ'.ro,ρ'.dfs⟩
 have get:∀ i,i<θ.length→ρ.rw[i]?=some ((ρ'.rw[θ.getD i 0]?).getD none):=fun i hi=>by
  simp only [ρ,List.getElem?_map,List.getElem?_eq_getElem hi,Option.map_some,List.getD,Option.getD_some]
 have get':∀ i,i<θ.length→ρ'.rw[θ.getD i 0]?=ρ.rw[i]?:=fun i hi=>by
  rw [get i hi]
  have:θ.getD i 0<ρ'.rw.length:=by rw [hH.len];exact hlt i hi
  rw [List.getElem?_eq_getElem this];rfl
 have hr:Ua θ ρ ρ':=⟨get',rfl⟩
 have ents:∀ (i:Nat) e,ρ.rw[i]?=some (some e)→i<θ.length∧ρ'.rw[θ.getD i 0]?=some (some e):=fun i e h=>by
  have hi:i<θ.length:=by have:=(List.getElem?_eq_some_iff.1 h).1;simpa [ρ] using this
  exact ⟨hi,(get' i hi).trans h⟩
 refine ⟨ρ,⟨by simp [ρ,hθ],hH.base,fun i e h=>hH.ents _ e (ents i e h).2,fun i b hb=>?_,?_,fun i b d hr=>⟨(hH.ro i b d hr).1,fun j x e h1 h2=>?_,(hH.ro i b d hr).2.2⟩,fun D hD=>⟨(hH.df D hD).1,fun i e he=>(hH.df D hD).2.1 _ e (ents i e he).2,(hH.df D hD).2.2⟩⟩,⟨hF.nod,hfl.trans hF.len,fun k v hk=>?_⟩,fun i hi=>?_,?_⟩
 ·have hi:i<θ.length:=by rw [hθ];exact (List.getElem?_eq_some_iff.1 hb).1
  obtain ⟨b',h1,h2,h3,h4,hrc⟩:=hblk i b hb;have hl:=hH.live _ b' h1;rw [get' i hi] at hl;generalize ρ.rw[i]?=x at hl
  match x,hl with
  | some (some e),hl=>
   have hrr:isRec b'=isRec b:=by unfold isRec;rw [h3]
   cases hr0:isRec b with
   | true=>
    rw [hr0] at hrr;obtain ⟨g1,r,g2,g3⟩:=hl.rec hrr;obtain ⟨hlen,hhd⟩:=hrc hr0;exact .ofRec hr0 ⟨g1.trans h3.symm,r,g2,aK hr g3 hlen hhd h4⟩
   | false=>
   rw [hr0] at hrr;obtain ⟨g1,cs,ty,fz,g2,g3,g4,g5,g6⟩:=hl.cs hrr;refine .of hr0 ⟨g1.trans h3.symm,cs,ty,fz,g2,g3,by omega,fun k v hv=>?_,g6⟩;have hk:k<b.cells.length:=(List.getElem?_eq_some_iff.1 hv).1;obtain ⟨hb1,hb2⟩:=h4 k v hv;rcases hb2 with rfl | hb2
   ·exact ⟨cs[k]'(by omega),by simp,by simp [VR]⟩
   ·obtain ⟨cv,q1,q2⟩:=g5 k _ hb2;exact ⟨cv,q1,(Ax hr v cv hb1).1 q2⟩
  | some none,hl=>
   have:b'.cells=[]:=hl
   rw [this] at h2;exact List.eq_nil_of_length_eq_zero (by simpa using h2)
  | none,hl=>exact hl.elim
 ·intro i j b b' e e' h1 h2 h3 h4 h5;obtain ⟨c1,g1,_⟩:=hblk i b h1;obtain ⟨c2,g2,_⟩:=hblk j b' h2;exact hinj i j b b' h1 h2 (hH.inj _ _ c1 c2 e e' g1 g2 (ents i e h3).2 (ents j e' h4).2 h5)
 ·obtain ⟨c1,g1,_⟩:=hblk j x h1;exact (hH.ro i b d hr).2.1 _ c1 e g1 (ents j e h2).2
 ·obtain ⟨hb1,hb2⟩:=hf k v hk;rcases hb2 with rfl | hb2
  ·simp [VR]
  ·exact (Ax hr v _ hb1).1 (hF.val k _ hb2)
 ·rw [←get' i (by omega),hpin i hi]
 ·exact ⟨⟨rfl,rfl,rfl,Nat.le_refl _,fun _ _ _=>rfl,fun i e h=>.inl ⟨_,e,(ents i e h).2,rfl⟩,fun _ _ _ h=>h,fun _ _ _ h=>.inl h,fun _ h=>.inl h⟩,rfl⟩
theorem C2.use {C:A2} {m:Nat} {F F':Fr} {H H':Hp} (hv:C2 m F H F' H') {ρ':Env} {a:Act} {w:World} (hH:B0 C ρ' H' w) (hF:D5 ρ' F' a) :
  ∃ ρ,B0 C ρ H w∧D5 ρ F a∧N5 m ρ' ρ∧Frm ρ' w ρ w:=
 let ⟨ρ,h1,h2,h3,h4,_⟩:=hv.use' hH hF
 ⟨ρ,h1,h2,h3,h4⟩
def K2 (θ:List Nat) (b:Blk):Blk:=⟨b.esz,rens θ b.cells⟩
def U4 (θ:List Nat) (b:Option Blk):Option Blk:=b.map (K2 θ)
def R3 (θ:List Nat) (n k:Nat):List Nat:=θ++(List.range k).map (n+·)
def lay (θ':List Nat):List Nat→List (Option Blk)→Hp→Hp
 | j::θ,b::bs,H=>lay θ' θ bs (H.set j (U4 θ' b))
 | _,_,H=>H
def T8 (θ:List Nat) (H H0:Hp):Hp:=
 lay (R3 θ H.length (H0.length - θ.length)) θ H0 H++(H0.drop θ.length).map (U4 (R3 θ H.length (H0.length - θ.length)))
theorem Du (θ':List Nat):∀ (θ:List Nat) (bs:List (Option Blk)) (H:Hp),(lay θ' θ bs H).length=H.length
 | [],bs,H=>by simp [lay]
 | j::θ,[],H=>by simp [lay]
 | j::θ,b::bs,H=>by simp [lay,Du θ' θ bs]
theorem Xv (θ':List Nat):∀ (θ:List Nat) (bs:List (Option Blk)) (H:Hp) (j:Nat),j ∉ θ→(lay θ' θ bs H)[j]?=H[j]?
 | [],bs,H,j,_=>by simp [lay]
 | k::θ,[],H,j,_=>by simp [lay]
 | k::θ,b::bs,H,j,h=>by
  simp only [List.mem_cons,not_or] at h;simp only [lay];rw [Xv θ' θ bs _ j h.2,List.getElem?_set,if_neg (fun e=>h.1 e.symm)]
theorem oY (θ':List Nat):∀ (θ:List Nat) (bs:List (Option Blk)) (H:Hp) (i:Nat) (b:Option Blk),θ.Nodup→(∀ j∈θ,j<H.length)→bs[i]?=some b→i<θ.length→
  (lay θ' θ bs H)[θ.getD i 0]?=some (U4 θ' b)
 | [],bs,H,i,b,_,_,_,hi=>by simp at hi
 | k::θ,[],H,i,b,_,_,hb,_=>by simp at hb
 | k::θ,x::bs,H,0,b,hn,hl,hb,_=>by
  simp at hb;subst hb;simp only [lay]
  have:k ∉ θ:=(List.nodup_cons.1 hn).1
  have e:(k::θ).getD 0 0=k:=rfl;rw [e,Xv θ' θ bs _ k this,List.getElem?_set,if_pos rfl,if_pos (hl k (by simp))]
 | k::θ,x::bs,H,i+1,b,hn,hl,hb,hi=>by
  simp only [lay];have e:(k::θ).getD (i+1) 0=θ.getD i 0:=by simp [List.getD]
  rw [e];exact oY θ' θ bs _ i b (List.nodup_cons.1 hn).2 (fun j hj=>by simpa using hl j (by simp [hj])) (by simpa using hb) (by simpa using hi)
theorem Hv {θ:List Nat} {n k i:Nat} (h:i<θ.length):(R3 θ n k).getD i 0=θ.getD i 0:=by
 simp [R3,List.getD,List.getElem?_append_left h]
theorem Yw {θ:List Nat} {n k i:Nat} (h:θ.length≤i) (h2:i<θ.length+k):(R3 θ n k).getD i 0=n+(i - θ.length):=by
 have:i - θ.length<k:=by omega
 simp [R3,List.getD,List.getElem?_append_right h,this]
theorem gH {θ:List Nat} {n k:Nat}:(R3 θ n k).length=θ.length+k:=by simp [R3]
mutual
theorem rS {θ:List Nat} {n k:Nat}:∀ v,A8 θ.length v=true→C1 (R3 θ n k) v=C1 θ v
 | .undef,_=>by simp [C1]
 | .bool _,_=>by simp [C1]
 | .int _ _,_=>by simp [C1]
 | .str _,_=>by simp [C1]
 | .nilp,_=>by simp [C1]
 | .nils,_=>by simp [C1]
 | .nilf,_=>by simp [C1]
 | .ptr (.rw i) off,h=>by simp only [A8,decide_eq_true_eq] at h;simp only [C1,Hv h]
 | .ptr (.ro i) off,_=>by simp [C1]
 | .slice mb (.rw i) off len,h=>by simp only [A8,decide_eq_true_eq] at h;simp only [C1,Hv h]
 | .slice mb (.ro i) off len,_=>by simp [C1]
 | .func f cap,h=>by simp only [A8] at h;simp only [C1,Fz cap h]
 | .agg cs,h=>by simp only [A8] at h;simp only [C1,Fz cs h]
 | .tup cs,h=>by simp only [A8] at h;simp only [C1,Fz cs h]
 | .yld i,h=>by simp only [A8,decide_eq_true_eq] at h;simp only [C1,Hv h]
 | .rcd ..,_=>by simp [C1]
theorem Fz {θ:List Nat} {n k:Nat}:∀ l,A4 θ.length l=true→rens (R3 θ n k) l=rens θ l
 | [],_=>by simp [rens]
 | v::l,h=>by
  simp only [A4,Bool.and_eq_true] at h;simp only [rens,rS v h.1,Fz l h.2]
end
theorem Vu {C:A2} {f:FuncId} {args0:List AV} {H0 H:Hp} {K0:AV→Hp→Prop} (h:ACalls C f args0 H0 K0) (θ:List Nat) (hθ:θ.length=H0.length) (hnd:θ.Nodup)
    (hlive:∀ (i:Nat) b,H0[i]?=some b→∃ b0,b=some b0∧A4 θ.length b0.cells=true∧H[θ.getD i 0]?=some (some (K2 θ b0)))
    (hargs:A4 θ.length args0=true) (hout:∀ v0 H0',K0 v0 H0'→H0.length≤H0'.length∧A8 H0'.length v0=true∧∀ (i:Nat) b,H0'[i]?=some (some b)→A4 H0'.length b.cells=true) :
    ACalls C f (rens θ args0) H fun v H'=>∃ v0 H0',K0 v0 H0'∧v=C1 (R3 θ H.length (H0'.length - θ.length)) v0∧H'=T8 θ H H0':=by
  refine ⟨h.1,fun ρ w cargs hH hv=>?_⟩
  have hlt:∀ i,i<θ.length→θ.getD i 0<H.length:=fun i hi=>by
    obtain ⟨b,hb⟩:∃ b,H0[i]?=some b:=⟨_,List.getElem?_eq_getElem (by omega)⟩;obtain ⟨b0,_,_,h2⟩:=hlive i b hb;exact (List.getElem?_eq_some_iff.1 h2).1
  have hmem:∀ j∈θ,j<H.length:=fun j hj=>by
    obtain ⟨i,hi,he⟩:=List.mem_iff_getElem.1 hj
    have:=hlt i hi
    simp [List.getD,hi,he] at this;exact this
  let ρ0:Env:=⟨θ.map fun j=>(ρ.rw[j]?).getD none,ρ.ro,[]⟩
  have get:∀ i,i<θ.length→ρ.rw[θ.getD i 0]?=ρ0.rw[i]?:=fun i hi=>by
    have h1:θ.getD i 0<ρ.rw.length:=by rw [hH.len];exact hlt i hi
    have h2:ρ0.rw[i]?=some ((ρ.rw[θ.getD i 0]?).getD none):=by
      simp only [ρ0,List.getElem?_map,List.getElem?_eq_getElem hi,Option.map_some,List.getD,Option.getD_some]
    rw [h2,List.getElem?_eq_getElem h1];rfl
  have hr:Ua θ ρ0 ρ:=⟨get,rfl⟩
  have ents0:∀ (i:Nat) e,ρ0.rw[i]?=some (some e)→i<θ.length∧ρ.rw[θ.getD i 0]?=some (some e):=fun i e hi=>by
    have hl:i<θ.length:=by have:=(List.getElem?_eq_some_iff.1 hi).1;simpa [ρ0] using this
    exact ⟨hl,(get i hl).trans hi⟩
  have nodup:∀ i j,i<θ.length→j<θ.length→θ.getD i 0=θ.getD j 0→i=j:=fun i j hi hj he=>by
    simp only [List.getD,List.getElem?_eq_getElem hi,List.getElem?_eq_getElem hj,Option.getD_some] at he;exact (List.getElem_inj hnd).1 he
  have hH0:B0 C ρ0 H0 w:=by
    refine ⟨by simp [ρ0,hθ],hH.base,fun i e hi=>hH.ents _ e (ents0 i e hi).2,fun i b hb=>?_,?_,fun i b d hr=>⟨(hH.ro i b d hr).1,fun j x e h1 h2=>?_,(hH.ro i b d hr).2.2⟩,fun D hD=>by simp [ρ0] at hD⟩
    · have hi:i<θ.length:=by rw [hθ];exact (List.getElem?_eq_some_iff.1 hb).1
      obtain ⟨b0,hb0,hbd,h2⟩:=hlive i _ hb;simp at hb0;subst hb0;have hl:=hH.live _ _ h2;rw [get i hi] at hl;generalize ρ0.rw[i]?=x at hl
      match x,hl with
      | some (some e),hl=>
        have hrr:isRec (K2 θ b)=isRec b:=rfl;cases hr0:isRec b with
        | true=>
          obtain ⟨g1,r,g2,g3⟩:=hl.rec (hrr.trans hr0);exact .ofRec hr0 ⟨g1,r,g2,(fZ hr hbd).1 g3⟩
        | false=>
        obtain ⟨g1,cs,ty,fz,g2,g3,g4,g5,g6⟩:=hl.cs (hrr.trans hr0);refine .of hr0 ⟨g1,cs,ty,fz,g2,g3,by simpa [K2,K8] using g4,fun k v hkv=>?_,g6⟩
        have hbv:A8 θ.length v=true:=by
          rw [J8,List.all_eq_true] at hbd;exact hbd v (List.mem_of_getElem? hkv)
        obtain ⟨cv,q1,q2⟩:=g5 k (C1 θ v) (by simp [K2,K8,hkv]);exact ⟨cv,q1,(Ax hr v cv hbv).1 q2⟩
      | some none,hl=>
        have:rens θ b.cells=[]:=hl
        rw [K8] at this;exact List.map_eq_nil_iff.1 this
      | none,hl=>exact hl.elim
    · intro i j b b' e e' h1 h2 h3 h4 h5;have hi:i<θ.length:=(ents0 i e h3).1;have hj:j<θ.length:=(ents0 j e' h4).1;obtain ⟨b0,hb0,_,g1⟩:=hlive i _ h1;obtain ⟨b1,hb1,_,g2⟩:=hlive j _ h2;exact nodup i j hi hj (hH.inj _ _ _ _ e e' g1 g2 (ents0 i e h3).2 (ents0 j e' h4).2 h5)
    · obtain ⟨b0,_,_,g1⟩:=hlive j _ h1;exact (hH.ro i b d hr).2.1 _ _ e g1 (ents0 j e h2).2
  refine (h.2 ρ0 w cargs hH0 ((Bi hr args0 cargs hargs).1 hv)).mono ?_;rintro e w' ⟨v0,cv,ρ0',H0',rfl,hK,hle,hH',hvr,hfr⟩;obtain ⟨ho1,ho2,ho3⟩:=hout v0 H0' hK
  let θ':=R3 θ H.length (H0'.length - θ.length)
  have hθ':θ'.length=H0'.length:=by simp only [θ',gH];omega
  let ρ':Env:=⟨ρ.rw++ρ0'.rw.drop θ.length,ρ0'.ro,ρ.dfs⟩
  have lenρ:ρ.rw.length=H.length:=hH.len
  have low:∀ j,j<H.length→ρ'.rw[j]?=ρ.rw[j]?:=fun j hj=>by
    show (ρ.rw++_)[j]?=_;rw [List.getElem?_append_left (by omega)]
  have le0:∀ i,i<θ.length→ρ0'.rw[i]?=ρ0.rw[i]?:=fun i hi=>by
    have hl:i<ρ0.rw.length:=by simpa [ρ0] using hi
    rw [List.getElem?_eq_getElem hl];exact hle.1 i _ (List.getElem?_eq_getElem hl)
  have hr':Ua θ' ρ0' ρ':=by
    refine ⟨fun i hi=>?_,?_⟩
    · rw [hθ'] at hi;by_cases h1:i<θ.length
      · rw [show θ'.getD i 0=θ.getD i 0 from Hv h1,low _ (hlt i h1),get i h1,le0 i h1]
      · rw [show θ'.getD i 0=H.length+(i - θ.length) from Yw (by omega) (by omega)];show (ρ.rw++ρ0'.rw.drop θ.length)[H.length+(i - θ.length)]?=_;rw [List.getElem?_append_right (by omega),List.getElem?_drop];congr 1;omega
    · rfl
  have hleρ:ρ.le ρ':=⟨fun i x hx=>by
    have:i<H.length:=by rw [←lenρ];exact (List.getElem?_eq_some_iff.1 hx).1
    rw [low i this];exact hx,hle.2,fun _ h=>h⟩
  -- the merged heap,place by place
  have mlow:∀ j,j<H.length→(T8 θ H H0')[j]?=(lay θ' θ H0' H)[j]?:=fun j hj=>by
    show (lay θ' θ H0' H++_)[j]?=_;rw [List.getElem?_append_left (by rw [Du];exact hj)]
  have mout:∀ j,j<H.length→j ∉ θ→(T8 θ H H0')[j]?=H[j]?:=fun j hj hn=>by rw [mlow j hj,Xv θ' θ H0' H j hn]
  have min:∀ (i:Nat) b,H0'[i]?=some b→i<θ.length→(T8 θ H H0')[θ.getD i 0]?=some (U4 θ' b):=fun i b hb hi=>by
    rw [mlow _ (hlt i hi)];exact oY θ' θ H0' H i b hnd hmem hb hi
  have mhigh:∀ (i:Nat),θ.length≤i→(T8 θ H H0')[H.length+(i - θ.length)]?=(H0'[i]?).map (U4 θ'):=fun i hi=>by
    show (lay θ' θ H0' H++_)[H.length+(i - θ.length)]?=_;rw [List.getElem?_append_right (by rw [Du];omega),Du,List.getElem?_map,List.getElem?_drop];congr 2;omega
  have mlen:(T8 θ H H0').length=H.length+(H0'.length - θ.length):=by simp [T8,Du]
  -- a place of the merged heap is one of the small heap's,or stands outside
  have place:∀ (j:Nat) b,(T8 θ H H0')[j]?=some (some b)→(j<H.length∧j ∉ θ∧H[j]?=some (some b))∨∃ i b0,i<H0'.length∧θ'.getD i 0=j∧H0'[i]?=some (some b0)∧b=K2 θ' b0:=by
    intro j b hj;have hjl:j<H.length+(H0'.length - θ.length):=by rw [←mlen];exact (List.getElem?_eq_some_iff.1 hj).1
    by_cases h1:j<H.length
    · by_cases h2:j∈θ
      · obtain ⟨i,hi,he⟩:=List.mem_iff_getElem.1 h2;have he':θ.getD i 0=j:=by simp [List.getD,hi,he]
        obtain ⟨x,hx⟩:∃ x,H0'[i]?=some x:=⟨_,List.getElem?_eq_getElem (by omega)⟩
        have:=min i x hx hi
        rw [he',hj] at this;cases x with
        | none=>simp [U4] at this
        | some b0=>
          simp [U4] at this;exact .inr ⟨i,b0,by omega,(Hv hi).trans he',hx,this⟩
      · exact .inl ⟨h1,h2,by rw [←mout j h1 h2];exact hj⟩
    · have:=mhigh (θ.length+(j - H.length)) (by omega)
      rw [show H.length+(θ.length+(j - H.length) - θ.length)=j by omega,hj] at this;obtain ⟨x,hx⟩:∃ x,H0'[θ.length+(j - H.length)]?=some x:=⟨_,List.getElem?_eq_getElem (by omega)⟩;rw [hx] at this;cases x with
      | none=>simp [U4] at this
      | some b0=>
        simp [U4] at this;exact .inr ⟨θ.length+(j - H.length),b0,by omega,by rw [show θ'.getD _ 0=_ from Yw (by omega) (by omega)];omega,hx,this⟩
  have entOf:∀ i,i<H0'.length→ρ'.rw[θ'.getD i 0]?=ρ0'.rw[i]?:=fun i hi=>hr'.1 i (by rw [hθ'];exact hi)
  -- a block that stands outside is no block of the small heap's
  have apart:∀ (j:Nat) b ej,j<H.length→j ∉ θ→H[j]?=some (some b)→ρ.rw[j]?=some (some ej)→∀ (i:Nat) ei,ρ0.rw[i]?=some (some ei)→ei.blk≠ej.blk:=by
    intro j b ej hj hn hb hej i ei hei heq;obtain ⟨hi,hei'⟩:=ents0 i ei hei;obtain ⟨x,hx⟩:∃ x,H0[i]?=some x:=⟨_,List.getElem?_eq_getElem (by omega)⟩;obtain ⟨b0,_,_,g1⟩:=hlive i x hx
    have:=hH.inj _ _ _ _ ei ej g1 hb hei' hej heq
    apply hn;rw [← this];simp only [List.getD,List.getElem?_eq_getElem hi,Option.getD_some];exact List.getElem_mem hi
  have apart':∀ (j:Nat) b ej,j<H.length→j ∉ θ→H[j]?=some (some b)→ρ.rw[j]?=some (some ej)→∀ (i:Nat) ei,ρ0'.rw[i]?=some (some ei)→ei.blk≠ej.blk:=by
    intro j b ej hj hn hb hej i ei hei heq;rcases hfr.news i ei hei with ⟨k,e2,hk,he2⟩ | hge
    · exact apart j b ej hj hn hb hej k e2 hk (he2.trans heq)
    · have:=(hH.ents j ej hej).2;omega
  refine ⟨_,cv,ρ',_,rfl,⟨v0,H0',hK,rfl,rfl⟩,hleρ,⟨?_,?_,?_,?_,?_,?_,?_⟩,?_,?_⟩
  · rw [mlen];show (ρ.rw++ρ0'.rw.drop θ.length).length=_;simp [lenρ,hH'.len]
  · exact hH'.base
  · intro j ej hj;by_cases h1:j<H.length
    · rw [low j h1] at hj
      have:=hH.ents j ej hj
      have:=hfr.size
      exact ⟨by omega,by omega⟩
    · have hj':ρ0'.rw[θ.length+(j - H.length)]?=some (some ej):=by
        change (ρ.rw++ρ0'.rw.drop θ.length)[j]?=_ at hj;rw [List.getElem?_append_right (by omega),List.getElem?_drop] at hj
        rwa [lenρ] at hj
      exact hH'.ents _ ej hj'
  · intro j b hj;rcases place j b hj with ⟨h1,h2,h3⟩ | ⟨i,b0,hi,he,hb0,rfl⟩
    · rw [low j h1];refine (hH.live j b h3).mono hleρ fun ej hej=>hfr.keep _ (hH.ents j ej hej).2 (.inr fun i ei hei=>apart j b ej h1 h2 h3 hej i ei hei)
    · rw [←he,entOf i hi];have hl:=hH'.live i b0 hb0;have hbd:=ho3 i b0 hb0;generalize ρ0'.rw[i]?=x at hl
      match x,hl with
      | some (some e),hl=>
        have hrr:isRec (K2 θ' b0)=isRec b0:=rfl;cases hr0:isRec b0 with
        | true=>
          obtain ⟨g1,r,g2,g3⟩:=hl.rec hr0;exact .ofRec (hrr.trans hr0) ⟨g1,r,g2,(fZ hr' (by rw [hθ'];exact hbd)).2 g3⟩
        | false=>
        obtain ⟨g1,cs,ty,fz,g2,g3,g4,g5,g6⟩:=hl.cs hr0;refine .of (hrr.trans hr0) ⟨g1,cs,ty,fz,g2,g3,by simpa [K2,K8] using g4,fun k v hkv=>?_,g6⟩;simp only [K2,K8,List.getElem?_map,Option.map_eq_some_iff] at hkv;obtain ⟨v1,hv1,rfl⟩:=hkv;obtain ⟨cv,q1,q2⟩:=g5 k v1 hv1
        have hbv:A8 θ'.length v1=true:=by
          rw [hθ'];rw [J8,List.all_eq_true] at hbd;exact hbd v1 (List.mem_of_getElem? hv1)
        exact ⟨cv,q1,(Ax hr' v1 cv hbv).2 q2⟩
      | some none,hl=>
        have:b0.cells=[]:=hl
        show rens θ' b0.cells=[];rw [this];simp [rens]
      | none,hl=>exact hl.elim
  · intro j k b b' e e' h1 h2 h3 h4 h5;rcases place j b h1 with ⟨g1,g2,g3⟩ | ⟨i,b0,hi,he,hb0,_⟩
    · rw [low j g1] at h3;rcases place k b' h2 with ⟨q1,q2,q3⟩ | ⟨i',b1,hi',he',hb1,_⟩
      · rw [low k q1] at h4;exact hH.inj j k b b' e e' g3 q3 h3 h4 h5
      · rw [←he',entOf i' hi'] at h4;exact absurd h5.symm (apart' j b e g1 g2 g3 h3 i' e' h4)
    · rw [←he,entOf i hi] at h3;rcases place k b' h2 with ⟨q1,q2,q3⟩ | ⟨i',b1,hi',he',hb1,_⟩
      · rw [low k q1] at h4;exact absurd h5 (apart' k b' e' q1 q2 q3 h4 i e h3)
      · rw [←he',entOf i' hi'] at h4
        have:=hH'.inj i i' b0 b1 e e' hb0 hb1 h3 h4 h5
        rw [←he,←he',this]
  · intro i b d hr;refine ⟨(hH'.ro i b d hr).1,fun j x ej h1 h2=>?_,(hH'.ro i b d hr).2.2⟩;rcases place j x h1 with ⟨g1,g2,g3⟩ | ⟨i',b0,hi,he,hb0,_⟩
    · rw [low j g1] at h2;rcases hfr.newro i b d hr with q | ⟨k,e2,hk,hke⟩ | q
      · exact (hH.ro i b d q).2.1 j x ej g3 h2
      · exact fun hb=>apart j x ej g1 g2 g3 h2 k e2 hk (hke.trans hb.symm)
      · have:=(hH.ents j ej h2).2;omega
    · rw [←he,entOf i' hi] at h2;exact (hH'.ro i b d hr).2.1 i' b0 ej hb0 h2
  · intro D hD;have hlt:=hH.df_lt hD;refine ⟨?_,fun j ej hj=>?_,fun i d hr=>?_⟩
    · rw [hfr.keep D hlt (.inr fun i e hi=>(hH.df D hD).2.1 _ e (ents0 i e hi).2)];exact (hH.df D hD).1
    · by_cases h1:j<H.length
      · rw [low j h1] at hj;exact (hH.df D hD).2.1 j ej hj
      · have hj':ρ0'.rw[θ.length+(j - H.length)]?=some (some ej):=by
          change (ρ.rw++ρ0'.rw.drop θ.length)[j]?=_ at hj;rw [List.getElem?_append_right (by omega),List.getElem?_drop] at hj
          rwa [lenρ] at hj
        rcases hfr.news _ ej hj' with ⟨k,e2,hk,he2⟩ | hge
        · rw [←he2];exact (hH.df D hD).2.1 _ e2 (ents0 k e2 hk).2
        · omega
    · rcases hfr.newro i D d hr with q | ⟨k,e2,hk,hke⟩ | q
      · exact (hH.df D hD).2.2 i d q
      · exact (hH.df D hD).2.1 _ e2 (ents0 k e2 hk).2 hke
      · omega
  · exact (Ax hr' v0 cv (by rw [hθ'];exact ho2)).2 hvr
  · refine ⟨hfr.os,hfr.tape,hfr.output,hfr.size,fun b hb hn=>hfr.keep b hb (hn.imp id fun hn i e hi=>hn _ e (ents0 i e hi).2),fun j e hj=>?_,hfr.ro,fun i b d hr=>?_,fun _ h=>.inl h⟩;by_cases h1:j<H.length
    · rw [low j h1] at hj;exact .inl ⟨j,e,hj,rfl⟩
    · have hj':ρ0'.rw[θ.length+(j - H.length)]?=some (some e):=by
        change (ρ.rw++ρ0'.rw.drop θ.length)[j]?=_ at hj;rw [List.getElem?_append_right (by omega),List.getElem?_drop] at hj
        rwa [lenρ] at hj
      rcases hfr.news _ e hj' with ⟨k,e2,hk,he2⟩ | hge
      · exact .inl ⟨_,e2,(ents0 k e2 hk).2,he2⟩
      · exact .inr hge
    · rcases hfr.newro i b d hr with q | ⟨k,e2,hk,hke⟩ | q
      · exact .inl q
      · exact .inr (.inl ⟨_,e2,(ents0 k e2 hk).2,hke⟩)
      · exact .inr (.inr q)
end Go.Am
namespace Go.Am
open Go.RowKit
def fr (n:Nat) (l:List (Nat×AV)):Fr:=(List.range n).map fun i=>((l.find? fun p=>Nat.beq p.1 i).map (·.2)).getD .undef
def B4 (fn:Func):Code:=match fn.body with | some c=>c | none=>.skip
def A5 (fn:Func) (i:Nat):Code:=(loopsOf (B4 fn)).getD i .skip
mutual
theorem Je {n:Nat}:∀ v,A8 n v=true→C1 (List.range n) v=v
 | .undef,_=>by simp [C1]
 | .bool _,_=>by simp [C1]
 | .int _ _,_=>by simp [C1]
 | .str _,_=>by simp [C1]
 | .nilp,_=>by simp [C1]
 | .nils,_=>by simp [C1]
 | .nilf,_=>by simp [C1]
 | .ptr (.rw i) off,h=>by simp only [A8,decide_eq_true_eq] at h;simp [C1,List.getD,h]
 | .ptr (.ro i) off,_=>by simp [C1]
 | .slice mb (.rw i) off len,h=>by simp only [A8,decide_eq_true_eq] at h;simp [C1,List.getD,h]
 | .slice mb (.ro i) off len,_=>by simp [C1]
 | .func f cap,h=>by simp only [A8] at h;simp only [C1,Gz cap h]
 | .agg cs,h=>by simp only [A8] at h;simp only [C1,Gz cs h]
 | .tup cs,h=>by simp only [A8] at h;simp only [C1,Gz cs h]
 | .yld i,h=>by simp only [A8,decide_eq_true_eq] at h;simp [C1,List.getD,h]
 | .rcd ..,_=>by simp [C1]
theorem Gz {n:Nat}:∀ l,A4 n l=true→rens (List.range n) l=l
 | [],_=>by simp [rens]
 | v::l,h=>by
  simp only [A4,Bool.and_eq_true] at h;simp only [rens,Je v h.1,Gz l h.2]
end
def fv (n:Nat):Fr→Fr→Prop
 | [],[]=>True
 | .undef::a,_::b=>fv n a b
 | v::a,v'::b=>(A8 n v=true∧v'=v)∧fv n a b
 | _,_=>False
theorem jE {n:Nat}:∀ (F F':Fr),fv n F F'→F.length=F'.length∧∀ (k:Nat) v,F[k]?=some v→A8 n v=true∧(v=.undef∨F'[k]?=some v)
 | [],[],_=>⟨rfl,fun k v h=>by simp at h⟩
 | [],_::_,h=>by simp [fv] at h
 | x::F,[],h=>by cases x<;>simp [fv] at h
 | x::F,y::F',h=>by
  have key:fv n F F'∧(x=.undef∨(A8 n x=true∧y=x)):=by
   cases x<;>simp only [fv] at h<;>first | exact ⟨h,.inl rfl⟩ | exact ⟨h.2,.inr h.1⟩
  obtain ⟨h1,h2⟩:=jE F F' key.1;refine ⟨by simp [h1],fun k v hk=>?_⟩;cases k with
  | zero=>
   simp at hk;subst hk;rcases key.2 with h0 | ⟨h0,h3⟩
   ·subst h0;exact ⟨by simp [A8],.inl rfl⟩
   ·exact ⟨h0,.inr (by simp [h3])⟩
  | succ k=>simpa using h2 k v (by simpa using hk)
def J5 (n:Nat):Hp→Bool
 | []=>true
 | none::H=>J5 n H
 | some b::H=>A4 n b.cells&&J5 n H
theorem Tl {n:Nat}:∀ (H:Hp),J5 n H=true→∀ (i:Nat) b,H[i]?=some (some b)→A4 n b.cells=true
 | [],_,i,b,h=>by simp at h
 | none::H,hb,i,b,h=>by
  cases i with
  | zero=>simp at h
  | succ i=>exact Tl H hb i b (by simpa using h)
 | some x::H,hb,i,b,h=>by
  simp only [J5,Bool.and_eq_true] at hb;cases i with
  | zero=>simp at h;subst h;exact hb.1
  | succ i=>exact Tl H hb.2 i b (by simpa using h)
theorem C2.same {m:Nat} {F F':Fr} {H G:Hp} (hm:m≤H.length) (hb:J5 H.length H=true) (hf:fv H.length F F'):C2 m F H F' (H++G):=by
 have hg:∀ i,i<H.length→(List.range H.length).getD i 0=i:=fun i hi=>by simp [List.getD,hi]
 obtain ⟨h1,h2⟩:=jE F F' hf;have hbs:=Tl H hb;refine ⟨List.range H.length,by simp,hm,fun i hi=>hg i (by omega),fun i hi=>?_,fun i j b b' h3 h4 he=>?_,fun i b h3=>?_,h1,fun k v hk=>?_⟩
 ·simp at hi;rw [hg i hi];simp;omega
 ·rwa [hg i (List.getElem?_eq_some_iff.1 h3).1,hg j (List.getElem?_eq_some_iff.1 h4).1] at he
 ·have hi:=(List.getElem?_eq_some_iff.1 h3).1;refine ⟨b,by rw [hg i hi,List.getElem?_append_left hi];exact h3,Nat.le_refl _,rfl,fun k v hk=>?_,fun _=>⟨rfl,?_⟩⟩
  rotate_left
  ·cases hc:b.cells with
   | nil=>rfl
   | cons x l=>
    have hbv:A8 H.length x=true:=by
     have:=hbs i b h3
     rw [J8,List.all_eq_true] at this;exact this x (by rw [hc];simp)
    simp [Je x hbv]
  have hbv:A8 H.length v=true:=by
   have:=hbs i b h3
   rw [J8,List.all_eq_true] at this;exact this v (List.mem_of_getElem? hk)
  refine ⟨by simpa using hbv,.inr ?_⟩;rw [Je v hbv];exact hk
 ·obtain ⟨g1,g2⟩:=h2 k v hk;refine ⟨by simpa using g1,?_⟩;rw [Je v g1];exact g2
theorem C2.refl {m:Nat} {F F':Fr} {H:Hp} (hm:m≤H.length) (hb:J5 H.length H=true) (hf:fv H.length F F'):C2 m F H F' H:=by
 have:=C2.same (G:=[]) hm hb hf
 simpa using this
theorem AWp.pre {C:A2} {m:Nat} {c:Code} {F F':Fr} {H H':Hp} {Q:Post} (h:AWp C m c F H Q) (hv:C2 m F H F' H'):AWp C m c F' H' Q:=by
 intro r hr ρ a w hH hF;obtain ⟨ρ1,h1,h2,h3,h4⟩:=hv.use hH hF;exact Code.wpIn_mono (fun e a w h=>AP.link h3 h4 h) (h r hr ρ1 a w h1 h2)
theorem ACalls.view {C:A2} {f:FuncId} {args:List AV} {H:Hp} {K K':AV→Hp→Prop} (h:ACalls C f args H K) (hk:∀ v H',K v H'→∃ v' H'',K' v' H''∧C2 H.length [v'] H'' [v] H'):ACalls C f args H K':=by
 refine ⟨h.1,fun ρ w cargs hH hv=>(h.2 ρ w cargs hH hv).mono ?_⟩;rintro e w' ⟨v,cv,ρ',H',rfl,h2,h3,h4,h5,h6⟩;obtain ⟨v',H'',g1,g2⟩:=hk v H' h2
 obtain ⟨ρ2,q1,q2,q3,q4,q5⟩:=g2.use' (a:=⟨#[cv],[]⟩) h4 ⟨⟨[],rfl,List.nodup_nil,fun _ h=>by simp at h⟩,rfl,fun i x hx=>by
  cases i with
  | zero=>simp at hx;subst hx;simpa using h5
  | succ i=>simp at hx⟩
 refine ⟨v',cv,ρ2,H'',rfl,g1,?_,q1,by have:=q2.val 0 v' rfl;simpa using this,h6.trans q4⟩;refine ⟨fun i x hx=>?_,?_,fun D hD=>by rw [q5];exact h3.3 D hD⟩
 ·have hi:i<ρ.rw.length:=(List.getElem?_eq_some_iff.1 hx).1;rw [q3 i (by rw [←hH.len];exact hi)];exact h3.1 i x hx
 ·exact fun i b d h=>q4.ro i b d (h3.2 i b d h)
theorem tD {C:A2} {f:FuncId} {args:List AV} {ro:Nat→Nat→Nat→Prop} {W:World} {cargs:Array Value} (hB:C.B=W.heap.size)
  (hro:∀ (i b d:Nat),ro i b d→b<W.heap.size∧∀ (k:Nat) v,(C.G i)[k]?=some v→∃ cv,W.cell? ⟨b,d+k,none⟩=some cv∧VR ⟨[],ro,[]⟩ v cv)
  (hv:VRs ⟨[],ro,[]⟩ args cargs.toList) (h:ACalls C f args [] fun v _=>v=.bool true) :
  Calls C.P f cargs W fun e w'=>e=.returned (.bool true)∧Below W.heap.size W w':=by
 have hH:B0 C ⟨[],ro,[]⟩ [] W:=⟨rfl,by omega,fun i e h=>by simp at h,fun i b h=>by simp at h,fun i j b b' e e' h=>by simp at h,fun i b d h=>⟨(hro i b d h).1,fun j x e h=>by simp at h,(hro i b d h).2⟩,fun D h=>by simp at h⟩
 have:=h.2 ⟨[],ro,[]⟩ W cargs.toList hH hv
 simp only [Array.toArray_toList] at this;refine this.mono ?_;rintro e w' ⟨v,cv,ρ',H',rfl,rfl,_,_,h5,h6⟩;simp only [VR] at h5;subst h5;exact ⟨rfl,h6.os,h6.tape,h6.output,h6.size,fun k hk=>h6.keep k hk (.inr fun i e h=>by simp at h)⟩
end Go.Am
namespace Go.Am
open Go.RowKit
abbrev Sig:=Nat→Ref×Nat
mutual
def sb (σ:Sig) (n:Nat):AV→AV
 | .ptr (.ro k) o=>.ptr (σ k).1 ((σ k).2+o)
 | .ptr (.rw i) o=>.ptr (.rw (n+i)) o
 | .slice mb (.ro k) o len=>.slice mb (σ k).1 ((σ k).2+o) len
 | .slice mb (.rw i) o len=>.slice mb (.rw (n+i)) o len
 | .func f cap=>.func f (sbs σ n cap)
 | .agg cs=>.agg (sbs σ n cs)
 | .tup vs=>.tup (sbs σ n vs)
 | .yld i=>.yld (n+i)
 | v=>v
def sbs (σ:Sig) (n:Nat):List AV→List AV
 | []=>[]
 | v::vs=>sb σ n v::sbs σ n vs
end
mutual
/-- no block of the call's own -/
def E6:AV→Bool
 | .ptr (.rw _) _=>false
 | .slice _ (.rw _) _ _=>false
 | .func _ cap=>I4 cap
 | .agg cs=>I4 cs
 | .tup vs=>I4 vs
 | .yld _=>false
 | _=>true
def I4:List AV→Bool
 | []=>true
 | v::vs=>E6 v&&I4 vs
end
mutual
/-- nothing of what was there -/
def O0:AV→Bool
 | .ptr (.ro _) _=>false
 | .slice _ (.ro _) _ _=>false
 | .func _ cap=>O9 cap
 | .agg cs=>O9 cs
 | .tup vs=>O9 vs
 | _=>true
def O9:List AV→Bool
 | []=>true
 | v::vs=>O0 v&&O9 vs
end
theorem Mt:∀ l,I4 l=l.all E6
 | []=>by simp [I4]
 | v::l=>by simp [I4,Mt l]
def Gq (σ:Sig) (ρ:Env) (k b d:Nat):Prop:=
 match (σ k).1 with
 | .rw i=>∃ e,ρ.rw[i]?=some (some e)∧b=e.blk∧d=(σ k).2
 | .ro i=>∃ d0,ρ.ro i b d0∧d=d0+(σ k).2
theorem zC {σ:Sig} {ρ:Env} {k o:Nat} {v:Value} (h:P9 ρ (σ k).1 ((σ k).2+o) v):P9 ⟨[],Gq σ ρ,[]⟩ (.ro k) o v:=by
 unfold P9 at h ⊢;simp only [Gq]
 revert h
 cases (σ k).1 with
 | rw i=>
  rintro ⟨e,h1,h2⟩;exact ⟨e.blk,(σ k).2,⟨e,h1,rfl,rfl⟩,h2⟩
 | ro i=>
  rintro ⟨b,d,h1,h2⟩;exact ⟨b,d+(σ k).2,⟨d,h1,rfl⟩,by rw [h2,Nat.add_assoc]⟩
theorem qE {σ:Sig} {ρ:Env} {mb:Bool} {k o len:Nat} {v:Value} (h:N4 ρ mb (σ k).1 ((σ k).2+o) len v):N4 ⟨[],Gq σ ρ,[]⟩ mb (.ro k) o len v:=by
 obtain ⟨ca,cap,hv,hl,hc⟩:=h;refine ⟨ca,cap,hv,hl,?_⟩;rcases hc with hc | hc | hc
 ·exact .inl hc
 ·exact .inr (.inl hc)
 ·refine .inr (.inr ?_);simp only [Gq]
  revert hc
  cases (σ k).1 with
  | rw i=>
   rintro ⟨e,h1,h2,_⟩;exact ⟨e.blk,(σ k).2,⟨e,h1,rfl,rfl⟩,h2⟩
  | ro i=>
   rintro ⟨b,d,h1,h2⟩;exact ⟨b,d+(σ k).2,⟨d,h1,rfl⟩,by rw [h2,Nat.add_assoc]⟩
mutual
theorem mF {σ:Sig} {n:Nat} {ρ:Env}:∀ (v:AV) (cv:Value),E6 v=true→VR ρ (sb σ n v) cv→VR ⟨[],Gq σ ρ,[]⟩ v cv
 | .undef,_,_,_=>by simp [VR]
 | .bool _,_,_,h=>by simpa [sb,VR] using h
 | .int _ _,_,_,h=>by simpa [sb,VR] using h
 | .str _,_,_,h=>by simpa [sb,VR] using h
 | .nilp,_,_,h=>by simpa [sb,VR] using h
 | .nils,_,_,h=>by simpa [sb,VR] using h
 | .nilf,_,_,h=>by simpa [sb,VR] using h
 | .ptr (.rw i) off,_,hb,_=>by simp [E6] at hb
 | .ptr (.ro i) off,cv,_,h=>by simp only [sb,VR] at h ⊢;exact zC h
 | .slice mb (.rw i) off len,_,hb,_=>by simp [E6] at hb
 | .slice mb (.ro i) off len,cv,_,h=>by simp only [sb,VR] at h ⊢;exact qE h
 | .func f cap,cv,hb,h=>by
  simp only [E6] at hb;simp only [sb,VR] at h ⊢;obtain ⟨cs,e,hs⟩:=h;exact ⟨cs,e,Ma cap _ hb hs⟩
 | .agg cap,cv,hb,h=>by
  simp only [E6] at hb;simp only [sb,VR] at h ⊢;obtain ⟨cs,e,hs⟩:=h;exact ⟨cs,e,Ma cap _ hb hs⟩
 | .tup cap,cv,hb,h=>by
  simp only [E6] at hb;simp only [sb,VR] at h ⊢;obtain ⟨cs,e,hs⟩:=h;exact ⟨cs,e,Ma cap _ hb hs⟩
 | .yld i,cv,hb,h=>by simp [E6] at hb
 | .rcd ..,cv,_,h=>by simp only [sb,VR] at h
theorem Ma {σ:Sig} {n:Nat} {ρ:Env}:∀ (l:List AV) (cl:List Value),I4 l=true→VRs ρ (sbs σ n l) cl→VRs ⟨[],Gq σ ρ,[]⟩ l cl
 | [],_,_,h=>by simpa [sbs,VRs] using h
 | v::l,cl,hb,h=>by
  simp only [I4,Bool.and_eq_true] at hb;simp only [sbs,VRs] at h ⊢;obtain ⟨x,xs,e,h1,h2⟩:=h;exact ⟨x,xs,e,mF v x hb.1 h1,Ma l xs hb.2 h2⟩
end
mutual
theorem qD {σ:Sig} {n:Nat} {ρ0 ρ:Env} (h:∀ (i:Nat) e,ρ0.rw[i]?=some e→ρ.rw[n+i]?=some e):∀ (v:AV) (cv:Value),O0 v=true→VR ρ0 v cv→VR ρ (sb σ n v) cv
 | .undef,_,_,_=>by simp [sb,VR]
 | .bool _,_,_,h=>by simpa [sb,VR] using h
 | .int _ _,_,_,h=>by simpa [sb,VR] using h
 | .str _,_,_,h=>by simpa [sb,VR] using h
 | .nilp,_,_,h=>by simpa [sb,VR] using h
 | .nils,_,_,h=>by simpa [sb,VR] using h
 | .nilf,_,_,h=>by simpa [sb,VR] using h
 | .ptr (.ro i) off,_,hb,_=>by simp [O0] at hb
 | .ptr (.rw i) off,cv,_,hv=>by
  simp only [sb,VR] at hv ⊢;obtain ⟨e,h1,h2⟩:=hv;exact ⟨e,h i _ h1,h2⟩
 | .slice mb (.ro i) off len,_,hb,_=>by simp [O0] at hb
 | .slice mb (.rw i) off len,cv,_,hv=>by
  simp only [sb,VR] at hv ⊢;obtain ⟨ca,cap,hv,hl,hc⟩:=hv;refine ⟨ca,cap,hv,hl,?_⟩;rcases hc with hc | hc | ⟨e,h1,h2⟩
  ·exact .inl hc
  ·exact .inr (.inl hc)
  ·exact .inr (.inr ⟨e,h i _ h1,h2⟩)
 | .func f cap,cv,hb,hv=>by
  simp only [O0] at hb;simp only [sb,VR] at hv ⊢;obtain ⟨cs,e,hs⟩:=hv;exact ⟨cs,e,Sb h cap _ hb hs⟩
 | .agg cap,cv,hb,hv=>by
  simp only [O0] at hb;simp only [sb,VR] at hv ⊢;obtain ⟨cs,e,hs⟩:=hv;exact ⟨cs,e,Sb h cap _ hb hs⟩
 | .tup cap,cv,hb,hv=>by
  simp only [O0] at hb;simp only [sb,VR] at hv ⊢;obtain ⟨cs,e,hs⟩:=hv;exact ⟨cs,e,Sb h cap _ hb hs⟩
 | .yld i,cv,_,hv=>by
  simp only [sb,VR] at hv ⊢;obtain ⟨e,h1,h2⟩:=hv;exact ⟨e,h i _ h1,h2⟩
 | .rcd ..,cv,_,h=>by simp only [VR] at h
theorem Sb {σ:Sig} {n:Nat} {ρ0 ρ:Env} (h:∀ (i:Nat) e,ρ0.rw[i]?=some e→ρ.rw[n+i]?=some e):∀ (l:List AV) (cl:List Value),O9 l=true→VRs ρ0 l cl→VRs ρ (sbs σ n l) cl
 | [],_,_,h=>by simpa [sbs,VRs] using h
 | v::l,cl,hb,hv=>by
  simp only [O9,Bool.and_eq_true] at hb;simp only [sbs,VRs] at hv ⊢;obtain ⟨x,xs,e,h1,h2⟩:=hv;exact ⟨x,xs,e,qD h v x hb.1 h1,Sb h l xs hb.2 h2⟩
end
def mH (C:A2) (H:Hp) (σ:Sig) (G:Nat→List AV):Prop:=
 ∀ k,G k=[]∨∃ cs,D0 C H (σ k).1=some cs∧∀ (j:Nat) v,(G k)[j]?=some v→E6 v=true∧cs[(σ k).2+j]?=some (sb σ 0 v)
theorem tQ {C:A2} {H:Hp} {σ:Sig} {G:Nat→List AV} (hs:mH C H σ G) {ρ:Env} {w:World} (hH:B0 C ρ H w):B0 ⟨C.P,G,w.heap.size⟩ ⟨[],Gq σ ρ,[]⟩ [] w:=by
 refine ⟨rfl,Nat.le_refl _,fun i e h=>by simp at h,fun i b h=>by simp at h,fun i j b b' e e' h=>by simp at h,fun i b d hr=>?_,fun D h=>by simp at h⟩
 have key:b<w.heap.size∧P9 ρ (σ i).1 (σ i).2 (.pointer (some ⟨b,d,none⟩)):=by
  simp only [Gq] at hr
  revert hr
  simp only [P9];cases (σ i).1 with
  | rw j=>
   rintro ⟨e,h1,rfl,rfl⟩;exact ⟨(hH.ents j e h1).2,e,h1,rfl⟩
  | ro j=>
   rintro ⟨d0,h1,rfl⟩;exact ⟨(hH.ro j b d0 h1).1,b,d0,h1,rfl⟩
 refine ⟨key.1,fun j x e h=>by simp at h,fun k v hv=>?_⟩;rcases hs i with h0 | ⟨cs,h1,h2⟩
 ·have hv':(G i)[k]?=some v:=hv;rw [h0] at hv';simp at hv'
 ·obtain ⟨h3,h4⟩:=h2 k v hv;obtain ⟨cv,q1,q2⟩:=Rx hH h1 key.2 h4;exact ⟨cv,by rw [←q1];congr 1;by_cases hk:k=0<;>simp [Addr.add,hk],mF (n:=0) v cv h3 q2⟩
mutual
theorem Qu {σ:Sig}:∀ v,O0 v=true→sb σ 0 v=v
 | .undef,_=>by simp [sb]
 | .bool _,_=>by simp [sb]
 | .int _ _,_=>by simp [sb]
 | .str _,_=>by simp [sb]
 | .nilp,_=>by simp [sb]
 | .nils,_=>by simp [sb]
 | .nilf,_=>by simp [sb]
 | .ptr (.ro i) off,h=>by simp [O0] at h
 | .ptr (.rw i) off,_=>by simp [sb]
 | .slice mb (.ro i) off len,h=>by simp [O0] at h
 | .slice mb (.rw i) off len,_=>by simp [sb]
 | .func f cap,h=>by simp only [O0] at h;simp only [sb,Ie cap h]
 | .agg cs,h=>by simp only [O0] at h;simp only [sb,Ie cs h]
 | .tup cs,h=>by simp only [O0] at h;simp only [sb,Ie cs h]
 | .yld i,_=>by simp [sb]
 | .rcd ..,_=>by simp [sb]
theorem Ie {σ:Sig}:∀ l,O9 l=true→sbs σ 0 l=l
 | [],_=>by simp [sbs]
 | v::l,h=>by
  simp only [O9,Bool.and_eq_true] at h;simp only [sbs,Qu v h.1,Ie l h.2]
end
theorem jV {v:AV} {cv:Value} (hb:A8 0 v=true) (hn:O0 v=true) {ρ ρ':Env} (hv:VR ρ v cv):VR ρ' v cv:=by
 have h1:=(Ax (θ:=[]) (ρ0:=⟨[],ρ.ro,[]⟩) (ρ:=ρ) ⟨fun i hi=>by simp at hi,rfl⟩ v cv hb).1 (by rw [Es [] v hb];exact hv);have h2:=qD (σ:=fun _=>(.rw 0,0)) (n:=0) (ρ0:=⟨[],ρ.ro,[]⟩) (ρ:=⟨[],ρ'.ro,[]⟩) (fun i e he=>by simp at he) v cv hn h1;have h3:=(Ax (θ:=[]) (ρ0:=⟨[],ρ'.ro,[]⟩) (ρ:=ρ') ⟨fun i hi=>by simp at hi,rfl⟩ v cv hb).2;rw [Es [] v hb] at h3;rw [Qu v hn] at h2;exact h3 h2
theorem Xi {C:A2} {H:Hp} {σ:Sig} {G:Nat→List AV} {f:FuncId} {args0 args:List AV} {R:AV→Prop} (hs:mH C H σ G) (h:∀ B,ACalls ⟨C.P,G,B⟩ f args0 [] fun v _=>R v)
  (ha:I4 args0=true) (he:args=sbs σ 0 args0) (hR:∀ v,R v→A8 0 v=true∧O0 v=true):ACalls C f args H fun v H'=>R v∧H'=H:=by
 refine ⟨(h 0).1,fun ρ w cargs hH hv=>?_⟩;subst he;refine ((h w.heap.size).2 ⟨[],Gq σ ρ,[]⟩ w cargs (tQ hs hH) (Ma args0 cargs ha hv)).mono ?_;rintro e w' ⟨v,cv,ρ',H',rfl,h2,h3,h4,h5,h6⟩;obtain ⟨hb,hn⟩:=hR v h2;have hkeep:∀ b,b<w.heap.size→w'.heap[b]?=w.heap[b]?:=fun b hb=>h6.keep b hb (.inr fun i e h=>by simp at h);refine ⟨v,cv,ρ,H,rfl,⟨h2,rfl⟩,Env.le_refl ρ,?_,?_,?_⟩
 ·refine ⟨hH.len,Nat.le_trans hH.base h6.size,fun i e he=>⟨(hH.ents i e he).1,Nat.lt_of_lt_of_le (hH.ents i e he).2 h6.size⟩,fun i b hb=>?_,hH.inj,fun i b d hr=>?_,fun D hD=>⟨(hkeep D (hH.df_lt hD)).trans (hH.df D hD).1,(hH.df D hD).2⟩⟩
  ·exact (hH.live i b hb).mono (Env.le_refl ρ) fun e he=>hkeep _ (hH.ents i e he).2
  ·obtain ⟨g1,g2,g3⟩:=hH.ro i b d hr;refine ⟨Nat.lt_of_lt_of_le g1 h6.size,g2,fun k v hv=>?_⟩;obtain ⟨cv,g4,g5⟩:=g3 k v hv;refine ⟨cv,?_,g5⟩;rw [←g4];simp only [World.cell?,hkeep b g1]
 ·exact jV hb hn h5
 ·exact ⟨h6.os,h6.tape,h6.output,h6.size,fun b hb _=>hkeep b hb,fun i e he=>.inl ⟨i,e,he,rfl⟩,fun _ _ _ h=>h,fun _ _ _ h=>.inl h,fun _ h=>.inl h⟩
end Go.Am
namespace Go.Am
open Go.RowKit
def fl (N:Nat) (live:List Nat) (vs:List AV):Fr:=fr N (live.zip vs)
def Cy (live:List Nat) (F:Fr):List AV:=live.map fun i=>F.getD i .undef
def lv (N:Nat) (live:List Nat) (Q:Ex→List AV→Hp→Prop):Post:=fun e F H=>chk (Nat.beq F.length N) (Q e (Cy live F) H)
theorem Au {c:Bool} {K:Prop} (h:chk c K):c=true∧K:=by cases c;exact h.elim;exact ⟨rfl,h⟩
theorem Df {N:Nat} {live:List Nat} {vs:List AV}:(fl N live vs).length=N:=by simp [fl,fr]
theorem fB {i i':Nat} {v:AV}:∀ {live:List Nat} {vs:List AV},((live.zip vs).find? fun p=>Nat.beq p.1 i)=some (i',v)→∃ j:Nat,live[j]?=some i∧vs[j]?=some v∧i'=i
 | [],vs,h=>by simp at h
 | x::live,[],h=>by simp at h
 | x::live,y::vs,h=>by
  simp only [List.zip_cons_cons,List.find?_cons] at h;split at h
  ·rename_i hx;simp at h;exact ⟨0,by simp [Nat.eq_of_beq_eq_true hx],by simp [h.2],by rw [←h.1];exact Nat.eq_of_beq_eq_true hx⟩
  ·obtain ⟨j,h1,h2,h3⟩:=fB h;exact ⟨j+1,by simpa using h1,by simpa using h2,h3⟩
theorem eZ {N:Nat} {live:List Nat} {vs:List AV} {i:Nat} {v:AV} (h:(fl N live vs)[i]?=some v):v=.undef∨∃ j:Nat,live[j]?=some i∧vs[j]?=some v:=by
 simp only [fl,fr,List.getElem?_map] at h;obtain ⟨k,hk,rfl⟩:=Option.map_eq_some_iff.1 h
 have hki:k=i:=by
  have:=List.getElem?_eq_some_iff.1 hk
  obtain ⟨h1,h2⟩:=this;simp at h2;exact h2.symm
 subst hki;cases hf:(live.zip vs).find? fun p=>Nat.beq p.1 k with
 | none=>exact .inl (by simp)
 | some p=>
  obtain ⟨i',v⟩:=p;obtain ⟨j,h1,h2,_⟩:=fB hf;exact .inr ⟨j,h1,by simp [h2]⟩
abbrev Nod (ρ:Env) (a:Act):Prop:=∃ ds:List Nat,a.defers=ds.map (fun D=>{ target:=.collected D,args:=#[] })∧ds.Nodup∧∀ D∈ds,D∈ρ.dfs
theorem Nod.nil {ρ:Env} {t:Array Value}:Nod ρ ⟨t,[]⟩:=⟨[],rfl,List.nodup_nil,fun _ h=>by simp at h⟩
theorem Vx {N:Nat} {live:List Nat} {vs:List AV} {ρ:Env} {a:Act} (hd:Nod ρ a) (hN:a.tmps.size=N) (h:∀ (j i:Nat) v,live[j]?=some i→vs[j]?=some v→VR ρ v (a.tmps.getD i undef)):D5 ρ (fl N live vs) a:=by
 refine ⟨hd,by rw [Df,hN],fun i v hv=>?_⟩;rcases eZ hv with rfl | ⟨j,h1,h2⟩
 ·simp [VR]
 ·exact h j i v h1 h2
theorem Ou {N:Nat} {live:List Nat} {F:Fr} {ρ:Env} {a:Act} (h:D5 ρ F a) (hN:F.length=N):D5 ρ (fl N live (Cy live F)) a:=by
 refine Vx h.nod (by rw [←h.len,hN]) fun j i v h1 h2=>?_;simp only [Cy,List.getElem?_map,h1,Option.map_some,Option.some.injEq] at h2;subst h2;by_cases hi:i<F.length
 ·exact h.val i _ (by simp [List.getD,hi])
 ·simp [List.getD,hi,VR]
theorem AWp.rd {C:A2} {m:Nat} {c:Code} {F:Fr} {H:Hp} {Q:Post} {N:Nat} (live:List Nat) (hN:F.length=N) (h:AWp C m c (fl N live (Cy live F)) H Q):AWp C m c F H Q:=
 fun r hr ρ a w hH hF=>h r hr ρ a w hH (Ou hF hN)
theorem AWp.lvd {C:A2} {m:Nat} {c:Code} {F:Fr} {H:Hp} {N:Nat} {live:List Nat} {Q:Ex→List AV→Hp→Prop} {Q':Post} (h:AWp C m c F H (lv N live Q)) (hq:∀ e vs H',Q e vs H'→Q' e (fl N live vs) H'):AWp C m c F H Q':=by
 intro r hr ρ a w hH hF;refine Code.wpIn_mono ?_ (h r hr ρ a w hH hF);rintro e a' w' ⟨ae,ρ',F',H',rfl,h2,h3,h4,h5,h6⟩;obtain ⟨h7,h8⟩:=Au h2;exact ⟨ae,ρ',_,H',rfl,hq _ _ _ h8,h3,h4,Ou h5 (Nat.eq_of_beq_eq_true h7),h6⟩
theorem C2.live {C:A2} {m:Nat} {N:Nat} {live:List Nat} {vs vs':List AV} {H H':Hp} (hv:C2 m vs H vs' H') {ρ':Env} {a:Act} {w:World} (hH:B0 C ρ' H' w) (hd:Nod ρ' a) (hN:a.tmps.size=N)
  (hl:vs'.length=live.length) (hF:∀ (j i:Nat) v,live[j]?=some i→vs'[j]?=some v→VR ρ' v (a.tmps.getD i undef)) :
  ∃ ρ,B0 C ρ H w∧D5 ρ (fl N live vs) a∧N5 m ρ' ρ∧Frm ρ' w ρ w:=by
 have hF1:D5 ρ' vs' ⟨(live.map fun i=>a.tmps.getD i undef).toArray,[]⟩:=by
  refine ⟨Nod.nil,by simp [hl],fun j v hj=>?_⟩;have hjl:j<live.length:=by rw [←hl];exact (List.getElem?_eq_some_iff.1 hj).1
  have:=hF j live[j] v (List.getElem?_eq_getElem hjl) hj
  simpa [Array.getD_eq_getD_getElem?,hjl] using this
 obtain ⟨ρ,g1,g2,g3,g4,g5⟩:=hv.use' hH hF1;refine ⟨ρ,g1,Vx (let ⟨ds,d1,d2,d3⟩:=hd;⟨ds,d1,d2,fun D hD=>by rw [g5];exact d3 D hD⟩) hN fun j i v h1 h2=>?_,g3,g4⟩
 have:=g2.val j v h2
 simpa [Array.getD_eq_getD_getElem?,h1] using this
theorem U8 {C:A2} {m:Nat} {c:Code} {N:Nat} {live:List Nat} {vs:List AV} {H:Hp} {Q:Ex→List AV→Hp→Prop} (I:Nat→List AV→Hp→Prop) (k0:Nat) (h0:I k0 vs H)
  (round:∀ k vs H,I k vs H→AWp C m c (fl N live vs) H (lv N live fun e vs' H'=>match e with
   | .normal=>∃ k',k'<k∧(I k' vs' H'∨∃ vs'' H'',I k' vs'' H''∧C2 m vs'' H'' vs' H')
   | e=>Q e vs' H')):AWp C m (.loop c) (fl N live vs) H (lv N live Q):=by
 intro r hr ρ a w hH hF;refine wpIn_loop_ghost (fun n a' w'=>∃ ρ' vs' H',I n vs' H'∧B0 C ρ' H' w'∧D5 ρ' (fl N live vs') a'∧N5 m ρ ρ'∧Frm ρ w ρ' w') k0 ⟨ρ,vs,H,h0,hH,hF,N5.refl m ρ,Frm.refl ρ w⟩ ?_;rintro n a1 w1 ⟨ρ1,F1,H1,hI,hH1,hF1,hp1,hf1⟩;refine Code.wpIn_mono ?_ (round n F1 H1 hI r (dN hr) ρ1 a1 w1 hH1 hF1);rintro e a2 w2 ⟨ae,ρ2,F2,H2,rfl,h2,h3,h4,h5,h6⟩;obtain ⟨h7,h8⟩:=Au h2;have hN:F2.length=N:=Nat.eq_of_beq_eq_true h7;have hF2:=Ou (live:=live) h5 hN;cases ae with
 | normal=>
  obtain ⟨n',hlt,hi | ⟨vs'',H'',hI',hv⟩⟩:=h8
  ·exact ⟨n',hlt,ρ2,_,H2,hi,h4,hF2,hp1.trans h3,hf1.trans h6⟩
  ·obtain ⟨ρ3,g1,g2,g3,g4⟩:=hv.live (N:=N) (live:=live) (a:=a2) h4 h5.nod (by rw [←h5.len,hN]) (by simp [Cy]) fun j i v q1 q2=>by
    simp only [Cy,List.getElem?_map,q1,Option.map_some,Option.some.injEq] at q2;subst q2;by_cases hi:i<F2.length
    ·exact h5.val i _ (by simp [List.getD,hi])
    ·simp [List.getD,hi,VR]
   exact ⟨n',hlt,ρ3,vs'',H'',hI',g1,g2,(hp1.trans h3).trans g3,(hf1.trans h6).trans g4⟩
 | exit i=>exact ⟨.exit i,ρ2,_,H2,rfl,by simp only [lv];rw [show F2.length.beq N=true from h7];exact h8,hp1.trans h3,h4,h5,hf1.trans h6⟩
 | ret=>exact ⟨.ret,ρ2,_,H2,rfl,by simp only [lv];rw [show F2.length.beq N=true from h7];exact h8,hp1.trans h3,h4,h5,hf1.trans h6⟩
def Ph (N:Nat) (live:List Nat) (S:List AV→Hp→Option (Bool×Ex×List AV×Hp)) (F:Fr) (H:Hp):Option (Bool×Ex×Fr×Hp):=
 match S (Cy live F) H with
 | some (c,e,vs,H')=>match Nat.beq F.length N with
  | true=>some (c,e,fl N live vs,H')
  | false=>none
 | none=>none
def wk:List AV→List AV→Prop
 | [],[]=>True
 | .undef::a,_::b=>wk a b
 | x::a,y::b=>y=x∧wk a b
 | _,_=>False
theorem Uc:∀ {a b:List AV},wk a b→∀ (j:Nat) v,a[j]?=some v→v=.undef∨b[j]?=some v
 | [],b,_,j,v,h=>by simp at h
 | x::a,[],hw,j,v,h=>by cases x<;>simp [wk] at hw
 | x::a,y::b,hw,j,v,h=>by
  have key:(x=.undef∨y=x)∧wk a b:=by
   cases x<;>simp only [wk] at hw<;>first | exact ⟨.inl rfl,hw⟩ | exact ⟨.inr hw.1,hw.2⟩
  cases j with
  | zero=>
   simp at h;subst h;rcases key.1 with h0 | h0
   ·exact .inl h0
   ·exact .inr (by simp [h0])
  | succ j=>simpa using Uc key.2 j v (by simpa using h)
theorem Ks:∀ (a:List AV),wk a a
 | []=>trivial
 | x::a=>by cases x<;>first | exact Ks a | exact ⟨rfl,Ks a⟩
theorem mR {N:Nat} {live:List Nat} {vs:List AV} {F:Fr} {ρ:Env} {a:Act} (h:D5 ρ F a) (hN:F.length=N) (hw:wk vs (Cy live F)):D5 ρ (fl N live vs) a:=by
 refine Vx h.nod (by rw [←h.len,hN]) fun j i v h1 h2=>?_;rcases Uc hw j v h2 with rfl | h2
 ·simp [VR]
 simp only [Cy,List.getElem?_map,h1,Option.map_some,Option.some.injEq] at h2;subst h2;by_cases hi:i<F.length
 ·exact h.val i _ (by simp [List.getD,hi])
 ·simp [List.getD,hi,VR]
theorem Vm {C:A2} {m:Nat} {c:Code} {N:Nat} {live:List Nat} {S:List AV→Hp→Option (Bool×Ex×List AV×Hp)} {F:Fr} {H:Hp} {e:Ex} {F':Fr} {H':Hp}
  (hS:∀ vs H e vs' H',S vs H=some (true,e,vs',H')→AWp C m c (fl N live vs) H (lv N live fun e' vs'' H''=>e'=e∧wk vs' vs''∧H''=H')) (h:Ph N live S F H=some (true,e,F',H')) :
  AWp C m c F H fun e' F'' H''=>e'=e∧F''=F'∧H''=H':=by
 unfold Ph at h;split at h
 ·rename_i b ae vs H2 hs;split at h
  rotate_left
  ·simp at h
  rename_i hN;simp only [Option.some.injEq,Prod.mk.injEq] at h;obtain ⟨rfl,rfl,rfl,rfl⟩:=h;refine AWp.rd live (Nat.eq_of_beq_eq_true hN) ?_;intro r hr ρ a w hH hF;refine Code.wpIn_mono ?_ (hS _ _ _ _ _ hs r hr ρ a w hH hF);rintro e a' w' ⟨ae,ρ',F',H',rfl,h2,h3,h4,h5,h6⟩;obtain ⟨h7,h8,h9,h10⟩:=Au h2;exact ⟨ae,ρ',_,H',rfl,⟨h8,rfl,h10⟩,h3,h4,mR h5 (Nat.eq_of_beq_eq_true h7) h9,h6⟩
 ·simp at h
theorem AWp.lmono {C:A2} {m:Nat} {c:Code} {F:Fr} {H:Hp} {N:Nat} {live:List Nat} {Q Q':Ex→List AV→Hp→Prop} (h:AWp C m c F H (lv N live Q)) (hq:∀ e vs H',Q e vs H'→Q' e vs H'):AWp C m c F H (lv N live Q'):=
 h.mono fun e F' H' h=>by
  obtain ⟨h1,h2⟩:=Au h;simp only [lv,h1];exact hq _ _ _ h2
def Nj:Code→Option Nat
 | .exit i=>some i
 | .seq a b=>match Nj a with | some i=>some i | none=>Nj b
 | .cond _ a b=>match Nj a with | some i=>some i | none=>Nj b
 | .block _ c=>Nj c
 | .scope c=>Nj c
 | _=>none
abbrev Sums:=FuncId→List AV→Hp→Option (Bool×AV×List Hop)
abbrev Loops:=Code→Fr→Hp→Option (Bool×Ex×Fr×Hp)
def Kl (C:A2) (sum:Sums) (loop:Loops):Cfg:=
 { C:=C,inl:=fun _=>false,strict:=.lazy,unr:=false,sum:=sum,loop:=loop,M:=0 }
def Kn (C:A2) (sum:Sums) (loop:Loops):Cfg:=
 { C:=C,inl:=fun _=>false,strict:=.lazy,unr:=false,nm:=true,sum:=sum,loop:=loop,M:=0 }
def noSum:Sums:=fun _ _ _=>none
def noLoop:Loops:=fun _ _ _=>none
def Ca (C:A2) (sum:Sums):Prop:=∀ f args H v hs,sum f args H=some (true,v,hs)→ACalls C f args H fun v' H'=>v'=v∧H'=acts H hs
def M0 (C:A2) (lps:List Code) (loop:Loops):Prop:=∀ c F H e F' H',c∈lps→loop c F H=some (true,e,F',H')→AWp C 0 (.loop c) F H fun e' F'' H''=>e'=e∧F''=F'∧H''=H'
theorem Ey (C:A2):Ca C noSum:=fun _ _ _ _ _ h=>by simp [noSum] at h
theorem Jn (C:A2) (lps:List Code):M0 C lps noLoop:=fun _ _ _ _ _ _ _ h=>by simp [noLoop] at h
theorem vX {C:A2} {lps:List Code} {sum:Sums} {loop:Loops} (hm:C.P.follows .mixedOrders=true) (hs:Ca C sum) (hl:M0 C lps loop):Ei (Kl C sum loop) lps:=by
 refine ⟨hm,hs,fun m c F H e F' H' h1 h2 h3=>?_⟩
 have:m=0:=Nat.le_zero.1 h1
 subst this;exact hl c F H e F' H' h2 h3
theorem vF {C:A2} {sum:Sums} {loop:Loops} {lps:List Code}:(Kl C sum loop).unr=false→∀ f fn c,(Kl C sum loop).inl f=true→(Kl C sum loop).C.P.funcs[f]?=some fn→fn.body=some c→∀ b∈loopsOf c,b∈lps:=fun _ _ _ _ h=>by cases h
theorem vU {C:A2} {lps:List Code} {sum:Sums} {loop:Loops} (hm:C.P.follows .mixedOrders=true) (hs:Ca C sum) (hl:M0 C lps loop):Ei (Kn C sum loop) lps:=by
 refine ⟨hm,hs,fun m c F H e F' H' h1 h2 h3=>?_⟩
 have:m=0:=Nat.le_zero.1 h1
 subst this;exact hl c F H e F' H' h2 h3
theorem wpn {C:A2} {sum:Sums} {loop:Loops} (hm:C.P.follows .mixedOrders=true) (hs:Ca C sum) {c:Code} (hl:M0 C (loopsOf c) loop) (n:Nat) {F:Fr} {H:Hp} {Q:Post} (h:vc (Kn C sum loop) n 0 (.code c) F H Q):AWp C 0 c F H Q:=
 wp_of_vc (K:=Kn C sum loop) (vU hm hs hl) (fun _ _ _ _ h=>by cases h) n (Nat.zero_le _) (fun _ _ h=>h) h
theorem lZ {C : A2} {sum : Sums} {loop : Loops} (hm : C.P.follows .mixedOrders = true) (hs : Ca C sum) {f : FuncId} {fn : Func} {c : Code} (hf : C.P.funcs[f]? = some fn) (hb : fn.body = some c) (hn : (fn.name == "runtime.NumGoroutine") = false)
  (hl:M0 C (loopsOf c) loop) (n:Nat) {args:List AV} {Q:AV→Hp→Prop} (h:vc (Kn C sum loop) n 0 (.code c) (J1 fn args) [] (J6 C fn Q)):ACalls C f args [] Q:=
 call_of_vc (K:=Kn C sum loop) (vU hm hs hl) (fun _ _ _ _ h=>by cases h) n hf hb hn (fun _ _ h=>h) h
theorem wp0 {C:A2} {sum:Sums} {loop:Loops} (hm:C.P.follows .mixedOrders=true) (hs:Ca C sum) {c:Code} (hl:M0 C (loopsOf c) loop) (n:Nat) {F:Fr} {H:Hp} {Q:Post} (h:vc (Kl C sum loop) n 0 (.code c) F H Q):AWp C 0 c F H Q:=
 wp_of_vc (K:=Kl C sum loop) (vX hm hs hl) vF n (Nat.zero_le _) (fun _ _ h=>h) h
theorem call0 {C : A2} {sum : Sums} {loop : Loops} (hm : C.P.follows .mixedOrders = true) (hs : Ca C sum) {f : FuncId} {fn : Func} {c : Code} (hf : C.P.funcs[f]? = some fn) (hb : fn.body = some c) (hn : (fn.name == "runtime.NumGoroutine") = false)
  (hl:M0 C (loopsOf c) loop) (n:Nat) {args:List AV} {Q:AV→Hp→Prop} (h:vc (Kl C sum loop) n 0 (.code c) (J1 fn args) [] (J6 C fn Q)):ACalls C f args [] Q:=
 call_of_vc (K:=Kl C sum loop) (vX hm hs hl) vF n hf hb hn (fun _ _ h=>h) h
theorem M0.one {C:A2} {lps:List Code} {c:Code} {loop:Loops} (he:lps=[c]) (h:∀ F H e F' H',loop c F H=some (true,e,F',H')→AWp C 0 (.loop c) F H fun e' F'' H''=>e'=e∧F''=F'∧H''=H'):M0 C lps loop:=by
 intro c' F H e F' H' h1 h2;rw [he] at h1;simp only [List.mem_singleton] at h1;subst h1;exact h F H e F' H' h2
end Go.Am
namespace Go.Am
open Go.ChangeShapes Go.WideShapes Go.ChangeAt Go.RowKit
structure RoE where
 b:Nat
 d:Nat
 cells:List AV
def Jd (w:World) (L:List RoE) (k b d:Nat):Prop:=b<w.heap.size∧∃ e,L[k]?=some e∧e.b=b∧e.d=d
def GL (L:List RoE) (k:Nat):List AV:=match L[k]? with | some e=>e.cells | none=>[]
def uN (ro ro':Nat→Nat→Nat→Prop):Prop:=∀ k b d,ro k b d→ro' k b d
mutual
theorem bS {ro ro':Nat→Nat→Nat→Prop} (h:uN ro ro'):∀ (a:AV) (v:Value),VR ⟨[],ro,[]⟩ a v→VR ⟨[],ro',[]⟩ a v
 | .undef,v,hv=>by simp only [VR] at *
 | .bool b,v,hv=>by simpa only [VR] using hv
 | .int k n,v,hv=>by simpa only [VR] using hv
 | .str s,v,hv=>by simpa only [VR] using hv
 | .nilp,v,hv=>by simpa only [VR] using hv
 | .ptr (.rw i) off,v,hv=>by
  simp only [VR,P9] at *;obtain ⟨e,he,_⟩:=hv;simp at he
 | .ptr (.ro i) off,v,hv=>by
  simp only [VR,P9] at *;obtain ⟨b,d,he,hv⟩:=hv;exact ⟨b,d,h _ _ _ he,hv⟩
 | .nils,v,hv=>by simpa only [VR] using hv
 | .slice mb (.rw i) off len,v,hv=>by
  simp only [VR,N4] at *;obtain ⟨ca,cap,e,hl,hc⟩:=hv;refine ⟨ca,cap,e,hl,?_⟩;rcases hc with hc | hc | ⟨e,he,_⟩
  ·exact .inl hc
  ·exact .inr (.inl hc)
  ·simp at he
 | .slice mb (.ro i) off len,v,hv=>by
  simp only [VR,N4] at *;obtain ⟨ca,cap,e,hl,hc⟩:=hv;refine ⟨ca,cap,e,hl,?_⟩;rcases hc with hc | hc | ⟨b,d,he,h2⟩
  ·exact .inl hc
  ·exact .inr (.inl hc)
  ·exact .inr (.inr ⟨b,d,h _ _ _ he,h2⟩)
 | .nilf,v,hv=>by simpa only [VR] using hv
 | .func f cap,v,hv=>by
  simp only [VR] at *;obtain ⟨cs,e,hs⟩:=hv;exact ⟨cs,e,Qk h cap _ hs⟩
 | .agg cs,v,hv=>by
  simp only [VR] at *;obtain ⟨vs,e,hs⟩:=hv;exact ⟨vs,e,Qk h cs _ hs⟩
 | .tup cs,v,hv=>by
  simp only [VR] at *;obtain ⟨vs,e,hs⟩:=hv;exact ⟨vs,e,Qk h cs _ hs⟩
theorem Qk {ro ro':Nat→Nat→Nat→Prop} (h:uN ro ro'):∀ (as:List AV) (vs:List Value),VRs ⟨[],ro,[]⟩ as vs→VRs ⟨[],ro',[]⟩ as vs
 | [],vs,hv=>by simpa only [VRs] using hv
 | a::as,vs,hv=>by
  simp only [VRs] at *;obtain ⟨v,vs',e,h1,h2⟩:=hv;exact ⟨v,vs',e,bS h a v h1,Qk h as vs' h2⟩
end
theorem Fl (w:World) (L M:List RoE):uN (Jd w L) (Jd w (L++M)):=by
 rintro k b d ⟨h0,e,h1,h2⟩;exact ⟨h0,e,by rw [List.getElem?_append_left (List.getElem?_eq_some_iff.1 h1).1];exact h1,h2⟩
def O3:Nat→List (Nat×Nat)→Nat→Bool
 | acc,[],tot=>acc==tot
 | acc,(o,z)::r,tot=>o==acc&&O3 (acc+z) r tot
def S0 (P:Program):Nat→TypeId→Bool
 | 0,_=>false
 | n+1,t=>
  match P.underlying t with
  | some .bool=>true
  | some (.int _)=>true
  | some .string=>true
  | some (.slice e)=>decide (0<P.cellsOf e)&&S0 P n e
  | some (.struct fs)=>O3 0 (fs.toList.map fun f=>(f.offset,P.cellsOf f.type)) (P.cellsOf t)&&fs.toList.all fun f=>S0 P n f.type
  | some (.array m e)=>m*P.cellsOf e==P.cellsOf t&&S0 P n e
  | _=>false
def F7 {H:Type} (P:Program) (L:List RoE):Nat→TypeId→List AV→DataW H→Prop
 | 0,_,_,_=>False
 | n+1,t,cs,d=>
  match P.underlying t with
  | some .bool=>∃ b,cs=[.bool b]∧d=.lit (.bool b)
  | some (.int k)=>∃ i,cs=[.int k i]∧(Lit.int k i).wf=true∧d=.lit (.int k i)
  | some .string=>∃ s,cs=[.str s]∧s.length≤maxLen∧d=.lit (.string s)
  | some (.slice e)=>(cs=[.nils]∧d=.nil)∨∃ (k:Nat) (ds sp:List (DataW H)) (en:RoE),cs=[.slice false (.ro k) 0 ds.length]∧d=.slice ds sp∧L[k]?=some en∧
    en.cells.length=ds.length*P.cellsOf e∧ds.length+sp.length≤maxLen∧∀ (i:Nat) x,ds[i]?=some x→F7 P L n e ((en.cells.drop (i*P.cellsOf e)).take (P.cellsOf e)) x
  | some (.struct fs)=>cs.length=P.cellsOf t∧∃ ds,d=.agg ds∧ds.length=fs.size∧∀ (i:Nat) f x,fs[i]?=some f→ds[i]?=some x→F7 P L n f.type ((cs.drop f.offset).take (P.cellsOf f.type)) x
  | some (.array m e)=>cs.length=P.cellsOf t∧∃ ds,d=.agg ds∧ds.length=m∧∀ (i:Nat) x,ds[i]?=some x→F7 P L n e ((cs.drop (i*P.cellsOf e)).take (P.cellsOf e)) x
  | _=>False
theorem F7.mono {H:Type} {P:Program} {L:List RoE} (M:List RoE):∀ {n:Nat} {t:TypeId} {cs:List AV} {d:DataW H},F7 P L n t cs d→F7 P (L++M) n t cs d
 | 0,_,_,_,h=>h.elim
 | n+1,t,cs,d,h=>by
  unfold F7 at h ⊢;split at h
  ·exact h
  ·exact h
  ·exact h
  ·rcases h with h | ⟨k,ds,sp,en,h1,h2,h3,h4,h5,h6⟩
   ·exact .inl h
   ·exact .inr ⟨k,ds,sp,en,h1,h2,by rw [List.getElem?_append_left (List.getElem?_eq_some_iff.1 h3).1];exact h3,h4,h5,fun i x hx=>(h6 i x hx).mono M⟩
  ·obtain ⟨h1,ds,h2,h3,h4⟩:=h;exact ⟨h1,ds,h2,h3,fun i f x h5 h6=>(h4 i f x h5 h6).mono M⟩
  ·obtain ⟨h1,ds,h2,h3,h4⟩:=h;exact ⟨h1,ds,h2,h3,fun i x h6=>(h4 i x h6).mono M⟩
  ·exact h.elim
def Eg (w:World) (L:List RoE):Prop:=∀ (k:Nat) e,L[k]?=some e→∀ (j:Nat) v,e.cells[j]?=some v→E6 v=true∧∃ cv,w.cell? ⟨e.b,e.d+j,none⟩=some cv∧VR ⟨[],Jd w L,[]⟩ v cv
def Y3 {α:Type} (l:List (List α)):Nat:=(l.map List.length).sum
theorem Py {α:Type}:∀ (css:List (List α)) (i:Nat) (cs:List α),css[i]?=some cs→(css.flatten.drop (Y3 (css.take i))).take cs.length=cs
 | [],i,cs,h=>by simp at h
 | c::css,0,cs,h=>by
  simp at h;subst h;simp [Y3]
 | c::css,i+1,cs,h=>by
  have:=Py css i cs (by simpa using h)
  simp only [List.flatten_cons,List.take_succ_cons,Y3,List.map_cons,List.sum_cons];rw [List.drop_append,List.drop_eq_nil_of_le (by omega),List.nil_append,show c.length+(List.map List.length (List.take i css)).sum - c.length=Y3 (css.take i) by unfold Y3;omega];exact this
theorem To {ρ:Env}:∀ {css:List (List AV)} {vss:List (List Value)},css.length=vss.length→(∀ (i:Nat) cs vs,css[i]?=some cs→vss[i]?=some vs→VRs ρ cs vs)→VRs ρ css.flatten vss.flatten
 | [],[],_,_=>by simp [VRs]
 | c::css,v::vss,hl,h=>by
  simp only [List.flatten_cons];exact Nu (h 0 c v rfl rfl) (To (by simpa using hl) fun i cs vs h1 h2=>h (i+1) cs vs (by simpa using h1) (by simpa using h2))
 | [],_::_,hl,_=>by simp at hl
 | _::_,[],hl,_=>by simp at hl
theorem cR {α:Type} {vs:List α} {tot:Nat} (hv:vs.length=tot):∀ {os:List (Nat×Nat)} {acc:Nat},O3 acc os tot=true→acc≤tot→(os.map fun p=>(vs.drop p.1).take p.2).flatten=vs.drop acc
 | [],acc,h,_=>by simp [O3] at h;simp;omega
 | (o,z)::os,acc,h,ha=>by
  simp only [O3,Bool.and_eq_true,beq_iff_eq] at h;obtain ⟨rfl,h⟩:=h
  have le:∀ {os:List (Nat×Nat)} {a:Nat},O3 a os tot=true→a≤tot:=by
   intro os
   induction os with
   | nil=>intro a h;simp [O3] at h;omega
   | cons p os ih=>intro a h;obtain ⟨x,y⟩:=p;simp only [O3,Bool.and_eq_true] at h;have:=ih h.2;omega
  have ih:=cR (vs:=vs) hv h (le h);simp only [List.map_cons,List.flatten_cons,ih];rw [←List.drop_drop];exact List.take_append_drop _ _
theorem iJ {tot:Nat}:∀ {os:List (Nat×Nat)} {acc:Nat},O3 acc os tot=true→∀ (i:Nat) p,os[i]?=some p→p.1=acc+((os.take i).map (·.2)).sum
 | [],acc,_,i,p,h=>by simp at h
 | (o,z)::os,acc,h,i,p,hp=>by
  simp only [O3,Bool.and_eq_true,beq_iff_eq] at h;cases i with
  | zero=>simp at hp;subst hp;simp;exact h.1
  | succ i=>
   have:=iJ h.2 i p (by simpa using hp)
   simp only [List.take_succ_cons,List.map_cons,List.sum_cons];omega
theorem iK {α:Type} {vs:List α} {tot:Nat} (hv:vs.length=tot):∀ {os:List (Nat×Nat)} {acc:Nat},O3 acc os tot=true→∀ p∈os,((vs.drop p.1).take p.2).length=p.2
 | [],acc,_,p,h=>by simp at h
 | (o,z)::os,acc,h,p,hp=>by
  simp only [O3,Bool.and_eq_true,beq_iff_eq] at h
  have le:∀ {os:List (Nat×Nat)} {a:Nat},O3 a os tot=true→a≤tot:=by
   intro os
   induction os with
   | nil=>intro a h;simp [O3] at h;omega
   | cons p os ih=>intro a h;obtain ⟨x,y⟩:=p;simp only [O3,Bool.and_eq_true] at h;have:=ih h.2;omega
  rcases List.mem_cons.1 hp with rfl | hp
  ·have:=le h.2
   simp;omega
  ·exact iK hv h.2 p hp
theorem Se (z:Nat):∀ (m a:Nat),O3 (a*z) ((List.range' a m).map fun i=>(i*z,z)) ((a+m)*z)=true
 | 0,a=>by simp [O3]
 | m+1,a=>by
  simp only [List.range'_succ,List.map_cons,O3,beq_self_eq_true,Bool.true_and]
  have:=Se z m (a+1)
  rw [show a*z+z=(a+1)*z by rw [Nat.add_mul,Nat.one_mul],show a+(m+1)=a+1+m by omega];exact this
section
variable {H:Type} {enc:TypeId×Value→H} {P:Program} {w:World}
abbrev Rd (enc:TypeId×Value→H) (P:Program) (w:World) (fuel:Nat) (t:TypeId) (vs:List Value):Option (DataW H×List MemPlace):=DataW.trod enc P w 0 (fun _=>true) true fuel t vs
def gA (enc:TypeId×Value→H) (P:Program) (w:World) (n:Nat):Prop:=
 ∀ (fuel:Nat) (t:TypeId) (vs:List Value) (x:DataW H×List MemPlace) (L:List RoE),S0 P n t=true→Eg w L→Rd enc P w fuel t vs=some x→
  ∃ M cs,Eg w (L++M)∧VRs ⟨[],Jd w (L++M),[]⟩ cs vs∧F7 P (L++M) n t cs x.1∧I4 cs=true
theorem Ox {n:Nat} (ih:gA enc P w n):∀ (jobs:List (TypeId×List Value×DataW H)) (L:List RoE),(∀ j∈jobs,S0 P n j.1=true∧∃ fuel ps,Rd enc P w fuel j.1 j.2.1=some (j.2.2,ps))→Eg w L→
  ∃ (M:List RoE) (css:List (List AV)),Eg w (L++M)∧css.length=jobs.length∧∀ (i:Nat) j cs,jobs[i]?=some j→css[i]?=some cs→VRs ⟨[],Jd w (L++M),[]⟩ cs j.2.1∧F7 P (L++M) n j.1 cs j.2.2∧I4 cs=true
 | [],L,_,hL=>⟨[],[],by simpa using hL,rfl,fun i j cs h=>by simp at h⟩
 | j::jobs,L,hj,hL=>by
  obtain ⟨h1,fuel,ps,h2⟩:=hj j (by simp);obtain ⟨M,cs,g1,g2,g3,g4⟩:=ih fuel j.1 j.2.1 _ L h1 hL h2;obtain ⟨M',css,q1,q2,q3⟩:=Ox ih jobs (L++M) (fun x hx=>hj x (by simp [hx])) g1;refine ⟨M++M',cs::css,by rw [←List.append_assoc];exact q1,by simp [q2],fun i x c hx hc=>?_⟩;rw [←List.append_assoc];cases i with
  | zero=>
   simp at hx hc;subst hx hc;exact ⟨Qk (Fl _ _ _) _ _ g2,g3.mono M',g4⟩
  | succ i=>exact q3 i x c (by simpa using hx) (by simpa using hc)
theorem Vw {css:List (List AV)} (h:∀ cs∈css,I4 cs=true):I4 css.flatten=true:=by
 rw [Mt,List.all_eq_true];intro v hv;obtain ⟨cs,h1,h2⟩:=List.mem_flatten.1 hv
 have:=h cs h1
 rw [Mt,List.all_eq_true] at this;exact this v h2
theorem dL {n:Nat} (ih:gA enc P w n) {vs:List Value} {tot:Nat} (hv:vs.length=tot) (items:List (TypeId×Nat×DataW H)) (hrow:O3 0 (items.map fun x=>(x.2.1,P.cellsOf x.1)) tot=true) (L:List RoE)
  (hi:∀ x∈items,S0 P n x.1=true∧∃ fuel ps,Rd enc P w fuel x.1 ((vs.drop x.2.1).take (P.cellsOf x.1))=some (x.2.2,ps)) (hL:Eg w L) :
  ∃ M cs,Eg w (L++M)∧VRs ⟨[],Jd w (L++M),[]⟩ cs vs∧I4 cs=true∧∀ (i:Nat) x,items[i]?=some x→F7 P (L++M) n x.1 ((cs.drop x.2.1).take (P.cellsOf x.1)) x.2.2:=by
 obtain ⟨M,css,h1,h2,h3⟩:=Ox ih (items.map fun x=>(x.1,(vs.drop x.2.1).take (P.cellsOf x.1),x.2.2)) L (fun j hj=>by
  obtain ⟨x,hx,rfl⟩:=List.mem_map.1 hj
  exact hi x hx) hL
 simp only [List.length_map] at h2
 have key:∀ (i:Nat) x cs,items[i]?=some x→css[i]?=some cs→VRs ⟨[],Jd w (L++M),[]⟩ cs ((vs.drop x.2.1).take (P.cellsOf x.1))∧F7 P (L++M) n x.1 cs x.2.2∧I4 cs=true:=fun i x cs hx hc=>
  h3 i (x.1,(vs.drop x.2.1).take (P.cellsOf x.1),x.2.2) cs (by simp only [List.getElem?_map,hx,Option.map_some]) hc
 have hlen:∀ (i:Nat) x cs,items[i]?=some x→css[i]?=some cs→cs.length=P.cellsOf x.1:=fun i x cs hx hc=>by
  have:=D8 (key i x cs hx hc).1
  rw [←this];have hm:(x.2.1,P.cellsOf x.1)∈items.map fun x=>(x.2.1,P.cellsOf x.1):=List.mem_map.2 ⟨x,List.mem_of_getElem? hx,rfl⟩;exact iK hv hrow _ hm
 refine ⟨M,css.flatten,h1,?_,Vw fun cs hcs=>?_,fun i x hx=>?_⟩
 rotate_left
 ·obtain ⟨i,hi⟩:=List.getElem?_of_mem hcs;have hil:i<items.length:=by rw [←h2];exact (List.getElem?_eq_some_iff.1 hi).1
  exact (key i _ cs (List.getElem?_eq_getElem hil) hi).2.2
 rotate_left
 ·have:=To (ρ:=⟨[],Jd w (L++M),[]⟩) (css:=css) (vss:=items.map fun x=>(vs.drop x.2.1).take (P.cellsOf x.1)) (by simp [h2]) fun i cs v hc hv'=>by
   simp only [List.getElem?_map,Option.map_eq_some_iff] at hv';obtain ⟨x,hx,rfl⟩:=hv';exact (key i x cs hx hc).1
  have hf:=cR (vs:=vs) hv hrow (Nat.zero_le _);rw [List.map_map] at hf;simp only [List.drop_zero] at hf;rw [←hf];exact this
 ·have hil:i<css.length:=by rw [h2];exact (List.getElem?_eq_some_iff.1 hx).1
  obtain ⟨cs,hc⟩:∃ cs,css[i]?=some cs:=⟨_,List.getElem?_eq_getElem hil⟩;have e1:=Py css i cs hc
  have e2:Y3 (css.take i)=x.2.1:=by
   have ho:=iJ hrow i (x.2.1,P.cellsOf x.1) (by simp only [List.getElem?_map,hx,Option.map_some]);simp only [Nat.zero_add] at ho;rw [ho];unfold Y3;congr 1;rw [List.map_take,List.map_take,List.map_map];apply List.ext_getElem?;intro k;simp only [List.getElem?_take,List.getElem?_map];split
   ·have hk:k<css.length:=by omega
    have hk2:k<items.length:=by omega
    have a1:css[k]?=some css[k]:=List.getElem?_eq_getElem hk;have a2:items[k]?=some items[k]:=List.getElem?_eq_getElem hk2;rw [a1,a2];simp only [Option.map_some,Function.comp];rw [hlen k _ _ a2 a1]
   ·rfl
  rw [e2,hlen i x cs hx hc] at e1;rw [e1];exact (key i x cs hx hc).2.1
theorem cells?_get {a:Addr} {n:Nat} {cs:List Value} (h:w.cells? 0 a n=some cs):cs.length=n∧∀ (j:Nat) v,cs[j]?=some v→w.cell? (a.add j)=some v:=by
 unfold World.cells? at h;rw [if_pos (Nat.zero_le _)] at h;have hl:=mapM_some_length h;simp only [List.length_range] at hl;refine ⟨hl,fun j v hv=>?_⟩;have hj:j<n:=by rw [←hl];exact (List.getElem?_eq_some_iff.1 hv).1
 have:=mapM_some_get h j j (by simp [hj])
 rw [this];exact hv
theorem pU {b o:Nat} {sp:Option Nat} {v:Value} (h:w.cell? ⟨b,o,sp⟩=some v):sp=none:=by
 unfold World.cell? at h;split at h
 ·split at h
  ·simp at h
  ·rename_i hs;simpa using hs
 ·simp at h
theorem tY {a:Addr} {x y:Nat} {v:Value} (h:w.cell? ((a.add x).add y)=some v):w.cell? ⟨a.block,a.off+(x+y),none⟩=some v:=by
 obtain ⟨b,o,s⟩:=a;by_cases hx:x=0<;>by_cases hy:y=0<;>simp only [Addr.add,hx,hy,if_true,if_false] at h ⊢
 ·have:=pU h
  subst this;simpa using h
 ·simpa using h
 ·simpa using h
 ·simpa [Nat.add_assoc] using h
theorem iT:∀ n,gA enc P w n
  | 0=>fun fuel t vs x L hp=>by simp [S0] at hp
  | n+1=>by
    have ih:=iT n;intro fuel t vs x L hp hL hd;unfold S0 at hp;unfold F7;split at hp
    · rename_i hu;cases fuel with
      | zero => simp [Rd, DataW.trod] at hd
      | succ fuel=>
        simp only [Rd] at hd;unfold DataW.trod at hd;rw [hu] at hd;split at hd<;>first | (simp_all;done) | skip;rename_i b _;simp only [Option.some.injEq] at hd;subst hd;refine ⟨[],[.bool b],by simpa using hL,?_,⟨b,rfl,rfl⟩,by simp [I4,E6]⟩;simp only [VRs,VR];exact ⟨_,_,rfl,rfl,rfl⟩
    · rename_i k hu;obtain ⟨i,rfl,rfl,hw⟩:=DataW.trod_int hu hd;refine ⟨[],[.int k i],by simpa using hL,?_,?_,by simp [I4,E6]⟩
      · simp only [VRs,VR];exact ⟨_,_,rfl,rfl,rfl⟩
      · exact ⟨i,rfl,hw,rfl⟩
    · rename_i hu;obtain ⟨s,rfl,rfl,hw⟩:=DataW.trod_string hu hd;refine ⟨[],[.str s.data.toList],by simpa using hL,?_,?_,by simp [I4,E6]⟩
      · simp only [VRs,VR];exact ⟨_,_,rfl,by simp,rfl⟩
      · exact ⟨_,rfl,by rw [Array.length_toList];exact hw,rfl⟩
    · rename_i e hu;simp only [Bool.and_eq_true,decide_eq_true_eq] at hp;rcases DataW.trod_slice hu hd with ⟨rfl,rfl⟩ | ⟨a,len,cap,elems,rest,m,rfl,rfl,rfl,hb,hl,hm,hlen,hel,hsp,hns⟩
      · refine ⟨[],[.nils],by simpa using hL,?_,?_,by simp [I4,E6]⟩
        · simp only [VRs,VR];exact ⟨_,_,rfl,rfl,rfl⟩
        · exact .inl ⟨rfl,rfl⟩
      · -- the elements
        have hcell:∀ i,i<len→∃ cs y,w.cells? 0 (a.add (i*P.cellsOf e)) (P.cellsOf e)=some cs∧Rd enc P w m e cs=some y∧elems[i]?=some y:=fun i hi=>by
          have h1:=hel i hi
          have:i<elems.length:=by omega
          rw [List.getElem?_eq_getElem this] at h1;obtain ⟨cs,h2,h3⟩:=Option.bind_eq_some_iff.1 h1;exact ⟨cs,_,h2,h3,List.getElem?_eq_getElem this⟩
        let vsAt:Nat→List Value:=fun i=>(w.cells? 0 (a.add (i*P.cellsOf e)) (P.cellsOf e)).getD []
        obtain ⟨M,css,h1,h2,h3⟩:=Ox ih ((List.range len).map fun i=>(e,vsAt i,((elems[i]?).map (·.1)).getD .nil)) L (by
          intro j hj;simp only [List.mem_map,List.mem_range] at hj;obtain ⟨i,hi,rfl⟩:=hj;obtain ⟨cs,y,q1,q2,q3⟩:=hcell i hi;refine ⟨hp.2,m,y.2,?_⟩;simp only [vsAt,q1,q3,Option.getD_some,Option.map_some]
          exact q2) hL
        simp only [List.length_map,List.length_range] at h2
        have key:∀ (i:Nat) cs,i<len→css[i]?=some cs→VRs ⟨[],Jd w (L++M),[]⟩ cs (vsAt i)∧F7 P (L++M) n e cs (((elems[i]?).map (·.1)).getD .nil)∧I4 cs=true:=fun i cs hi hc=>
          h3 i _ cs (by rw [List.getElem?_map,List.getElem?_range hi];rfl) hc
        have vlen:∀ i,i<len→(vsAt i).length=P.cellsOf e:=fun i hi=>by
          obtain ⟨cs,y,q1,_,_⟩:=hcell i hi;simp only [vsAt,q1,Option.getD_some];exact (cells?_get q1).1
        have clen:∀ (i:Nat) cs,css[i]?=some cs→cs.length=P.cellsOf e:=fun i cs hc=>by
          have hi:i<len:=by rw [←h2];exact (List.getElem?_eq_some_iff.1 hc).1
          rw [← D8         (key i cs hi hc).1, vlen i hi]
        have hsum:∀ (i:Nat),i≤css.length→Y3 (css.take i)=i*P.cellsOf e:=by
          intro i
          induction i with
          | zero=>intro _;simp [Y3]
          | succ i ihi=>
            intro hi;have hil:i<css.length:=by omega
            have:css.take (i+1)=css.take i++[css[i]]:=by simp
            rw [this];have e1:Y3 (css.take i++[css[i]])=Y3 (css.take i)+css[i].length:=by unfold Y3;rw [List.map_append,List.sum_append];simp only [List.map_cons,List.map_nil,List.sum_cons,List.sum_nil,Nat.add_zero]
            rw [e1,ihi (by omega),clen i _ (List.getElem?_eq_getElem hil),Nat.add_mul,Nat.one_mul]
        have flen:css.flatten.length=len*P.cellsOf e:=by
          have:=hsum css.length (Nat.le_refl _)
          rw [List.take_length,h2] at this;rw [List.length_flatten];exact this
        let en:RoE:=⟨a.block,a.off,css.flatten⟩
        have hvf:VRs ⟨[],Jd w (L++M),[]⟩ css.flatten ((List.range len).map vsAt).flatten:=To (by simp [h2]) fun i cs v hc hv=>by
          have hi:i<len:=by rw [←h2];exact (List.getElem?_eq_some_iff.1 hc).1
          rw [List.getElem?_map,List.getElem?_range hi] at hv;simp at hv;subst hv;exact (key i cs hi hc).1
        have hcells:∀ (vss:List (List Value)) (k:Nat),(∀ (i:Nat) vs,vss[i]?=some vs→vs.length=P.cellsOf e∧∀ (r:Nat) v,vs[r]?=some v→w.cell? ⟨a.block,a.off+(k+(i*P.cellsOf e+r)),none⟩=some v)→
            ∀ (j:Nat) v,vss.flatten[j]?=some v→w.cell? ⟨a.block,a.off+(k+j),none⟩=some v:=by
          intro vss
          induction vss with
          | nil=>intro k _ j v hv;simp at hv
          | cons vs vss ihv=>
            intro k hk j v hv;obtain ⟨hl0,hr0⟩:=hk 0 vs rfl;simp only [List.flatten_cons] at hv;by_cases hj:j<vs.length
            · rw [List.getElem?_append_left hj] at hv
              have:=hr0 j v hv
              simpa using this
            · rw [List.getElem?_append_right (by omega)] at hv
              have:=ihv (k+P.cellsOf e) (fun i vs' hvs=>by
                obtain ⟨g1,g2⟩:=hk (i+1) vs' (by simpa using hvs);refine ⟨g1,fun r v hr=>?_⟩
                have:=g2 r v hr
                rw [Nat.add_mul,Nat.one_mul] at this;rw [show k+P.cellsOf e+(i*P.cellsOf e+r)=k+(i*P.cellsOf e+P.cellsOf e+r) by omega]
                exact this) _ v hv
              rw [show k+P.cellsOf e+(j - vs.length)=k+j by omega] at this;exact this
        have hmem:=hcells ((List.range len).map vsAt) 0 (fun i vs hvs=>by
          have hi:i<len:=by have:=(List.getElem?_eq_some_iff.1 hvs).1;simpa using this
          rw [List.getElem?_map,List.getElem?_range hi] at hvs;simp at hvs;subst hvs;refine ⟨vlen i hi,fun r v hr=>?_⟩;obtain ⟨cs,y,q1,_,_⟩:=hcell i hi;simp only [vsAt,q1,Option.getD_some] at hr;rw [Nat.zero_add]
          exact tY ((cells?_get q1).2 r v hr))
        have hL':Eg w (L++M++[en]):=by
          intro k e' hk j v hv;by_cases hkl:k<(L++M).length
          · rw [List.getElem?_append_left hkl] at hk;obtain ⟨g0,cv,g1,g2⟩:=h1 k e' hk j v hv;exact ⟨g0,cv,g1,bS (Fl _ _ _) _ _ g2⟩
          · rw [List.getElem?_append_right (by omega)] at hk
            have:e'=en:=by
              cases hkk:k - (L++M).length with
              | zero=>rw [hkk] at hk;simp at hk;exact hk.symm
              | succ q=>rw [hkk] at hk;simp at hk
            subst this;obtain ⟨cv,g1,g2⟩:=P5 hvf j v hv
            have hnw:I4 css.flatten=true:=Vw fun cs hcs=>by
              obtain ⟨i,hi⟩:=List.getElem?_of_mem hcs;exact (key i cs (by rw [←h2];exact (List.getElem?_eq_some_iff.1 hi).1) hi).2.2
            rw [Mt,List.all_eq_true] at hnw;refine ⟨hnw v (List.mem_of_getElem? hv),cv,?_,bS (Fl _ _ _) _ _ g2⟩
            have:=hmem j cv g1
            simpa using this
        refine ⟨M++[en],[.slice false (.ro (L++M).length) 0 len],by rw [←List.append_assoc];exact hL',?_,?_,by simp [I4,E6]⟩
        · simp only [VRs,VR];refine ⟨_,_,rfl,⟨some a,cap,rfl,hl,?_⟩,rfl⟩;by_cases hc0:cap=0
          · exact .inr (.inl ⟨⟨a,rfl⟩,hc0⟩)
          · refine .inr (.inr ?_)
            have hspot:∃ v,w.cell? a=some v:=by
              have pos:=hp.1;by_cases hl0:len=0
              · obtain ⟨hr1,hr2⟩:=hsp rfl;have h0:=hr2 0 (by omega);have hr0:0<rest.length:=by omega
                rw [List.getElem?_eq_getElem hr0] at h0;obtain ⟨cs,q1,_⟩:=Option.bind_eq_some_iff.1 h0;obtain ⟨g1,g2⟩:=cells?_get q1;have hcs:0<cs.length:=by omega
                have:=g2 0 cs[0] (List.getElem?_eq_getElem hcs)
                refine ⟨cs[0],?_⟩;simpa [hl0,Addr.add] using this
              · obtain ⟨cs,y,q1,_,_⟩:=hcell 0 (by omega);obtain ⟨g1,g2⟩:=cells?_get q1;have hcs:0<cs.length:=by omega
                have:=g2 0 cs[0] (List.getElem?_eq_getElem hcs)
                refine ⟨cs[0],?_⟩;simpa [Addr.add] using this
            obtain ⟨v,hv⟩:=hspot
            have hs:a.spot=none:=by
              unfold World.cell? at hv;split at hv
              · split at hv
                · simp at hv
                · rename_i hs;simpa using hs
              · simp at hv
            have hlt:a.block<w.heap.size:=by
              unfold World.cell? at hv;split at hv
              · rename_i hc;exact (Array.getElem?_eq_some_iff.1 hc).1
              · simp at hv
            refine ⟨a.block,a.off,⟨hlt,en,by rw [←List.append_assoc];simp,rfl,rfl⟩,?_⟩;obtain ⟨ab,ao,as⟩:=a;simp only at hs;subst hs;rfl
        · refine .inr ⟨(L++M).length,elems.map (·.1),rest.map (·.1),en,by simp [hlen],rfl,by rw [←List.append_assoc];simp,?_,?_,fun i x hx=>?_⟩
          · show css.flatten.length=_;rw [flen];simp [hlen]
          · have:=(hsp rfl).1
            simp;omega
          · have hi:i<len:=by have:=(List.getElem?_eq_some_iff.1 hx).1;simpa [hlen] using this
            have hil:i<css.length:=by omega
            have hc:css[i]?=some css[i]:=List.getElem?_eq_getElem hil;have e1:=Py css i _ hc;rw [hsum i (by omega),clen i _ hc] at e1;show F7 P _ n e ((css.flatten.drop (i*P.cellsOf e)).take (P.cellsOf e)) x;rw [e1,←List.append_assoc];refine F7.mono [en] ?_
            have:=(key i _ hi hc).2.1
            rw [List.getElem?_map] at hx;obtain ⟨y,q1,q2⟩:=Option.map_eq_some_iff.1 hx;rw [q1] at this;simp only [Option.map_some,Option.getD_some] at this;rw [q2] at this;exact this
    · rename_i fs hu;simp only [Bool.and_eq_true,List.all_eq_true] at hp;obtain ⟨xs,m,rfl,rfl,hl,hlen,hf⟩:=DataW.trod_struct hu hd
      have hget:∀ (i:Nat) f,fs[i]?=some f→∃ y,xs[i]?=some y∧Rd enc P w m f.type ((vs.drop f.offset).take (P.cellsOf f.type))=some y:=fun i f h=>by
        have hi:i<xs.length:=by rw [hlen];exact (Array.getElem?_eq_some_iff.1 h).1
        refine ⟨xs[i],List.getElem?_eq_getElem hi,?_⟩;rw [←List.getElem?_eq_getElem hi];exact hf i f h
      let items:List (TypeId×Nat×DataW H):=(List.range fs.size).map fun i=>(((fs[i]?).map (·.type)).getD 0,((fs[i]?).map (·.offset)).getD 0,((xs[i]?).map (·.1)).getD .nil)
      have hitem:∀ (i:Nat) f y,fs[i]?=some f→xs[i]?=some y→items[i]?=some (f.type,f.offset,y.1):=fun i f y h1 h2=>by
        have hi:i<fs.size:=(Array.getElem?_eq_some_iff.1 h1).1;simp only [items,List.getElem?_map,List.getElem?_range hi,Option.map_some,h1,h2,Option.getD_some]
      have hrow:O3 0 (items.map fun x=>(x.2.1,P.cellsOf x.1)) (P.cellsOf t)=true:=by
        have:(items.map fun x=>(x.2.1,P.cellsOf x.1))=fs.toList.map fun f=>(f.offset,P.cellsOf f.type):=by
          apply List.ext_getElem?;intro i;simp only [List.getElem?_map];by_cases hi:i<fs.size
          · have h1:fs[i]?=some fs[i]:=Array.getElem?_eq_getElem hi;obtain ⟨y,h2,_⟩:=hget i _ h1;rw [hitem i _ y h1 h2];simp [hi]
          · have:items.length=fs.size:=by simp [items]
            rw [List.getElem?_eq_none (by omega),List.getElem?_eq_none (by simp;omega)];rfl
        rw [this];exact hp.1
      obtain ⟨M,cs,h1,h2,hnw,h3⟩:=dL ih hl items hrow L (fun x hx=>by
        obtain ⟨i,hi⟩:=List.getElem?_of_mem hx;have hil:i<fs.size:=by have:=(List.getElem?_eq_some_iff.1 hi).1;simpa [items] using this
        have q1:fs[i]?=some fs[i]:=Array.getElem?_eq_getElem hil;obtain ⟨y,q2,q3⟩:=hget i _ q1;rw [hitem i _ y q1 q2] at hi;simp at hi;subst hi
        exact ⟨hp.2 _ (by simp),m,y.2,q3⟩) hL
      refine ⟨M,cs,h1,h2,?_,hnw⟩;refine ⟨by rw [←D8 h2,hl],xs.map (·.1),rfl,by simp [hlen],fun i f x hi hx=>?_⟩;rw [List.getElem?_map] at hx;obtain ⟨y,q1,q2⟩:=Option.map_eq_some_iff.1 hx
      have:=h3 i _ (hitem i f y hi q1)
      rw [q2] at this;exact this
    · rename_i k e hu;simp only [Bool.and_eq_true,beq_iff_eq] at hp;obtain ⟨xs,m,rfl,rfl,hl,hlen,hf⟩:=DataW.trod_array hu hd
      let items:List (TypeId×Nat×DataW H):=(List.range k).map fun i=>(e,i*P.cellsOf e,((xs[i]?).map (·.1)).getD .nil)
      have hitem:∀ (i:Nat) y,xs[i]?=some y→items[i]?=some (e,i*P.cellsOf e,y.1):=fun i y h2=>by
        have hi:i<k:=by rw [←hlen];exact (List.getElem?_eq_some_iff.1 h2).1
        simp only [items,List.getElem?_map,List.getElem?_range hi,Option.map_some,h2,Option.getD_some]
      have hrow:O3 0 (items.map fun x=>(x.2.1,P.cellsOf x.1)) (P.cellsOf t)=true:=by
        have:=Se (P.cellsOf e) k 0
        rw [Nat.zero_mul,Nat.zero_add,hp.1] at this;simp only [items,List.map_map,List.range_eq_range'];exact this
      obtain ⟨M,cs,h1,h2,hnw,h3⟩:=dL ih hl items hrow L (fun x hx=>by
        obtain ⟨i,hi⟩:=List.getElem?_of_mem hx;have hil:i<k:=by have:=(List.getElem?_eq_some_iff.1 hi).1;simpa [items] using this
        have q2:xs[i]?=some xs[i]:=List.getElem?_eq_getElem (by omega);rw [hitem i _ q2] at hi;simp at hi;subst hi;refine ⟨hp.2,m,(xs[i]).2,?_⟩
        have:=hf i hil
        rw [q2] at this
        exact this) hL
      refine ⟨M,cs,h1,h2,?_,hnw⟩;refine ⟨by rw [←D8 h2,hl],xs.map (·.1),rfl,by simp [hlen],fun i x hx=>?_⟩;rw [List.getElem?_map] at hx;obtain ⟨y,q1,q2⟩:=Option.map_eq_some_iff.1 hx
      have:=h3 i _ (hitem i y q1)
      rw [q2] at this;exact this
    · simp at hp
end
end Go.Am
namespace Go.Am
def O5 (cs:List AV) (off n:Nat):List Int:=(List.range n).map fun j=>A0 cs (off+j)
def Bw (k:IntKind) (cs:List AV) (off n:Nat):Bool:=(List.range n).all fun j=>isI k cs (off+j)
theorem Lk {k:IntKind} {cs:List AV} {off n j:Nat} (h:Bw k cs off n=true) (hj:j<n):isI k cs (off+j)=true:=by
 simp only [Bw,List.all_eq_true,List.mem_range] at h;exact h j hj
theorem oO {k:IntKind} {cs:List AV} {off n:Nat} (h:∀ j,j<n→isI k cs (off+j)=true):Bw k cs off n=true:=by
 simp only [Bw,List.all_eq_true,List.mem_range];exact h
theorem Zx (cs:List AV) (off n:Nat):O5 cs off (n+1)=O5 cs off n++[A0 cs (off+n)]:=by simp [O5,List.range_succ]
theorem Zw (cs:List AV) (off:Nat):O5 cs off 0=[]:=rfl
theorem Fe {c:Bool} {K:Prop}:chk c K↔c=true∧K:=by cases c<;>simp [chk]
theorem Qr {c:Bool} {A B:Prop}:tst c A B↔(c=true→A)∧(c=false→B):=by cases c<;>simp [tst]
theorem mV {c:Bool} {A B:Prop} (h:c=true→A) (k:c=false→B):tst c A B:=Qr.2 ⟨h,k⟩
theorem C4 {n:Int} (h:-9223372036854775808≤n∧n≤9223372036854775807):IntKind.i64.wrap n=n:=IntWalk.i64_in n h
def flat (v:AV):Bool:=A8 0 v&&O0 v
mutual
theorem Pz:∀ v,A8 0 v=true→E6 v=true
 | .undef,_=>by simp [E6]
 | .bool _,_=>by simp [E6]
 | .int _ _,_=>by simp [E6]
 | .str _,_=>by simp [E6]
 | .nilp,_=>by simp [E6]
 | .nils,_=>by simp [E6]
 | .nilf,_=>by simp [E6]
 | .ptr (.rw _) _,h=>by simp [A8] at h
 | .ptr (.ro _) _,_=>by simp [E6]
 | .slice _ (.rw _) _ _,h=>by simp [A8] at h
 | .slice _ (.ro _) _ _,_=>by simp [E6]
 | .func _ c,h=>by simp only [A8] at h;simp only [E6];exact Hf c h
 | .agg c,h=>by simp only [A8] at h;simp only [E6];exact Hf c h
 | .tup c,h=>by simp only [A8] at h;simp only [E6];exact Hf c h
 | .yld _,h=>by simp [A8] at h
 | .rcd ..,_=>by simp [E6]
theorem Hf:∀ l,A4 0 l=true→I4 l=true
 | [],_=>by simp [I4]
 | x::xs,h=>by simp only [A4,Bool.and_eq_true] at h;simp only [I4,Bool.and_eq_true];exact ⟨Pz x h.1,Hf xs h.2⟩
end
def sig1 (r:Ref) (o:Nat):Sig:=fun _=>(r,o)
def G1 (cs:List AV):Nat→List AV:=fun k=>match k with | 0=>cs | _=>[]
theorem sees1 {C:A2} {H:Hp} {r:Ref} {cs:List AV} (hc:D0 C H r=some cs) (off n:Nat) (hf:((cs.drop off).take n).all flat=true):mH C H (sig1 r off) (G1 ((cs.drop off).take n)):=by
 intro k;cases k with
 | succ k=>exact .inl rfl
 | zero=>
  refine .inr ⟨cs,hc,fun j v hv=>?_⟩;have hm:v∈(cs.drop off).take n:=List.mem_of_getElem? hv
  have:=List.all_eq_true.1 hf v hm
  simp only [flat,Bool.and_eq_true] at this;refine ⟨Pz v this.1,?_⟩;rw [Qu v this.2];simp only [G1,List.getElem?_take,List.getElem?_drop] at hv;split at hv
  ·exact hv
  ·simp at hv
theorem pF (cs:List AV) (off n:Nat):O5 ((cs.drop off).take n) 0 n=O5 cs off n:=by
 unfold O5;apply List.map_congr_left;intro j hj
 have:=List.mem_range.1 hj
 simp only [A0,Nat.zero_add,List.getElem?_take,this,if_true,List.getElem?_drop]
theorem sK {k:IntKind} {cs:List AV} {off n:Nat} (h:Bw k cs off n=true):Bw k ((cs.drop off).take n) 0 n=true:=by
 refine oO fun j hj=>?_
 have:=Lk h hj
 simp only [isI,Nat.zero_add,List.getElem?_take,hj,if_true,List.getElem?_drop] at this ⊢;exact this
theorem sL {k:IntKind} {cs:List AV} {off n:Nat} (h:Bw k cs off n=true):((cs.drop off).take n).all flat=true:=by
 rw [List.all_eq_true];intro v hv;obtain ⟨j,hj⟩:=List.getElem?_of_mem hv;simp only [List.getElem?_take,List.getElem?_drop] at hj;split at hj
 ·rename_i hjn
  have:=Lk h hjn
  simp only [isI,hj] at this;split at this
  ·rename_i e;simp at e;subst e;simp [flat,A8,O0]
  ·simp at this
 ·simp at hj
theorem Qa {C:A2} {f:FuncId} {args:List AV} {v0:AV} (hf:A8 0 v0=true∧O0 v0=true) (ha:I4 args=true∧O9 args=true) (h:∀ G B,ACalls ⟨C.P,G,B⟩ f args [] fun v _=>v=v0) (H:Hp):ACalls C f args H fun v H'=>v=v0∧H'=H:=by
 have e:args=sbs (fun _=>(.rw 0,0)) 0 args:=(Ie args ha.2).symm;exact Xi (σ:=fun _=>(.rw 0,0)) (G:=fun _=>[]) (fun k=>.inl rfl) (fun B=>h _ B) ha.1 e (fun v hv=>by subst hv;exact hf)
theorem Yv:∀ {a b:List AV},wk a b→a.length=b.length
 | [],[],_=>rfl
 | [],_::_,h=>by simp [wk] at h
 | x::a,[],h=>by cases x<;>simp [wk] at h
 | x::a,y::b,h=>by
  have:wk a b:=by cases x<;>simp only [wk] at h<;>first | exact h | exact h.2
  simp [Yv this]
def Nr (θ:List Nat) (H':Hp) (n:Nat):List Nat→Hp→Prop
 | [],[]=>True
 | j::js,none::H=>j<H'.length∧Nr θ H' n js H
 | j::js,some b::H=>(A4 n b.cells=true∧H'[j]?=some (some ⟨b.esz,rens θ b.cells⟩))∧Nr θ H' n js H
 | _,_=>False
theorem Np {θ:List Nat} {H':Hp} {n:Nat}:∀ {js:List Nat} {H:Hp},Nr θ H' n js H→js.length=H.length
 | [],[],_=>rfl
 | [],_::_,h=>h.elim
 | _::_,[],h=>by simp [Nr] at h
 | j::js,none::H,h=>by simp [Np h.2]
 | j::js,some b::H,h=>by simp [Np h.2]
theorem Nq {θ:List Nat} {H':Hp} {n:Nat}:∀ {js:List Nat} {H:Hp},Nr θ H' n js H→∀ (i:Nat),i<js.length→js.getD i 0<H'.length∧∀ b,H[i]?=some (some b)→A4 n b.cells=true∧H'[js.getD i 0]?=some (some ⟨b.esz,rens θ b.cells⟩)
 | [],[],_,i,hi=>by simp at hi
 | [],_::_,h,_,_=>h.elim
 | _::_,[],h,_,_=>by simp [Nr] at h
 | j::js,none::H,h,i,hi=>by
  cases i with
  | zero=>exact ⟨h.1,fun b hb=>by simp at hb⟩
  | succ i=>simpa using Nq h.2 i (by simpa using hi)
 | j::js,some b::H,h,i,hi=>by
  cases i with
  | zero=>exact ⟨(List.getElem?_eq_some_iff.1 h.1.2).1,fun b' hb=>by simp at hb;subst hb;exact h.1⟩
  | succ i=>simpa using Nq h.2 i (by simpa using hi)
theorem C2.ren {θ:List Nat} {F F':Fr} {H H':Hp} (hnd:θ.Nodup) (hb:Nr θ H' H.length θ H) (hF:A4 H.length F=true) (hF':wk (rens θ F) F'):C2 0 F H F' H':=by
 have hl:=Np hb;have hg:=Nq hb;refine ⟨θ,hl,Nat.zero_le _,fun i hi=>by omega,fun i hi=>(hg i hi).1,fun i j b b' h1 h2 he=>?_,fun i b h=>?_,by rw [←Yv hF',K8];simp,fun k v hk=>?_⟩
 ·have hi:i<θ.length:=by rw [hl];exact (List.getElem?_eq_some_iff.1 h1).1
  have hj:j<θ.length:=by rw [hl];exact (List.getElem?_eq_some_iff.1 h2).1
  simp only [List.getD,List.getElem?_eq_getElem hi,List.getElem?_eq_getElem hj,Option.getD_some] at he;exact (List.getElem_inj hnd).1 he
 ·have hi:i<θ.length:=by rw [hl];exact (List.getElem?_eq_some_iff.1 h).1
  obtain ⟨g1,g2⟩:=(hg i hi).2 b h;refine ⟨_,g2,by rw [K8];simp,rfl,fun k v hk=>?_,fun _=>⟨by rw [K8];simp,by rw [K8];simp⟩⟩;rw [J8,List.all_eq_true] at g1;refine ⟨by rw [hl];exact g1 v (List.mem_of_getElem? hk),.inr ?_⟩;rw [K8];simp [hk]
 ·rw [J8,List.all_eq_true] at hF;refine ⟨by rw [hl];exact hF v (List.mem_of_getElem? hk),?_⟩;rcases Uc hF' k (Go.Am.C1 θ v) (by rw [K8];simp [hk]) with h | h
  ·left;cases v with
   | undef=>rfl
   | ptr r o=>cases r<;>simp [Go.Am.C1] at h
   | slice m r o n=>cases r<;>simp [Go.Am.C1] at h
   | _=>simp [Go.Am.C1] at h
  ·exact .inr h
theorem pM {N:Nat} {live:List Nat} {vs:List AV} {i:Nat} (hi:i<N):(fl N live vs)[i]?=some ((((live.zip vs).find? fun p=>Nat.beq p.1 i).map (·.2)).getD .undef):=by
 simp [fl,fr,hi]
theorem Zj (θ:List Nat) (i:Nat):∀ (live:List Nat) (vs:List AV),((live.zip (rens θ vs)).find? fun p=>Nat.beq p.1 i)=((live.zip vs).find? fun p=>Nat.beq p.1 i).map fun p=>(p.1,C1 θ p.2)
 | [],vs=>by simp
 | x::live,[]=>by simp [rens]
 | x::live,v::vs=>by
  simp only [rens,List.zip_cons_cons,List.find?_cons];split
  ·rfl
  ·exact Zj θ i live vs
theorem C2.frames {N:Nat} {live:List Nat} {θ:List Nat} {vs vs':List AV} {H H':Hp} (hnd:θ.Nodup) (hb:Nr θ H' H.length θ H) (hl:vs'.length=vs.length) (hll:live.length=vs.length) (hF:A4 H.length vs=true) (hF':vs'=rens θ vs):C2 0 (fl N live vs) H (fl N live vs') H':=by
 refine C2.ren hnd hb ?_ ?_
 ·rw [J8,List.all_eq_true];intro v hv;obtain ⟨i,hi⟩:=List.getElem?_of_mem hv;rcases eZ hi with rfl | ⟨j,_,hj⟩
  ·simp [A8]
  ·rw [J8,List.all_eq_true] at hF;exact hF v (List.mem_of_getElem? hj)
 ·have:rens θ (fl N live vs)=fl N live vs':=by
   rw [hF',K8];apply List.ext_getElem?;intro i;rw [List.getElem?_map];by_cases hi:i<N
   ·rw [pM hi,pM hi,Zj];cases (live.zip vs).find? fun p=>Nat.beq p.1 i with
    | none=>simp [Go.Am.C1]
    | some p=>simp
   ·have e1:(fl N live vs)[i]?=none:=List.getElem?_eq_none (by rw [Df];omega);have e2:(fl N live (rens θ vs))[i]?=none:=List.getElem?_eq_none (by rw [Df];omega);rw [e1,e2];rfl
  rw [this];exact Ks _
abbrev Sum1:=List AV→Hp→Option (Bool×AV×List Hop)
def sums:List (FuncId×Sum1)→Sums
 | [],_,_,_=>none
 | (g,s)::l,f,args,H=>match Nat.beq f g with
  | true=>s args H
  | false=>sums l f args H
def Sd (C:A2) (f:FuncId) (s:Sum1):Prop:=∀ args H v hs,s args H=some (true,v,hs)→ACalls C f args H fun v' H'=>v'=v∧H'=acts H hs
theorem Sv (C:A2):Ca C (sums []):=fun _ _ _ _ _ h=>by simp [sums] at h
theorem Og {C:A2} {g:FuncId} {s:Sum1} {l:List (FuncId×Sum1)} (h1:Sd C g s) (h2:Ca C (sums l)):Ca C (sums ((g,s)::l)):=by
 intro f args H v hs h;simp only [sums] at h;split at h
 ·rename_i hf;rw [Nat.eq_of_beq_eq_true hf];exact h1 args H v hs h
 ·exact h2 f args H v hs h
def Qm (C:A2) (c:Code) (l:Loops):Prop:=∀ F H e F' H',l c F H=some (true,e,F',H')→AWp C 0 (.loop c) F H fun e' F'' H''=>e'=e∧F''=F'∧H''=H'
theorem M0.nil {C:A2} {l:Loops}:M0 C [] l:=fun c F H e F' H' h=>by simp at h
theorem M0.cons {C:A2} {c:Code} {cs:List Code} {l:Loops} (h1:Qm C c l) (h2:M0 C cs l):M0 C (c::cs) l:=by
 intro c' F H e F' H' h h';rcases List.mem_cons.1 h with rfl | h
 ·exact h1 F H e F' H' h'
 ·exact h2 c' F H e F' H' h h'
theorem M0.cast {C:A2} {cs ds:List Code} {l:Loops} (h:M0 C ds l) (e:cs=ds):M0 C cs l:=by rw [e];exact h
theorem lD {C:A2} {c:Code} {N:Nat} {live:List Nat} {S:List AV→Hp→Option (Bool×Ex×List AV×Hp)}
  (hS:∀ vs H e vs' H',S vs H=some (true,e,vs',H')→AWp C 0 (.loop c) (fl N live vs) H (lv N live fun e' vs'' H''=>e'=e∧wk vs' vs''∧H''=H')):Qm C c (fun _ F H=>Ph N live S F H):=
 fun _ _ _ _ _ h=>Vm hS h
end Go.Am
namespace Go.Am
open Go.ChangeShapes Go.WideShapes Go.ChangeAt Go.RowKit
def Cs {H:Type} (P:Program) (L:List RoE) (n:Nat) (t:TypeId) (a:AV) (d:DataW H):Prop:=
 match P.underlying t with
 | some (.struct _)=>∃ cs,a=.agg cs∧F7 P L n t cs d
 | some (.array _ _)=>∃ cs,a=.agg cs∧F7 P L n t cs d
 | _=>F7 P L n t [a] d
def Fu {H:Type} (P:Program) (L:List RoE) (n:Nat):List TypeId→List AV→List (DataW H)→Prop
 | [],[],[]=>True
 | t::ts,a::as,d::ds=>Cs P L n t a d∧Fu P L n ts as ds
 | _,_,_=>False
theorem Cs.mono {H:Type} {P:Program} {L:List RoE} (M:List RoE) {n:Nat} {t:TypeId} {a:AV} {d:DataW H} (h:Cs P L n t a d):Cs P (L++M) n t a d:=by
 unfold Cs at h ⊢;split at h
 ·obtain ⟨cs,h1,h2⟩:=h;exact ⟨cs,h1,h2.mono M⟩
 ·obtain ⟨cs,h1,h2⟩:=h;exact ⟨cs,h1,h2.mono M⟩
 ·exact F7.mono M h
section
variable {H:Type} {enc:TypeId×Value→H} {P:Program} {w:World}
theorem sJ {n:Nat} {t:TypeId} {d:DataW H} {L:List RoE} {cs:List AV} (h:F7 P L n t cs d) (hs:∀ fs,P.underlying t≠some (.struct fs)) (ha:∀ m e,P.underlying t≠some (.array m e)):∃ a,cs=[a]:=by
 cases n with
 | zero=>exact h.elim
 | succ n=>
  unfold F7 at h;split at h
  ·obtain ⟨b,h,_⟩:=h;exact ⟨_,h⟩
  ·obtain ⟨b,h,_⟩:=h;exact ⟨_,h⟩
  ·obtain ⟨b,h,_⟩:=h;exact ⟨_,h⟩
  ·rcases h with ⟨h,_⟩ | ⟨_,_,_,_,h,_⟩
   ·exact ⟨_,h⟩
   ·exact ⟨_,h⟩
  ·rename_i hu;exact absurd hu (hs _)
  ·rename_i hu;exact absurd hu (ha _ _)
  ·exact h.elim
theorem lY {t:TypeId} {v:Value} {r:Reach} {b0 n:Nat} (hp:S0 P n t=true) (hval:Value.okWide P w r b0 t v) (hs:∀ fs,P.underlying t≠some (.struct fs)) (ha:∀ m e,P.underlying t≠some (.array m e)):v.cells.toList=[v]:=by
 cases n with
 | zero=>simp [S0] at hp
 | succ n=>
  unfold S0 at hp;unfold Value.okWide at hval;split at hp
  all_goals first
   | (rename_i hu;rw [hu] at hval;simp only [Cell.okWide,hu,Cell.ok] at hval;cases v<;>first | (simp at hval;done) | rfl)
   | (rename_i hu;exact absurd hu (hs _))
   | (rename_i hu;exact absurd hu (ha _ _))
   | simp at hp
theorem sI {n:Nat} {t:TypeId} {v:Value} {r:Reach} {b0:Nat} {d:DataW H} {ps:List MemPlace} (L:List RoE) (hp:S0 P n t=true) (hval:Value.okWide P w r b0 t v) (hL:Eg w L) (hd:DataW.Trod enc P w 0 (fun _=>true) true t v d ps) :
  ∃ M a,Eg w (L++M)∧VR ⟨[],Jd w (L++M),[]⟩ a v∧Cs P (L++M) n t a d:=by
 obtain ⟨fuel,hd⟩:=hd;obtain ⟨M,cs,h1,h2,h3,_⟩:=iT n fuel t _ _ L hp hL hd
 have agg:∀ ca,v=.agg ca→VR ⟨[],Jd w (L++M),[]⟩ (.agg cs) v:=fun ca hca=>by
  subst hca;simp only [VR];exact ⟨ca,rfl,by simpa [Value.cells] using h2⟩
 by_cases hs:∃ fs,P.underlying t=some (.struct fs)
 ·obtain ⟨fs,hu⟩:=hs;unfold Value.okWide at hval;rw [hu] at hval;obtain ⟨ca,hca,_⟩:=hval;refine ⟨M,.agg cs,h1,agg ca hca,?_⟩;unfold Cs;rw [hu];exact ⟨cs,rfl,h3⟩
 by_cases ha:∃ m e,P.underlying t=some (.array m e)
 ·obtain ⟨m,e,hu⟩:=ha;unfold Value.okWide at hval;rw [hu] at hval;obtain ⟨ca,hca,_⟩:=hval;refine ⟨M,.agg cs,h1,agg ca hca,?_⟩;unfold Cs;rw [hu];exact ⟨cs,rfl,h3⟩
 have hs':∀ fs,P.underlying t≠some (.struct fs):=fun fs h=>hs ⟨fs,h⟩;have ha':∀ m e,P.underlying t≠some (.array m e):=fun m e h=>ha ⟨m,e,h⟩;obtain ⟨a,rfl⟩:=sJ h3 hs' ha';rw [lY hp hval hs' ha'] at h2;simp only [VRs] at h2;obtain ⟨x,xs,e,g1,g2⟩:=h2;simp at e;obtain ⟨rfl,_⟩:=e;refine ⟨M,a,h1,g1,?_⟩;unfold Cs;split
 ·rename_i hu;exact absurd hu (hs' _)
 ·rename_i hu;exact absurd hu (ha' _ _)
 ·exact h3
theorem Zp {n:Nat} {r:Reach} {b0:Nat}:∀ (ts:List TypeId) (vs:List Value) (ds:List (DataW H)) (ps:List MemPlace) (L:List RoE),(∀ t∈ts,S0 P n t=true)→(∀ (j:Nat) t v,ts[j]?=some t→vs[j]?=some v→Value.okWide P w r b0 t v)→
  Eg w L→DataW.TrodAll enc P w 0 (fun _=>true) true ts vs ds ps→∃ M as,Eg w (L++M)∧VRs ⟨[],Jd w (L++M),[]⟩ as vs∧Fu P (L++M) n ts as ds
 | [],vs,ds,ps,L,_,_,hL,h=>by
  obtain ⟨rfl,rfl,rfl⟩:=trodAll_nil h;exact ⟨[],[],by simpa using hL,by simp [VRs],trivial⟩
 | t::ts,vs,ds,ps,L,hp,hv,hL,h=>by
  obtain ⟨v,vs,d,ds,p,q,rfl,rfl,rfl,h1,h2⟩:=trodAll_cons h;obtain ⟨M,a,g1,g2,g3⟩:=sI L (hp t (by simp)) (hv 0 t v rfl rfl) hL h1;obtain ⟨M',as,q1,q2,q3⟩:=Zp ts vs ds q (L++M) (fun x hx=>hp x (by simp [hx])) (fun j x y hx hy=>hv (j+1) x y (by simpa using hx) (by simpa using hy)) g1 h2;refine ⟨M++M',a::as,by rw [←List.append_assoc];exact q1,?_,?_⟩
  ·rw [←List.append_assoc];simp only [VRs];exact ⟨v,vs,rfl,bS (Fl _ _ _) _ _ g2,q2⟩
  ·rw [←List.append_assoc];exact ⟨g3.mono M',q3⟩
theorem Un (hl:laidOutB P=true) {W W':World} (hb:Below W.heap.size W W') {sp:Nat→Bool}:∀ (ts:List TypeId) (vs:List Value) (ds:List (DataW H)) (ps:List MemPlace),(∀ t∈ts,P.readableRec t=true∧t<P.types.size)→(∀ p∈ps,p.block<W.heap.size∧sp p.block=true)→
  DataW.TrodAll enc P W 0 (fun _=>true) true ts vs ds ps→DataW.TrodAll enc P W' 0 sp true ts vs ds ps
 | [],vs,ds,ps,_,_,h=>by
  obtain ⟨rfl,rfl,rfl⟩:=trodAll_nil h;exact trodAll_mk0
 | t::ts,vs,ds,ps,hp,hq,h=>by
  obtain ⟨v,vs,d,ds,p,q,rfl,rfl,rfl,h1,h2⟩:=trodAll_cons h;obtain ⟨r1,r2⟩:=hp t (by simp);refine trodAll_cons_mk (WideElems.Trod_stays hl r1 r2 h1 (fun x hx=>hb.same (hq x (by simp [hx])).1) fun x hx=>(hq x (by simp [hx])).2) ?_;exact Un hl hb ts vs ds q (fun x hx=>hp x (by simp [hx])) (fun x hx=>hq x (by simp [hx])) h2
theorem aO {f:FuncId} {fn:Func} {s:ChangeSpec} {fresh handsOn:Bool} {n:Nat} {tb:TypeId} (hl:laidOutB P=true) (hts:∀ t∈fn.params.toList,S0 P n t=true∧P.readableRec t=true∧t<P.types.size) (hr:fn.resultTypes=#[tb]) (hb:P.underlying tb=some .bool)
  (hvars:s.vars=[]) {W:World} {base:Nat} {args:Array Value} {ds gs:List (DataW H)} {before:List MemPlace} (hval:∀ (j:Nat) t v,fn.params[j]?=some t→args[j]?=some v→Value.okWide P W .any base t v)
  (hW:DataW.Whole enc P fn.params.toList s.vars false W args.toList ds gs before) (hfn:s.fn H ds={ results:=[.lit (.bool true)],args:=ds })
  (main:∀ (L:List RoE) (B:Nat) (as:List AV),(∀ k,(GL L k).all E6=true)→Fu P L n fn.params.toList as ds→∃ G,(∀ k,k<L.length→G k=GL L k)∧ACalls ⟨P,G,B⟩ f as [] fun v _=>v=.bool true) :
  Calls P f args W fun e W'=>∃ v,e=.returned v∧s.post enc P fn false fresh handsOn false W args v W':=by
 have hlt:=hW.lt;have hW':=hW;obtain ⟨p,q,hA,hV,rfl,hfz,hnd⟩:=hW;rw [hvars] at hV;obtain ⟨rfl,rfl⟩:=trodVars_none hV;obtain ⟨M,as,g1,g2,g3⟩:=Zp (n:=n) fn.params.toList args.toList ds p [] (fun t ht=>(hts t ht).1) (fun j t v h1 h2=>hval j t v (by simpa using h1) (by simpa using h2)) (fun k e h=>by simp at h) hA;simp only [List.nil_append] at g1 g2 g3
 have hnw:∀ k,(GL M k).all E6=true:=fun k=>by
  unfold GL;split
  ·rename_i e he;rw [List.all_eq_true];intro v hv;obtain ⟨j,hj⟩:=List.getElem?_of_mem hv;exact (g1 k e he j v hj).1
  ·rfl
 obtain ⟨G,hG,hcall⟩:=main M W.heap.size as hnw g3
 have:=tD (C:=⟨P,G,W.heap.size⟩) (ro:=Jd W M) (W:=W) (cargs:=args) rfl (fun i b d hr=>⟨hr.1,fun k v hv=>by
  obtain ⟨_,e,he,rfl,rfl⟩:=hr;simp only at hv;rw [hG i (List.getElem?_eq_some_iff.1 he).1] at hv;simp only [GL,he] at hv;obtain ⟨_,cv,h1,h2⟩:=g1 i e he k v hv
  exact ⟨cv,h1,h2⟩⟩) g2 hcall
 refine this.mono fun e W' ⟨he,hbl⟩=>⟨.bool true,he,?_⟩;have hfn':s.fn H (ds++[])={ results:=[.lit (.bool true)],args:=ds }:=by rw [List.append_nil];exact hfn
 simp only [List.append_nil] at hlt;refine ⟨ds,[],p++[],[],p,[],hW',?_,?_,?_,hbl.frame _,fun h=>by cases h⟩
 ·rw [hfn',hr];exact trodAll_cons_mk (shut_bool hb true) trodAll_mk0
 ·rw [hfn'];exact Un hl hbl _ _ _ _ (fun t ht=>(hts t ht).2) (fun x hx=>⟨hlt x hx,by simpa using hlt x hx⟩) hA
 ·rw [hfn',hvars];rfl
theorem dY {f:FuncId} {fn:Func} {s:ChangeSpec} {fresh handsOn:Bool} {n:Nat} {tb:TypeId} (hl:laidOutB P=true) (hts:∀ t∈fn.params.toList,S0 P n t=true∧P.readableRec t=true∧t<P.types.size) (hr:fn.resultTypes=#[tb]) (hb:P.underlying tb=some .bool)
  (hvars:s.vars=[]) {W:World} {base:Nat} {args:Array Value} {ds gs:List (DataW H)} {before:List MemPlace} (hval:∀ (j:Nat) t v,fn.params[j]?=some t→args[j]?=some v→Value.okWide P W .any base t v)
  (hW:DataW.Whole enc P fn.params.toList s.vars false W args.toList ds gs before) (hfn:s.fn H ds={ results:=[.lit (.bool true)],args:=ds })
  (main:∀ (L:List RoE) (B:Nat) (as:List AV),(∀ k,(GL L k).all E6=true)→Fu P L n fn.params.toList as ds→ACalls ⟨P,GL L,B⟩ f as [] fun v _=>v=.bool true) :
  Calls P f args W fun e W'=>∃ v,e=.returned v∧s.post enc P fn false fresh handsOn false W args v W':=
 aO hl hts hr hb hvars hval hW hfn fun L B as h1 h2=>⟨GL L,fun _ _=>rfl,main L B as h1 h2⟩
end
abbrev Kc (C:A2):Cfg:={ C:=C,inl:=fun _=>true,strict:=.full,unr:=true,sum:=noSum,loop:=noLoop,M:=0,cmp:=true }
def isT:AV→Bool
 | .bool b=>b
 | _=>false
theorem vW {C:A2} (hm:C.P.follows .mixedOrders=true):Ei (Kc C) []:=⟨hm,Ey C,fun m c F H e F' H' _ h=>by simp at h⟩
theorem closed_run {C : A2} (hm : C.P.follows .mixedOrders = true) {f : FuncId} {fn : Func} (hf : C.P.funcs[f]? = some fn) (hb : fn.body.isSome = true) (hn : (fn.name == "runtime.NumGoroutine") = false) (n : Nat) {args : List AV}
  (h:vc (Kc C) n 0 (.code (B4 fn)) (J1 fn args) [] (J6 C fn fun v _=>chk (isT v) True)=True):ACalls C f args [] fun v _=>v=.bool true:=by
 obtain ⟨c,hc⟩:=Option.isSome_iff_exists.1 hb;have e:B4 fn=c:=by simp [B4,hc]
 rw [e] at h
 have:=call_of_vc (K:=Kc C) (H:=[]) (vW hm) (fun h=>by cases h) n hf hc hn (fun h=>by cases h) (of_eq_true h)
 refine ⟨this.1,fun ρ w cargs hH hv=>(this.2 ρ w cargs hH hv).mono ?_⟩;rintro e w' ⟨v,cv,ρ',H',h1,h2,h3⟩;refine ⟨v,cv,ρ',H',h1,?_,h3⟩;obtain ⟨h4,_⟩:=Au h2;cases v with
 | bool b=>simp only [isT] at h4;rw [h4]
 | _=>simp [isT] at h4
def eK (l:List Nat) (f:Nat):Bool:=match l with
 | []=>false
 | x::l=>match Nat.beq x f with
  | true=>true
  | false=>eK l f
theorem jC:∀ {l:List Nat} {f:Nat},eK l f=true→f∈l
 | [],f,h=>by simp [eK] at h
 | x::l,f,h=>by
  simp only [eK] at h;split at h
  ·rename_i hx;rw [Nat.eq_of_beq_eq_true hx];simp
  ·exact List.mem_cons.2 (.inr (jC h))
def Xp (P:Program) (l:List Nat):Bool:=l.all fun f=>match P.funcs[f]? with
 | some fn=>(loopsOf (B4 fn)).isEmpty
 | none=>true
theorem oG {P:Program} {l:List Nat} {lps:List Code} (h:Xp P l=true):∀ f fn c,eK l f=true→P.funcs[f]?=some fn→fn.body=some c→∀ b∈loopsOf c,b∈lps:=by
 intro f fn c hf hfn hc b hb;simp only [Xp,List.all_eq_true] at h
 have:=h f (jC hf)
 simp only [hfn] at this;have e:B4 fn=c:=by simp [B4,hc]
 rw [e,List.isEmpty_iff] at this;rw [this] at hb;simp at hb
def true_sum:Sum1:=fun args _=>match args with
 | []=>some (true,.bool true,[])
 | _=>none
theorem gI {C:A2} {f:FuncId} (h:∀ G B,ACalls ⟨C.P,G,B⟩ f [] [] fun v _=>v=.bool true):Sd C f true_sum:=by
 intro args H v hs h';unfold true_sum at h';split at h'
 ·simp only [Option.some.injEq,Prod.mk.injEq,true_and] at h';obtain ⟨rfl,rfl⟩:=h';exact Qa ⟨rfl,rfl⟩ ⟨rfl,rfl⟩ h H
 ·simp at h'
theorem ACalls.monoK {C:A2} {f:FuncId} {args:List AV} {H:Hp} {K K':AV→Hp→Prop} (h:ACalls C f args H K) (hk:∀ v H',K v H'→K' v H'):ACalls C f args H K':=
 ⟨h.1,fun ρ w cargs hH hv=>(h.2 ρ w cargs hH hv).mono fun e w' ⟨v,cv,ρ',H',h1,h2,h3⟩=>⟨v,cv,ρ',H',h1,hk v H' h2,h3⟩⟩
theorem ACalls.weaken {C:A2} {f:FuncId} {args args':List AV} {H:Hp} {K:AV→Hp→Prop} (h:ACalls C f args' H K) (hw:∀ ρ vs,VRs ρ args vs→VRs ρ args' vs):ACalls C f args H K:=
 ⟨h.1,fun ρ w cargs hH hv=>h.2 ρ w cargs hH (hw ρ cargs hv)⟩
end Go.Am
namespace Go.Am
open Go.RowKit
end Go.Am
