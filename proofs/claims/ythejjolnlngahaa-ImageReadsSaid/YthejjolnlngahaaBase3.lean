/-
  One operation of a region, and a function's call and return, against t One step of a region; its congruence; regions in the text's order.
-/
import Derived.Test.YthejjolnlngahaaBase2
import Derived.RangeFuncNested
import Derived.LoopNIn
import Derived.OrdersIn
import Derived.Scope
import Derived.LoopN
import Derived.Sort.LoopGhostIn
import Derived.ProofKit
import Derived.OpenShut
import Derived.Carry
import Derived.JoinedCond
import Derived.SizedLaws
import Derived.IntWalk
namespace Go.Am
open Go.RowKit
def Lr:Ex→Exit
 | .normal=>.normal
 | .exit i=>.exit i
 | .ret=>.ret
def Qj (P : Program) (f : FuncId) : Prop := ∃ fn c, P.funcs[f]? = some fn ∧ fn.body = some c ∧ (fn.name == "runtime.NumGoroutine") = false
def ACalls (C:A1) (f:FuncId) (args:List AV) (H:Hp) (K:AV→Hp→Prop):Prop:=
 Qj C.P f∧∀ (ρ:Env) (w:World) (cargs:List Value),B2 C ρ H w→VRs ρ args cargs→
  Calls C.P f cargs.toArray w fun e w'=>∃ v cv ρ' H',e=.returned cv∧K v H'∧ρ.le ρ'∧B2 C ρ' H' w'∧VR ρ' v cv∧Frm ρ w ρ' w'
theorem ACalls.mono {C:A1} {f:FuncId} {args:List AV} {H:Hp} {K K':AV→Hp→Prop} (h:ACalls C f args H K) (hk:∀ v H',K v H'→K' v H'):ACalls C f args H K':=
 ⟨h.1,fun ρ w cargs h1 h2=>(h.2 ρ w cargs h1 h2).mono fun e w' ⟨v,cv,ρ',H',a,b,c⟩=>⟨v,cv,ρ',H',a,hk v H' b,c⟩⟩
def K3 (m:Nat) (ρ ρ':Env):Prop:=∀ i,i<m→ρ'.rw[i]?=ρ.rw[i]?
def AP (C:A1) (m:Nat) (ρ:Env) (w:World) (Q:Post):Exit→Act→World→Prop:=fun e a' w'=>
 ∃ ae ρ' F' H',e=Lr ae∧Q ae F' H'∧K3 m ρ ρ'∧B2 C ρ' H' w'∧D0 ρ' F' a'∧Frm ρ w ρ' w'
def W (r:Option Nat):Fence:={ Fence.wide with round:=r }
theorem Jt {r:Option Nat} {n:Nat} {P:Program} {f:FuncId} {args:Array Value} {w:World} {R:Ending→World→Prop}:CallsIn (W r) n P f args w R↔Calls P f args w R:=
 callsIn_wide (n:=n)
def Cf (r:Option Nat) (c:Code):Bool:=match r with | none=>true | some _=>R0 c
theorem Le {r:Option Nat} {a b:Code} (h:Cf r (.seq a b)=true):Cf r a=true∧Cf r b=true:=by
 cases r<;>simp_all [Cf,R0]
theorem Cy {r:Option Nat} {x:Operand} {a b:Code} (h:Cf r (.cond x a b)=true):Cf r a=true∧Cf r b=true:=by
 cases r<;>simp_all [Cf,R0]
theorem Tz {r:Option Nat} {i:Nat} {c:Code} (h:Cf r (.block i c)=true):Cf r c=true:=by cases r<;>simp_all [Cf,R0]
theorem hY {r:Option Nat} {c:Code} (h:Cf r (.scope c)=true):Cf r c=true:=by cases r<;>simp_all [Cf,R0]
theorem Yz {r:Option Nat} {c:Code} (h:Cf r (.loop c)=true):Cf r c=true:=by cases r<;>simp_all [Cf,R0]
def AWp (C:A1) (m:Nat) (c:Code) (F:Fr) (H:Hp) (Q:Post):Prop:=
 ∀ (r:Option Nat),Cf r c=true→∀ (ρ:Env) (a:Act) (w:World),B2 C ρ H w→D0 ρ F a→c.wpIn (W r) 0 C.P (AP C m ρ w Q) a w
theorem U1 {r:Option Nat} {P:Program} {o:Oper} {a:Act} {w:World} {next:Act→World→Prop} {Q:Exit→Act→World→Prop} (hd:∀ c,o.op≠.defer c) (h:o.uponIn (W r) 0 P a next Q ((execOp a.eval o).run P w)) :
  o.wpIn (W r) 0 P a w next Q:=by
 refine ⟨fun _ _=>trivial,?_⟩
 have e:o.semAt (W r).round a.eval=execOp a.eval o:=by
  cases r with
  | none=>exact Oper.semAt_none ..
  | some l=>exact Oper.semAt_some l _ o hd
 rw [e];exact h
theorem K3.refl (m:Nat) (ρ:Env):K3 m ρ ρ:=fun _ _=>rfl
theorem K3.trans {m:Nat} {a b c:Env} (h:K3 m a b) (k:K3 m b c):K3 m a c:=fun i hi=>(k i hi).trans (h i hi)
theorem K3.of_le {C:A1} {ρ ρ':Env} {H:Hp} {w:World} (hH:B2 C ρ H w) (h:ρ.le ρ') {m:Nat} (hm:m≤H.length):K3 m ρ ρ':=fun i hi=>by
 have hlt:i<ρ.rw.length:=by rw [hH.len];omega
 have:ρ.rw[i]?=some ρ.rw[i]:=by simp [hlt]
 rw [this];exact h.1 i _ this
theorem AP.link {C:A1} {m:Nat} {ρ0 ρ:Env} {w0 w:World} {Q:Post} (hp:K3 m ρ0 ρ) (hf:Frm ρ0 w0 ρ w) {e:Exit} {a:Act} {w':World} (h:AP C m ρ w Q e a w'):AP C m ρ0 w0 Q e a w':=by
 obtain ⟨ae,ρ',F',H',h1,h2,h3,h4,h5,h6⟩:=h;exact ⟨ae,ρ',F',H',h1,h2,hp.trans h3,h4,h5,hf.trans h6⟩
def wantA (all:List Oper) (guard:Option (Nat×Bool)) (F:Fr):Option Bool:=
 match guard with
 | none=>some true
 | some (j,want)=>
  match (all[j]?).bind (·.dst) with
  | some t=>match F.getD t .undef with
   | .bool b=>some (b==want)
   | .tup []=>some false
   | _=>none
  | none=>none
theorem U5 {F:Fr} {t:Nat} {v:AV} (h:F.getD t .undef=v) (hv:v≠.undef):F.set t v=F:=by
 by_cases ht:t<F.length
 ·have:F[t]=v:=by simpa [List.getD,ht] using h
  rw [←this];exact List.set_getElem_self ht
 ·simp [List.getD,ht] at h;exact absurd h.symm hv
theorem eU (n:Nat) (k:Nat→Prop):Kf n k=k n:=by cases n<;>rfl
theorem bC0 (n:Int) (k:Int→Prop):nQ n k=k n:=by cases n<;>simp [nQ,eU]
theorem bB9 (n:Ref) (k:Ref→Prop):eR n k=k n:=by cases n<;>simp [eR,eU]
theorem sH (v:AV) (k:AV→Prop):eY v k=k v:=by
 cases v<;>simp only [eY,bC0,bB9,eU];rename_i b;cases b<;>rfl
theorem eV:∀ (l:List AV) (k:List AV→Prop),Rs l k=k l
 | [],k=>rfl
 | x::xs,k=>by simp only [Rs,sH,eV xs]
theorem bB7 (v:AV) (k:AV→Prop):nO v k=k v:=by
 cases v<;>simp only [nO,eV,sH]
theorem Pj {α:Type}:∀ (F:List α) (d:Nat) (v:α) (k:List α→Prop),Og F d v k=k (F.set d v)
 | [],_,_,_=>rfl
 | _::_,0,_,_=>rfl
 | x::xs,d+1,v,k=>by simp only [Og,Pj xs d v,List.set_cons_succ]
theorem Yv {α:Type}:∀ (F:List α) (v:α) (k:List α→Prop),Nl F v k=k (F++[v])
 | [],_,_=>rfl
 | x::xs,v,k=>by simp only [Nl,Yv xs v,List.cons_append]
theorem sG (v:AV) (k:AV→Prop):nS v k=k v:=by cases v<;>rfl
theorem nR:∀ (l:List AV) (k:List AV→Prop),Xd l k=k l
 | [],_=>rfl
 | x::xs,k=>by simp only [Xd,sG,nR xs]
theorem bB8 (v:AV) (k:AV→Prop):nP v k=k v:=by cases v<;>simp only [nP,sG,nR]
theorem H9 (s:Md) (F:Fr) (d:Option Tmp) (v:AV) (k:Fr→Prop):S0 s F d v k=k (put F d v):=by
 cases s
 ·rfl
 ·cases d
  ·rfl
  ·simp only [S0,bB8,Pj,put]
 ·cases d
  ·rfl
  ·simp only [S0,bB7,Pj,put]
theorem Nk {s:Md} {F:Fr} {d:Option Tmp} {v:AV} {k:Fr→Prop} (h:k (put F d v)):S0 s F d v k:=by rw [H9];exact h
theorem Uq {hint:Nat→Option Bool} {s:Md} {all:List Oper} {guard:Option (Nat×Bool)} {F:Fr} {go skip:Fr→Prop} (h:guardK hint s all guard F go skip) :
  (wantA all guard F=some true∧go F∧∀ go' skip':Fr→Prop,go' F→guardK hint s all guard F go' skip')∨(wantA all guard F=some false∧skip F∧∀ go' skip':Fr→Prop,skip' F→guardK hint s all guard F go' skip'):=by
 unfold guardK at h ⊢;unfold wantA;split at h
 ·exact .inl ⟨rfl,h,fun _ _ h=>h⟩
 ·rename_i j want;split at h
  ·rename_i t ht;simp only [ht];split at h
   ·rename_i b hb;simp only [hb];rcases cU h with ⟨hb1,h2,h3⟩ | ⟨hb1,h2,h3⟩
    ·subst hb1;have h:=J4 h2;simp only [put,U5 hb (by simp)] at h;cases want
     ·exact .inr ⟨rfl,h,fun go' skip' hk=>h3 _ _ (Nk (by simp only [put,U5 hb (by simp)];exact hk))⟩
     ·exact .inl ⟨rfl,h,fun go' skip' hk=>h3 _ _ (Nk (by simp only [put,U5 hb (by simp)];exact hk))⟩
    ·subst hb1;have h:=J4 h2;simp only [put,U5 hb (by simp)] at h;cases want
     ·exact .inl ⟨rfl,h,fun go' skip' hk=>h3 _ _ (Nk (by simp only [put,U5 hb (by simp)];exact hk))⟩
     ·exact .inr ⟨rfl,h,fun go' skip' hk=>h3 _ _ (Nk (by simp only [put,U5 hb (by simp)];exact hk))⟩
   ·rename_i hb;simp only [hb];exact .inr ⟨by trivial,h,fun _ _ h=>h⟩
   ·exact h.elim
  ·exact h.elim
theorem Ye {hint:Nat→Option Bool} {s:Md} {all:List Oper} {guard:Option (Nat×Bool)} {F:Fr} {go skip:Fr→Prop} (h:guardK hint s all guard F go skip) :
  (wantA all guard F=some true∧go F)∨(wantA all guard F=some false∧skip F):=by
 rcases Uq h with ⟨h1,h2,_⟩ | ⟨h1,h2,_⟩
 ·exact .inl ⟨h1,h2⟩
 ·exact .inr ⟨h1,h2⟩
theorem S8 {all:List Oper} {ρ:Env} {F:Fr} {a:Act} (hF:D0 ρ F a) {o:Oper} {b:Bool} (h:wantA all o.guard F=some b):Region.wanted o (yielded all.toArray a.tmps)=b:=by
 unfold wantA at h;unfold Region.wanted;split at h
 ·rename_i hg;simp at h;subst h;simp [hg]
 ·rename_i j want hg;simp only [hg];split at h
  ·rename_i t ht;have hv:=hF.at t;split at h
   ·rename_i b' hb;simp at h;subst h;rw [hb] at hv;simp only [VR] at hv
    have hsome:a.tmps[t]?=some (.bool b'):=by
     rw [Array.getD_eq_getD_getElem?] at hv;cases hq:a.tmps[t]? with
     | none=>simp [hq,undef] at hv
     | some x=>simp [hq] at hv;rw [hv]
    have:yielded all.toArray a.tmps j=some b':=by
     unfold yielded;simp only [List.getElem?_toArray,ht,Option.bind_some,hsome]
    rw [this];cases b'<;>cases want<;>rfl
   ·rename_i hb;simp at h;subst h;rw [hb] at hv;simp only [VR] at hv;obtain ⟨vs,hvs,hr⟩:=hv;simp only [VRs] at hr
    have:yielded all.toArray a.tmps j=none:=by
     unfold yielded;simp only [List.getElem?_toArray,ht,Option.bind_some];rw [Array.getD_eq_getD_getElem?] at hvs;cases hq:a.tmps[t]? with
     | none=>rfl
     | some x=>simp [hq] at hvs;rw [hvs]
    rw [this];rfl
   ·simp at h
  ·simp at h
theorem Ch {P:Program} {f:FuncId} (h:Qj P f) (args:Array Value) (w:World):(callFunc f args).run P w=.ok (.enter f args) w:=by
 obtain ⟨fn,c,h1,h2,h3⟩:=h;have h4 : ¬ (fn.name = "runtime.NumGoroutine") := by simpa using h3
 simp [callFunc,h1,h2,h4]
theorem Jc {P:Program} {w:World} {ρ:Env} {F:Fr} {a:Act} {o:Oper} {f:FuncId} {args:List AV} (hF:D0 ρ F a) (h:callOp F o.op=some (f,args)) (he:Qj P f) :
  ∃ cargs:List Value,VRs ρ args cargs∧(execOp a.eval o).run P w=.ok (.enter f cargs.toArray) w:=by
 have E:=fun x=>Ij hF x;obtain ⟨dst,op,type,pos,after,guard⟩:=o;simp only at h;unfold callOp at h;unfold execOp;split at h
 ·rename_i g xs ts;split at h
  ·rename_i g' cap hg;simp at h;obtain ⟨rfl,rfl⟩:=h;have hv:=E g;rw [hg] at hv;simp only [VR] at hv;obtain ⟨cs,hcs,hr⟩:=hv;refine ⟨xs.toList.map a.eval++cs.toList,Sh (Xt _ _ _ fun x _=>E x) hr,?_⟩;simp only [resolve,hcs,Deferred.ofValue,Sem.run_bind,Sem.run_pure,Result.andThen_ok,invoke,Ch he];congr 2;apply Array.ext';simp
  ·simp at h
 ·simp at h
theorem lY {C:A1} {ρ:Env} {F:Fr} {H:Hp} {w:World} {a:Act} (hH:B2 C ρ H w) (hF:D0 ρ F a) {g:ResultVar→Sem Value} (hg1:∀ t,g (.tmp t)=pure (a.tmps.getD t undef)) (hg2:∀ x t,g (.cell x t)=do loadVar t (←asAddr (a.tmps.getD x undef)))
  {r:ResultVar} {v:AV} (h:Tn C F H r=some (true,v)):∃ cv,(g r).run C.P w=.ok cv w∧VR ρ v cv:=by
 unfold Tn at h;split at h
 ·simp at h;subst h;exact ⟨_,by rw [hg1];rfl,hF.at _⟩
 ·rename_i x t;split at h
  ·rename_i r off hx;unfold Kt at h;split at h
   ·rename_i cs hcs;have hv:=hF.at x;rw [hx] at hv;simp only [VR] at hv;have hv2:=hv;obtain ⟨ad,ha,_⟩:=hv.add;rw [ha] at hv2;obtain ⟨cv,h1,h2⟩:=Pu hH hcs hv2 h;refine ⟨cv,?_,h2⟩;rw [hg2];simp only [ha,asAddr,Sem.run_bind,Sem.run_pure,Result.andThen_ok,h1]
   ·simp at h
  ·simp at h
theorem To {C:A1} {ρ:Env} {F:Fr} {H:Hp} {w:World} {a:Act} (hH:B2 C ρ H w) (hF:D0 ρ F a) {g:ResultVar→Sem Value} (hg1:∀ t,g (.tmp t)=pure (a.tmps.getD t undef)) (hg2:∀ x t,g (.cell x t)=do loadVar t (←asAddr (a.tmps.getD x undef))) :
  ∀ (rs:List ResultVar) (vs:List AV),Gm C F H rs=some (true,vs)→∃ cvs:List Value,(rs.mapM g).run C.P w=.ok cvs w∧VRs ρ vs cvs
 | [],vs,h=>by simp [Gm] at h;subst h;exact ⟨[],rfl,by simp [VRs]⟩
 | r::rs,vs,h=>by
  simp only [Gm] at h;split at h
  ·rename_i c v hr;split at h
   ·rename_i d vs' hrs;simp only [zN,xH,zO] at h;obtain ⟨⟨rfl,rfl⟩,rfl⟩:=h;obtain ⟨cv,h1,h2⟩:=lY hH hF hg1 hg2 hr;obtain ⟨cvs,g1,g2⟩:=To hH hF hg1 hg2 rs vs' hrs;refine ⟨cv::cvs,?_,by simp only [VRs];exact ⟨cv,cvs,rfl,h2,g2⟩⟩;simp only [List.mapM_cons,Sem.run_bind,h1,Result.andThen_ok,g1,Sem.run_pure]
   ·simp at h
  ·simp at h
def Nh (tmps:Array Value):ResultVar→Sem Value
 | .tmp t=>pure (tmps.getD t undef)
 | .cell x t=>do loadVar t (←asAddr (tmps.getD x undef))
theorem Qy (fn:Func) (tmps:Array Value):results fn tmps=(do
  let vs ←fn.results.mapM (Nh tmps)
  pure (if h:vs.size=1 then vs[0] else .tuple vs)):=rfl
theorem Bm {C:A1} {ρ:Env} {F:Fr} {H:Hp} {w:World} {a:Act} (hH:B2 C ρ H w) (hF:D0 ρ F a) {fn:Func} {v:AV} (h:Kb C fn F H=some (true,v)) :
  ∃ cv,(results fn a.tmps).run C.P w=.ok cv w∧VR ρ v cv:=by
 have key:∀ vs,Gm C F H fn.results.toList=some (true,vs)→∃ cvs:List Value,(results fn a.tmps).run C.P w=.ok (if h:cvs.toArray.size=1 then cvs.toArray[0] else .tuple cvs.toArray) w∧VRs ρ vs cvs:=by
  intro vs hvs;obtain ⟨cvs,h1,h2⟩:=To hH hF (g:=Nh a.tmps) (fun t=>rfl) (fun x t=>rfl) _ _ hvs;refine ⟨cvs,?_,h2⟩;rw [Qy,Array.mapM_eq_mapM_toList];simp only [Sem.run_bind,Sem.run_map,Sem.run_pure,h1,Result.andThen_ok]
 unfold Kb at h;split at h
 ·rename_i c v' hr;simp only [zN,xH] at h;obtain ⟨rfl,rfl⟩:=h;obtain ⟨cvs,h1,h2⟩:=key _ hr;simp only [VRs] at h2;obtain ⟨cv,vs',rfl,h3,rfl⟩:=h2;exact ⟨cv,by rw [h1];simp,h3⟩
 ·rename_i c vs hne hr;simp only [zN,xH] at h;obtain ⟨rfl,rfl⟩:=h;obtain ⟨cvs,h1,h2⟩:=key _ hr;have hl:=E6 h2;refine ⟨.tuple cvs.toArray,?_,by simp only [VR];exact ⟨_,rfl,by simpa using h2⟩⟩;rw [h1,dif_neg];intro hs;simp at hs;rw [hs] at hl
  obtain ⟨v,rfl⟩:∃ v,vs=[v]:=by
   match vs,hl with
   | [v],_=>exact ⟨v,rfl⟩
  exact hne v rfl
 ·simp at h
theorem Kv {ρ:Env} {fn:Func} {args:List AV} {cargs:List Value} (h:VRs ρ args cargs) :
  D0 ρ (K7 fn args) { tmps:=cargs.toArray++Array.replicate (fn.ntmps - cargs.toArray.size) undef,defers:=[] }:=by
 have hl:=E6 h;refine ⟨⟨[],rfl,List.nodup_nil,fun _ h=>by simp at h⟩,by simp [K7,hl],fun i v hv=>?_⟩;simp only [K7] at hv;simp only [Array.getD_eq_getD_getElem?];by_cases hi:i<args.length
 ·rw [pY hi] at hv;obtain ⟨cv,h1,h2⟩:=U0 h i v hv;rw [Array.getElem?_append_left (by simp;omega)];simp [h1,h2]
 ·rw [qP (by omega)] at hv;have hlt:=(zP.1 hv).1;simp at hlt;simp [List.getElem?_replicate,hlt] at hv;subst hv;rw [Array.getElem?_append_right (by simp;omega)]
  have:i - cargs.toArray.size<fn.ntmps - cargs.toArray.size:=by simp;omega
  simp only [VR];refine ⟨#[],?_,by simp [VRs]⟩;simp only [List.size_toArray] at this ⊢;simp [Array.getElem?_replicate,this,undef]
theorem Ml {P:Program} {fn:Func} {tmps:Array Value} {R:Ending→World→Prop}:∀ (ds:List Nat) (w:World),ds.Nodup→(∀ D∈ds,w.heap[D]?=some (.deferred (some [])))→
  (∀ w':World,w'.heap.size=w.heap.size→(∀ k,k ∉ ds→w'.heap[k]?=w.heap[k]?)→w'.os=w.os→w'.tape=w.tape→w'.output=w.output→∃ v,(results fn tmps).run P w'=.ok v w'∧R (.returned v) w')→
  LeavesInM Fence.wide 0 P fn tmps R (ds.map fun D=>{ target:=.collected D,args:=#[] }) .returning w
 | [],w,_,_,h=>h w rfl (fun _ _=>rfl) rfl rfl rfl
 | D::ds,w,hn,hd,h=>by
  refine ⟨by simp,.inl ⟨D,w.putObj D (.deferred none),rfl,run_takeDeferred (hd D (by simp)),?_⟩⟩;refine Ml ds _ (List.nodup_cons.1 hn).2 (fun D' hD'=>?_) fun w' h1 h2 h3 h4 h5=>?_
  ·rw [World.putObj_heap_other (fun e:D'=D=>(List.nodup_cons.1 hn).1 (by rw [←e];exact hD'))];exact hd D' (by simp [hD'])
  ·refine h w' (by rw [h1];simp) (fun k hk=>?_) h3 h4 h5;rw [h2 k (fun hh=>hk (by simp [hh])),World.putObj_heap_other (fun e=>hk (by simp [e]))]
theorem B2.setDfs {C:A1} {ρ:Env} {H:Hp} {w:World} (h:B2 C ρ H w) (d:List Nat) (hd:∀ D∈d,w.heap[D]?=some (.deferred (some []))∧(∀ (i:Nat) e,ρ.rw[i]?=some (some e)→e.blk≠D)∧∀ i k,¬ρ.ro i D k):B2 C ⟨ρ.rw,ρ.ro,d⟩ H w:=
 ⟨h.len,h.base,h.ents,fun i b hb=>(h.live i b hb).sub (Env.sub_dfs ρ d) fun _ _=>rfl,h.inj,h.ro,hd⟩
theorem acalls_of {C : A1} {f : FuncId} {fn : Func} {c : Code} {args : List AV} {H : Hp} {K : AV → Hp → Prop} (hf : C.P.funcs[f]? = some fn) (hb : fn.body = some c) (hn : (fn.name == "runtime.NumGoroutine") = false)
  (h:AWp C H.length c (K7 fn args) H (L1 C fn K)):ACalls C f args H K:=by
 refine ⟨⟨fn,c,hf,hb,hn⟩,fun ρ w cargs hH hv=>callsIn_wide.1 (callsIn_of_wp_marks (n:=0) hf hb trivial (wpIn_mono (h none rfl ⟨ρ.rw,ρ.ro,[]⟩ _ w (hH.setDfs [] (fun _ h=>by simp at h)) (Kv (VRs.sub (Env.sub_dfs ρ []) _ _ hv))) ?_))⟩;rintro e a' w' ⟨ae,ρ',F',H',rfl,hQ,hp,hH',hF',hfr⟩
 have fin:Sp (Kb C fn F' H') (fun v=>K v H')→LeavesInM Fence.wide 0 C.P fn a'.tmps (fun e w''=>∃ v cv ρ' H',e=.returned cv∧K v H'∧ρ.le ρ'∧B2 C ρ' H' w''∧VR ρ' v cv∧Frm ρ w ρ' w'') a'.defers .returning w':=by
  intro ho;obtain ⟨ds,hds,hnd,hD⟩:=hF'.nod
  have fresh:∀ D∈ds,w.heap.size≤D:=fun D h=>by
   rcases hfr.mkn D (hD D h) with h1 | h1
   ·simp at h1
   ·exact h1
  rw [hds];refine Ml ds w' hnd (fun D h=>(hH'.df D (hD D h)).1) fun w'' hs hk ho2 ht hou=>?_;obtain ⟨v,h1,h2⟩:=S3 ho
  have hH'':B2 C ⟨ρ'.rw,ρ'.ro,ρ.dfs⟩ H' w'':=by
   refine ⟨hH'.len,by rw [hs];exact hH'.base,fun i e he=>by rw [hs];exact hH'.ents i e he,fun i b hb=>(hH'.live i b hb).sub (Env.sub_dfs ρ' ρ.dfs) fun e he=>hk e.blk fun hin=>(hH'.df _ (hD _ hin)).2.1 i e he rfl,hH'.inj,fun i b d hr=>?_,fun D hDD=>⟨?_,fun i e he=>?_,fun i d hr=>?_⟩⟩
   ·obtain ⟨g1,g2,g3⟩:=hH'.ro i b d hr;refine ⟨by rw [hs];exact g1,g2,fun k v hv=>?_⟩;obtain ⟨cv,g4,g5⟩:=g3 k v hv;refine ⟨cv,?_,g5⟩;rw [World.cell?_of_block (w:=w') (hk b fun hin=>(hH'.df b (hD b hin)).2.2 i d hr)];exact g4
   ·have hlt:=hH.df_lt hDD;rw [hk D fun hin=>by have:=fresh D hin;omega,hfr.keep D hlt (.inr (hH.df D hDD).2.1)];exact (hH.df D hDD).1
   ·have hlt:=hH.df_lt hDD;rcases hfr.news i e he with ⟨j,e',hj,hje⟩ | hge
    ·rw [←hje];exact (hH.df D hDD).2.1 j e' hj
    ·omega
   ·have hlt:=hH.df_lt hDD;rcases hfr.newro i D d hr with h1 | ⟨j,e,he,heb⟩ | h1
    ·exact (hH.df D hDD).2.2 i d h1
    ·exact (hH.df D hDD).2.1 j e he heb
    ·omega
  have hF'':D0 ⟨ρ'.rw,ρ'.ro,ρ.dfs⟩ F' ⟨a'.tmps,[]⟩:=⟨⟨[],rfl,List.nodup_nil,fun _ h=>by simp at h⟩,hF'.len,fun i v hv=>VR.sub (Env.sub_dfs ρ' ρ.dfs) v _ (hF'.val i v hv)⟩;obtain ⟨cv,g1,g2⟩:=Bm hH'' hF'' h1
  have hle:ρ.le ⟨ρ'.rw,ρ'.ro,ρ.dfs⟩:=⟨fun i x hx=>by
   have hlt:i<ρ.rw.length:=(zP.1 hx).1;show ρ'.rw[i]?=_
   rw [hp i (by rw [←hH.len];exact hlt)];exact hx,hfr.ro,fun _ h=>h⟩
  exact ⟨cv,g1,v,cv,_,H',rfl,h2,hle,hH'',g2,⟨ho2.trans hfr.os,ht.trans hfr.tape,hou.trans hfr.output,by rw [hs];exact hfr.size,
   fun b hb hn=>(hk b fun hin=>by have:=fresh b hin;omega).trans (hfr.keep b hb hn),hfr.news,hfr.ro,hfr.newro,fun _ h=>.inl h⟩⟩
 cases ae with
 | normal=>exact fin hQ
 | ret=>exact fin hQ
 | exit i=>exact hQ.elim
structure Ee (K:Cfg) (lps:List Code):Prop where
 mix:K.C.P.follows .mixedOrders=true
 calls:∀ f args H v hs,K.sum f args H=some (true,v,hs)→ACalls K.C f args H fun v' H'=>v'=v∧H'=acts H hs
 loops:∀ m c F H e F' H',m≤K.M→c∈lps→K.loop c F H=some (true,e,F',H')→AWp K.C m (.loop c) F H fun e' F'' H''=>e'=e∧F''=F'∧H''=H'
def AYld (C:A1) (i:Nat) (args:List AV) (H:Hp) (R:AV→Hp→Prop):Prop:=
 ∀ (ρ:Env) (F:Fr) (w:World) (a:Act) (o:Oper) (r:Option Nat) (next:Act→World→Prop) (Q:Exit→Act→World→Prop),B2 C ρ H w→D0 ρ F a→yldOp F o.op=some (i,args)→
  (∀ v H' ρ' cv w',R v H'→B2 C ρ' H' w'→VR ρ' v cv→ρ.le ρ'→Frm ρ w ρ' w'→next (a.put o.dst cv) w')→o.wpIn (W r) 0 C.P a w next Q
inductive St (K:Cfg) (all:List Oper) (o:Oper) (F:Fr) (H:Hp):Tr→AV→Hp→Prop
 | skip (hw:wantA all o.guard F=some false):St K all o F H ⟨.still,H.length,[]⟩ (.tup []) H
 | pure (hw:wantA all o.guard F=some true) {v:AV} (hk:kdOf K.C.P o.op=.pure) (h:G5 K.C.P F o.op=some (true,v)):St K all o F H ⟨.still,H.length,[]⟩ v H
 | read (hw:wantA all o.guard F=some true) {v:AV} (hk:kdOf K.C.P o.op=.read) (h:M7 K.C F H o.op=some (true,v)) :
   St K all o F H ⟨(match Lx F o.op with | some r=>.read r | none=>.still),H.length,[]⟩ v H
 | write (hw:wantA all o.guard F=some true) {v:AV} {x:Hop} (hk:kdOf K.C.P o.op=.write) (h:H7 K.C F H o.op=some (true,v,x)):St K all o F H ⟨.write,H.length,[x]⟩ v (x.act H)
 | call (hw:wantA all o.guard F=some true) {f:FuncId} {args:List AV} {v:AV} {hs:List Hop} (hk:kdOf K.C.P o.op=.call) (h:callOp F o.op=some (f,args)) (hs':ACalls K.C f args H fun v' H'=>v'=v∧H'=acts H hs) :
   St K all o F H ⟨.write,H.length,hs⟩ v (acts H hs)
 | yld (hw:wantA all o.guard F=some true) {i:Nat} {args:List AV} {v:AV} {hs:List Hop} (h:yldOp F o.op=some (i,args)) (hs':AYld K.C i args H fun v' H'=>v'=v∧H'=acts H hs) :
   St K all o F H ⟨.write,H.length,hs⟩ v (acts H hs)
theorem bA1 {P:Program} {F:Fr} {op:Op} {x:Bool×AV} (h:G5 P F op=some x):∀ c,op≠.defer c:=by rintro c rfl;simp [G5] at h
theorem bA0 {C:A1} {F:Fr} {H:Hp} {op:Op} {x:Bool×AV} (h:M7 C F H op=some x):∀ c,op≠.defer c:=by rintro c rfl;simp [M7] at h
theorem aM2 {C:A1} {F:Fr} {H:Hp} {op:Op} {x:Bool×AV×Hop} (h:H7 C F H op=some x):∀ c,op≠.defer c:=by rintro c rfl;simp [H7] at h
theorem Wu {F:Fr} {op:Op} {x:FuncId×List AV} (h:callOp F op=some x):∀ c,op≠.defer c:=by rintro c rfl;simp [callOp] at h
theorem St.sound {K:Cfg} {lps:List Code} (hK:Ee K lps) {all:List Oper} {o:Oper} {F:Fr} {H H':Hp} {tr:Tr} {v:AV} (hst:St K all o F H tr v H') {ρ:Env} {a:Act} {w:World} (hH:B2 K.C ρ H w) (hF:D0 ρ F a)
  {next:Act→World→Prop} {Q:Exit→Act→World→Prop} {r:Option Nat}
  (hn:∀ ρ' cv w',B2 K.C ρ' H' w'→VR ρ' v cv→ρ.le ρ'→Frm ρ w ρ' w'→next (a.put o.dst cv) w') :
  if Region.wanted o (yielded all.toArray a.tmps) then o.wpIn (W r) 0 K.C.P a w next Q else (∀ f,o.about K.C.P w a.eval=some f→(W r).fn f)∧next (a.put o.dst undef) w:=by
 cases hst with
 | skip hw=>
  rw [S8 hF hw,if_neg (by simp)];exact ⟨fun _ _=>trivial,hn ρ undef w hH (by simp only [VR];exact ⟨#[],rfl,by simp [VRs]⟩) (Env.le_refl ρ) (Frm.refl ρ w)⟩
 | pure hw hk h=>
  rw [S8 hF hw,if_pos rfl];obtain ⟨cv,h1,h2⟩:=uN (w:=w) hF h;refine U1 (bA1 h) ?_;rw [h1];exact hn ρ cv w hH h2 (Env.le_refl ρ) (Frm.refl ρ w)
 | read hw hk h=>
  rw [S8 hF hw,if_pos rfl];obtain ⟨cv,h1,h2⟩:=uJ hH hF h;refine U1 (bA0 h) ?_;rw [h1];exact hn ρ cv w hH h2 (Env.le_refl ρ) (Frm.refl ρ w)
 | write hw hk h=>
  rw [S8 hF hw,if_pos rfl];obtain ⟨nx,cv,w',ρ',h1,h2,h3,h4,h5,h6⟩:=pG hH hF h;refine U1 (aM2 h) ?_;rw [h1];rcases h2 with rfl | ⟨rfl,rfl⟩
  ·exact hn ρ' cv w' h3 h4 h5 h6
  ·exact hn ρ' undef w' h3 h4 h5 h6
 | call hw hk h hs'=>
  rename_i f args hs;rw [S8 hF hw,if_pos rfl];obtain ⟨he,hc⟩:=hs';obtain ⟨cargs,hv,h1⟩:=Jc (w:=w) hF h he;refine U1 (Wu h) ?_;rw [h1];refine ⟨fun h=>by simp [W,Fence.wide] at h,Jt.2 ((hc ρ w cargs hH hv).mono ?_)⟩;rintro e w' ⟨v',cv,ρ',H'',rfl,⟨rfl,rfl⟩,h3,h4,h5,h6⟩;exact hn ρ' cv w' h4 h5 h3 h6
 | yld hw h hs'=>
  rw [S8 hF hw,if_pos rfl];exact hs' ρ F w a o r next Q hH hF h fun v' H'' ρ' cv w' ⟨e1,e2⟩ g1 g2 g3 g4=>by subst e1;subst e2;exact hn ρ' cv w' g1 g2 g3 g4
theorem Oper.wpIn_monoQ {F:Fence} {n:Nat} {P:Program} {o:Oper} {a:Act} {w:World} {K K':Act→World→Prop} {Q Q':Exit→Act→World→Prop} (hk:∀ a w,K a w→K' a w) (hq:∀ e a w,Q e a w→Q' e a w) (h:o.wpIn F n P a w K Q):o.wpIn F n P a w K' Q':=by
 unfold Oper.wpIn at *;refine ⟨h.1,?_⟩;have h:=h.2;generalize (o.semAt F.round a.eval).run P w=r at *;have hl:LetsOut Q→LetsOut Q':=fun ⟨a,w,h⟩=>⟨a,w,hq _ _ _ h⟩;cases r with
 | ok n w'=>
  cases n<;>simp only [Oper.uponIn] at h ⊢ <;>
   first
    | exact hk _ _ h
    | exact ⟨h.1,CallsIn.mono h.2 (fun e w'' he=>by cases e<;>first | exact hk _ _ he | exact hq _ _ _ he | exact hl he)⟩
    | exact ⟨h.1,RowsIn.mono h.2 (fun _ _ he=>hk _ _ he)⟩
    | exact ⟨h.1,RoundIn.mono h.2 (fun e w'' he=>by cases e<;>first | exact hk _ _ he | exact hq _ _ _ he | exact hl he)⟩
 | halt x w'=>cases x<;>simp only [Oper.uponIn] at h ⊢<;>exact hq _ _ _ h
theorem N8 {F:Fence} {n:Nat} {P:Program} {ops:Array Oper} {Q Q':Exit→Act→World→Prop} (hq:∀ e a w,Q e a w→Q' e a w):∀ (l:List Oper) (a:Act) (w:World),wpListIn F n P ops Q l a w→wpListIn F n P ops Q' l a w
 | [],a,w,h=>hq _ _ _ h
 | o::l,a,w,h=>by
  unfold wpListIn at *;split
  ·rename_i hw;rw [if_pos hw] at h;exact Oper.wpIn_monoQ (N8 hq l) hq h
  ·rename_i hw;rw [if_neg hw] at h;exact ⟨h.1,N8 hq l _ _ h.2⟩
inductive DT (K:Cfg) (all:List Oper):List Oper→Fr→Hp→List Tr→Fr→Hp→Prop
 | nil (F:Fr) (H:Hp):DT K all [] F H [] F H
 | cons {o:Oper} {l:List Oper} {F F':Fr} {H H' H'':Hp} {tr:Tr} {v:AV} {trs:List Tr} (h:St K all o F H tr v H') (t:DT K all l (put F o.dst v) H' trs F' H''):DT K all (o::l) F H (tr::trs) F' H''
def loopsOf:Code→List Code
 | .seq a b=>loopsOf a++loopsOf b
 | .cond _ a b=>loopsOf a++loopsOf b
 | .block _ c=>loopsOf c
 | .scope c=>loopsOf c
 | .loop c=>c::loopsOf c
 | .rangeFunc g ps as bd=>[.rangeFunc g ps as bd]
 | _=>[]
theorem AWp.mono {C:A1} {m:Nat} {c:Code} {F:Fr} {H:Hp} {Q Q':Post} (h:AWp C m c F H Q) (hq:∀ e F H,Q e F H→Q' e F H):AWp C m c F H Q':=
 fun r hr ρ a w h1 h2=>Code.wpIn_mono (fun e a' w' ⟨ae,ρ',F',H',g1,g2,g3⟩=>⟨ae,ρ',F',H',g1,hq _ _ _ g2,g3⟩) (h r hr ρ a w h1 h2)
theorem S2 {C:A1} {m:Nat} {ρ ρ':Env} {H H':Hp} {w w':World} (hm:m≤H.length) (h1:B2 C ρ H w) (h2:B2 C ρ' H' w') (hp:K3 m ρ ρ'):m≤H'.length:=by
 rw [←h2.len];rcases Nat.eq_zero_or_pos m with rfl | h0
 ·omega
 ·have:=hp (m - 1) (by omega)
  have hl:m - 1<ρ.rw.length:=by rw [h1.len];omega
  rw [xW hl] at this
  have:=(zP.1 this).1
  omega
theorem AP.seq {C:A1} {m:Nat} {ρ:Env} {w:World} {rec:Rec} {b:Code} {Q:Post} {H:Hp} (hm:m≤H.length) (hH:B2 C ρ H w)
  {r:Option Nat} (hb:∀ F' H',rec m (.code b) F' H' Q→∀ ρ' a' w',m≤H'.length→B2 C ρ' H' w'→D0 ρ' F' a'→b.wpIn (W r) 0 C.P (AP C m ρ' w' Q) a' w') {e:Exit} {a':Act} {w':World}
  (h:AP C m ρ w (Nc rec m b Q) e a' w'):Exit.then (b.wpIn (W r) 0 C.P (AP C m ρ w Q)) (AP C m ρ w Q) e a' w':=by
 obtain ⟨ae,ρ',F',H',rfl,h2,h3,h4,h5,h6⟩:=h;cases ae with
 | normal=>
  exact Code.wpIn_mono (fun e a w h=>AP.link h3 h6 h) (hb F' H' h2 ρ' a' w' (S2 hm hH h4 h3) h4 h5)
 | exit i=>exact ⟨.exit i,ρ',F',H',rfl,h2,h3,h4,h5,h6⟩
 | ret=>exact ⟨.ret,ρ',F',H',rfl,h2,h3,h4,h5,h6⟩
theorem aO4 {F F':Fr} {x:Operand} (h:∀ t,x=.tmp t→F'.getD t .undef=F.getD t .undef):ev F' x=ev F x:=by
 cases x with
 | tmp t=>exact h t rfl
 | const v=>rfl
 | global g=>rfl
 | func f=>rfl
def Na (op:Op) (F F':Fr):Prop:=∀ x∈op.operands.toList,ev F' x=ev F x
theorem uO {P:Program} {F F':Fr} {op:Op} (h:Na op F F'):G5 P F' op=G5 P F op:=by
 unfold Na at h;cases op with
 | move x=>simp only [G5,h x (by simp [Op.operands])]
 | assign x=>simp only [G5,h x (by simp [Op.operands])]
 | pick c a b=>simp only [G5,h c (by simp [Op.operands]),h a (by simp [Op.operands]),h b (by simp [Op.operands])]
 | nilCheck x=>simp only [G5,h x (by simp [Op.operands])]
 | binOp op t x y ty=>simp only [G5,h x (by simp [Op.operands]),h y (by simp [Op.operands])]
 | unOp op t x=>simp only [G5,h x (by simp [Op.operands])]
 | convert s d x=>simp only [G5,h x (by simp [Op.operands])]
 | fieldAddr s x f=>simp only [G5,h x (by simp [Op.operands])]
 | indexAddr t x i=>simp only [G5,h x (by simp [Op.operands]),h i (by simp [Op.operands])]
 | slice t x lo hi mx=>
  cases mx with
  | some m=>rfl
  | none=>
   have hx:=h x (by simp [Op.operands])
   have hlo:lo.map (ev F')=lo.map (ev F):=by
    cases lo with
    | none=>rfl
    | some l=>simp [h l (by simp [Op.operands])]
   have hhi:hi.map (ev F')=hi.map (ev F):=by
    cases hi with
    | none=>rfl
    | some l=>simp [h l (by simp [Op.operands])]
   simp only [G5,hx,hlo,hhi]
 | build t parts=>
  have:parts.toList.map (fun p=>(p.1,ev F' p.2))=parts.toList.map (fun p=>(p.1,ev F p.2)):=List.map_congr_left fun p hp=>by
   rw [h p.2 (by simp only [Op.operands];simp;exact ⟨p.1,by simpa using hp⟩)]
  simp only [G5,this]
 | extract x i=>simp only [G5,h x (by simp [Op.operands])]
 | makeFunc fn first cap=>
  cases fn with
  | func f=>
   have:cap.toList.map (ev F')=cap.toList.map (ev F):=List.map_congr_left fun x hx=>h x (by simp [Op.operands];exact .inr (by simpa using hx))
   simp only [G5,this]
  | _=>rfl
 | call c=>
  obtain ⟨callee,args,ats⟩:=c;have hx:∀ x∈args.toList,ev F' x=ev F x:=fun x hx=>h x (by simp [Op.operands,Call.operands];exact .inr (by simpa using hx));cases callee with
  | value f=>rfl
  | invoke r n=>rfl
  | builtin b=>
   cases b<;>try rfl
   all_goals
    simp only [G5];split
    ·first
      | (rename_i x t e1 e2;rw [hx x (by rw [e1];simp)];done)
      | (rename_i x y e1;rw [hx x (by rw [e1];simp),hx y (by rw [e1];simp)])
    ·rfl
 | _=>rfl
theorem uK {C:A1} {F F':Fr} {H H':Hp} {op:Op} (h:Na op F F') (hc:∀ r,Lx F op=some r→E5 C H' r=E5 C H r):M7 C F' H' op=M7 C F H op:=by
 unfold Na at h;cases op with
 | load t a=>
  simp only [M7,Lx,h a (by simp [Op.operands])] at *;split
  ·rename_i r off he;simp only [Kt,hc r (by simp [he])]
  ·rfl
 | field t x f=>simp only [M7,h x (by simp [Op.operands])]
 | index t x i=>simp only [M7,h x (by simp [Op.operands]),h i (by simp [Op.operands])]
 | convert s d x=>
  simp only [M7,Lx,h x (by simp [Op.operands])] at *;split
  ·rfl
  ·rename_i mb r off n _ he;simp only [hc r (by simp [he])]
  ·rfl
 | _=>rfl
theorem pH {C:A1} {F F':Fr} {H:Hp} {op:Op} (h:Na op F F'):H7 C F' H op=H7 C F H op:=by
 unfold Na at h;cases op with
 | store t a x=>simp only [H7,h a (by simp [Op.operands]),h x (by simp [Op.operands])]
 | box e x=>simp only [H7,h x (by simp [Op.operands])]
 | buildSlice t n parts=>
  have:parts.toList.map (fun p=>(p.1,ev F' p.2))=parts.toList.map (fun p=>(p.1,ev F p.2)):=List.map_congr_left fun p hp=>by
   rw [h p.2 (by simp only [Op.operands];simp;exact ⟨p.1,by simpa using hp⟩)]
  simp only [H7,this]
 | makeSlice t l c=>simp only [H7,h l (by simp [Op.operands]),h c (by simp [Op.operands])]
 | convert s d x=>simp only [H7,h x (by simp [Op.operands])]
 | call c=>
  obtain ⟨callee,args,ats⟩:=c;have hx:∀ x∈args.toList,ev F' x=ev F x:=fun x hx=>h x (by simp [Op.operands,Call.operands];exact .inr (by simpa using hx));cases callee with
  | value f=>rfl
  | invoke r n=>rfl
  | builtin b=>
   cases b<;>try rfl
   all_goals
    simp only [H7];split
    ·first
      | (rename_i s x t u e1 e2;rw [hx s (by rw [e1];simp),hx x (by rw [e1];simp)];done)
      | (rename_i x t e1 e2;rw [hx x (by rw [e1];simp)];done)
    ·rfl
 | _=>rfl
theorem wG {F F':Fr} {op:Op} (h:Na op F F'):callOp F' op=callOp F op:=by
 unfold Na at h;cases op with
 | call c=>
  obtain ⟨callee,args,ats⟩:=c;have hx:∀ x∈args.toList,ev F' x=ev F x:=fun x hx=>h x (by simp [Op.operands,Call.operands];exact .inr (by simpa using hx));cases callee with
  | value f=>
   have hf:=h f (by simp [Op.operands,Call.operands])
   have:args.toList.map (ev F')=args.toList.map (ev F):=List.map_congr_left hx
   simp only [callOp,hf,this]
  | _=>rfl
 | _=>rfl
theorem wR {F F':Fr} {op:Op} (h:Na op F F'):yldOp F' op=yldOp F op:=by
 unfold Na at h;cases op with
 | call c=>
  obtain ⟨callee,args,ats⟩:=c;have hx:∀ x∈args.toList,ev F' x=ev F x:=fun x hx=>h x (by simp [Op.operands,Call.operands];exact .inr (by simpa using hx));cases callee with
  | value f=>
   have hf:=h f (by simp [Op.operands,Call.operands])
   have:args.toList.map (ev F')=args.toList.map (ev F):=List.map_congr_left hx
   simp only [yldOp,hf,this]
  | _=>rfl
 | _=>rfl
theorem aN0 {all:List Oper} {o:Oper} {F F':Fr} (h:∀ t∈Ns all o,F'.getD t .undef=F.getD t .undef):Na o.op F F':=fun x hx=>aO4 fun t ht=>by
 subst ht;refine h t ?_;unfold Ns;exact List.mem_append.2 (.inl (List.mem_filterMap.2 ⟨.tmp t,hx,rfl⟩))
theorem tJ {all:List Oper} {o:Oper} {F F':Fr} (h:∀ t∈Ns all o,F'.getD t .undef=F.getD t .undef):wantA all o.guard F'=wantA all o.guard F:=by
 unfold wantA;split
 ·rfl
 ·rename_i j want hg;split
  ·rename_i t ht;rw [h t ?_];unfold Ns;refine List.mem_append.2 (.inr ?_);simp only [hg,ht];simp
  ·rfl
theorem St.heap {K:Cfg} {all:List Oper} {o:Oper} {F:Fr} {H H':Hp} {tr:Tr} {v:AV} (h:St K all o F H tr v H'):H'=acts H tr.hs∧tr.len=H.length∧(tr.hs=[]∨tr.kd=.write):=by
 cases h with
 | skip hw=>exact ⟨rfl,rfl,.inl rfl⟩
 | pure hw hk h=>exact ⟨rfl,rfl,.inl rfl⟩
 | read hw hk h=>exact ⟨rfl,rfl,.inl rfl⟩
 | write hw hk h=>exact ⟨rfl,rfl,.inr rfl⟩
 | call hw hk h hs'=>exact ⟨rfl,rfl,.inr rfl⟩
 | yld hw h hs'=>exact ⟨rfl,rfl,.inr rfl⟩
theorem St.move {K:Cfg} {all:List Oper} {o:Oper} {F F':Fr} {H H2 H':Hp} {tr:Tr} {v:AV} (h:St K all o F H tr v H') (ha:∀ t∈Ns all o,F'.getD t .undef=F.getD t .undef)
  (hw:tr.kd=.write→H2=H) (hr:∀ r,tr.kd=.read r→E5 K.C H2 r=E5 K.C H r):∃ tr',St K all o F' H2 tr' v (acts H2 tr.hs):=by
 have ag:=aN0 ha;have wn:=tJ ha;cases h with
 | skip h1=>exact ⟨_,.skip (wn.trans h1)⟩
 | pure h1 hk h=>exact ⟨_,.pure (wn.trans h1) hk ((uO ag).trans h)⟩
 | read h1 hk h=>
  refine ⟨_,.read (wn.trans h1) hk ((uK ag fun r hs=>hr r ?_).trans h)⟩;simp only [hs]
 | write h1 hk h=>
  have:=hw rfl
  subst this;exact ⟨_,.write (wn.trans h1) hk ((pH ag).trans h)⟩
 | call h1 hk h hs'=>
  have:=hw rfl
  subst this;exact ⟨_,.call (wn.trans h1) hk ((wG ag).trans h) hs'⟩
 | yld h1 h hs'=>
  have:=hw rfl
  subst this;exact ⟨_,.yld (wn.trans h1) ((wR ag).trans h) hs'⟩
def FSel (S:Nat→Bool):Nat→List Oper→List AV→Fr→Fr
 | i,o::l,v::vs,F=>FSel S (i+1) l vs (bif S i then put F o.dst v else F)
 | _,_,_,F=>F
def M0 (S:Nat→Bool):Nat→List Tr→Hp→Hp
 | i,t::ts,H=>M0 S (i+1) ts (bif S i then acts H t.hs else H)
 | _,[],H=>H
def F6 (j:Nat):Nat→Bool:=fun i=>decide (i<j)
theorem uM (F:Fr) (d:Option Tmp) (v:AV):(put F d v).length=F.length:=by cases d<;>simp [put]
theorem jD {F:Fr} {d:Option Tmp} {v:AV} {t:Tmp} (h:d≠some t):(put F d v).getD t .undef=F.getD t .undef:=by
 cases d with
 | none=>rfl
 | some d=>
  have:d≠t:=fun e=>h (by rw [e])
  simp [put,List.getD,zA5,this]
theorem aK4 {F:Fr} {d d':Option Tmp} {v v':AV} (h:d=none∨d≠d'):put (put F d v) d' v'=put (put F d' v') d v:=by
 cases d with
 | none=>rfl
 | some d=>
  cases d' with
  | none=>rfl
  | some d'=>
   have:d≠d':=fun e=>by
    rcases h with h | h
    ·simp at h
    ·exact h (by rw [e])
   exact List.set_comm _ _ this
theorem pE (S:Nat→Bool):∀ (l:List Oper) (vs:List AV) (i:Nat) (F:Fr) (d:Option Tmp) (v:AV),(∀ k o,l[k]?=some o→S (i+k)=true→d=none∨d≠o.dst)→
  FSel S i l vs (put F d v)=put (FSel S i l vs F) d v
 | [],vs,i,F,d,v,_=>by simp [FSel]
 | o::l,[],i,F,d,v,_=>by simp [FSel]
 | o::l,x::vs,i,F,d,v,h=>by
  simp only [FSel];have ih:=fun F=>pE S l vs (i+1) F d v fun k o' hk hs=>h (k+1) o' (by simpa using hk) (by rw [show i+(k+1)=i+1+k by omega];exact hs);cases hS:S i with
  | false=>simp only [cond_false];exact ih F
  | true=>
   simp only [cond_true];rw [aK4 (h 0 o rfl (by simpa using hS))];exact ih _
theorem Ky (S S':Nat→Bool):∀ (l:List Oper) (vs:List AV) (i:Nat) (F:Fr),(∀ k,k<l.length→S (i+k)=S' (i+k))→FSel S i l vs F=FSel S' i l vs F
 | [],vs,i,F,_=>by simp [FSel]
 | o::l,[],i,F,_=>by simp [FSel]
 | o::l,x::vs,i,F,h=>by
  simp only [FSel];have h0:=h 0 (by simp);simp only [Nat.add_zero] at h0;rw [h0]
  exact Ky S S' l vs (i+1) _ fun k hk=>by
   have:=h (k+1) (by simp;omega)
   rwa [show i+(k+1)=i+1+k by omega] at this
theorem Yi (S S':Nat→Bool):∀ (l:List Oper) (vs:List AV) (i:Nat) (F:Fr) (j:Nat) (o:Oper) (v:AV),l[j]?=some o→vs[j]?=some v→S (i+j)=false→S' (i+j)=true→
  (∀ k,k≠i+j→S' k=S k)→(∀ k o',j<k→l[k]?=some o'→S (i+k)=true→o.dst=none∨o.dst≠o'.dst)→FSel S' i l vs F=put (FSel S i l vs F) o.dst v
 | [],vs,i,F,j,o,v,h1,_,_,_,_,_=>by simp at h1
 | o1::l,[],i,F,j,o,v,_,h2,_,_,_,_=>by simp at h2
 | o1::l,x::vs,i,F,0,o,v,h1,h2,h3,h4,h5,h6=>by
  simp only [List.getElem?_cons_zero,zN] at h1 h2;subst h1 h2;simp only [Nat.add_zero] at h3 h4 h5;simp only [FSel,h3,h4,cond_true,cond_false];rw [Ky S' S l vs (i+1) _ (fun k _=>h5 _ (by omega))];exact pE S l vs (i+1) F _ _ fun k o' hk hs=>h6 (k+1) o' (by omega) (by simpa using hk) (by rw [show i+(k+1)=i+1+k by omega];exact hs)
 | o1::l,x::vs,i,F,j+1,o,v,h1,h2,h3,h4,h5,h6=>by
  simp only [FSel];rw [h5 i (by omega)]
  exact Yi S S' l vs (i+1) _ j o v (by simpa using h1) (by simpa using h2) (by rw [show i+1+j=i+(j+1) by omega];exact h3) (by rw [show i+1+j=i+(j+1) by omega];exact h4)
   (fun k hk=>h5 k (by omega)) fun k o' hk ho hs=>h6 (k+1) o' (by omega) (by simpa using ho) (by rw [show i+(k+1)=i+1+k by omega];exact hs)
theorem pF (S S':Nat→Bool) (t:Tmp):∀ (l:List Oper) (vs:List AV) (i:Nat) (F F':Fr),F.length=F'.length→F.getD t .undef=F'.getD t .undef→
  (∀ k o,l[k]?=some o→o.dst=some t→S (i+k)=S' (i+k))→(FSel S i l vs F).getD t .undef=(FSel S' i l vs F').getD t .undef
 | [],vs,i,F,F',_,h,_=>by simpa [FSel] using h
 | o::l,[],i,F,F',_,h,_=>by simpa [FSel] using h
 | o::l,x::vs,i,F,F',hl,h,hs=>by
  simp only [FSel]
  refine pF S S' t l vs (i+1) _ _ ?_ ?_ fun k o' hk hd=>by
   have:=hs (k+1) o' (by simpa using hk) hd
   rwa [show i+(k+1)=i+1+k by omega] at this
  ·cases S i<;>cases S' i<;>simp [uM,hl]
  ·by_cases hd:o.dst=some t
   ·have:=hs 0 o rfl hd
    simp only [Nat.add_zero] at this;rw [this];cases S' i with
    | false=>exact h
    | true=>
     simp only [cond_true,hd,put];simp [List.getD,zA5,hl]
   ·cases S i<;>cases S' i<;>simp only [cond_true,cond_false,jD hd,h]
theorem Bi (S S':Nat→Bool):∀ (ts:List Tr) (i:Nat) (H:Hp),(∀ k t,ts[k]?=some t→t.hs=[]∨S (i+k)=S' (i+k))→M0 S i ts H=M0 S' i ts H
 | [],i,H,_=>by simp [M0]
 | t::ts,i,H,h=>by
  simp only [M0];have h0:=h 0 t rfl
  have e:(bif S i then acts H t.hs else H)=bif S' i then acts H t.hs else H:=by
   rcases h0 with h0 | h0
   ·simp [h0,acts]
   ·simp only [Nat.add_zero] at h0;rw [h0]
  rw [e]
  exact Bi S S' ts (i+1) _ fun k t' hk=>by
   have:=h (k+1) t' (by simpa using hk)
   rwa [show i+(k+1)=i+1+k by omega] at this
theorem Dk:∀ (ts:List Tr) (i:Nat) (H:Hp) (S:Nat→Bool),(∀ k,k<ts.length→S (i+k)=false)→M0 S i ts H=H
 | [],i,H,S,_=>by simp [M0]
 | t::ts,i,H,S,h=>by
  simp only [M0];have h0:=h 0 (by simp);simp only [Nat.add_zero] at h0;rw [h0]
  exact Dk ts (i+1) H S fun k hk=>by
   have:=h (k+1) (by simp;omega)
   rwa [show i+(k+1)=i+1+k by omega] at this
theorem Vx:∀ (ts:List Tr) (i:Nat) (H:Hp) (j:Nat) (t:Tr),ts[j]?=some t→M0 (F6 (i+j+1)) i ts H=acts (M0 (F6 (i+j)) i ts H) t.hs
 | [],i,H,j,t,h=>by simp at h
 | t1::ts,i,H,0,t,h=>by
  simp only [List.getElem?_cons_zero,zN] at h;subst h;simp only [M0,Nat.add_zero];have e1:F6 (i+1) i=true:=by simp [F6]
  have e2:F6 i i=false:=by simp [F6]
  rw [e1,e2];simp only [cond_true,cond_false];rw [Dk ts (i+1) _ _ (fun k _=>sL (by omega)),Dk ts (i+1) _ _ (fun k _=>sL (by omega))]
 | t1::ts,i,H,j+1,t,h=>by
  simp only [M0];have e1:F6 (i+(j+1)+1) i=true:=yI (by omega);have e2:F6 (i+(j+1)) i=true:=yI (by omega);rw [e1,e2]
  have:=Vx ts (i+1) (acts H t1.hs) j t (by simpa using h)
  rw [show i+1+j=i+(j+1) by omega] at this;exact this
theorem DT.spell {K:Cfg} {all:List Oper}:∀ {l:List Oper} {F F':Fr} {H H':Hp} {trs:List Tr},DT K all l F H trs F' H'→∃ vs:List AV,vs.length=l.length∧trs.length=l.length∧
  FSel (F6 l.length) 0 l vs F=F'∧M0 (F6 l.length) 0 trs H=H'∧
  ∀ (j:Nat) o,l[j]?=some o→∃ tr v H2,trs[j]?=some tr∧vs[j]?=some v∧St K all o (FSel (F6 j) 0 l vs F) (M0 (F6 j) 0 trs H) tr v H2:=by
 intro l F F' H H' trs h
 induction h with
 | nil F H=>exact ⟨[],rfl,rfl,rfl,rfl,fun j o h=>by simp at h⟩
 | cons hst t ih=>
  rename_i o l F F' H H' H'' tr v trs;obtain ⟨vs,h1,h2,h3,h4,h5⟩:=ih;obtain ⟨hh,_,_⟩:=hst.heap;subst hh
  have shiftF:∀ j,FSel (F6 (j+1)) 0 (o::l) (v::vs) F=FSel (F6 j) 0 l vs (put F o.dst v):=fun j=>by
   simp only [FSel];have e:F6 (j+1) 0=true:=by simp [F6]
   rw [e];simp only [cond_true]
   have shift:∀ (l:List Oper) (vs:List AV) (i:Nat) (F:Fr),FSel (F6 (j+1)) (i+1) l vs F=FSel (F6 j) i l vs F:=by
    intro l
    induction l with
    | nil=>intro vs i F;simp [FSel]
    | cons o l ih=>
     intro vs i F;cases vs with
     | nil=>simp [FSel]
     | cons x vs=>
      simp only [FSel];rw [show F6 (j+1) (i+1)=F6 j i by simp [F6]];exact ih vs (i+1) _
   exact shift l vs 0 _
  have shiftH:∀ j,M0 (F6 (j+1)) 0 (tr::trs) H=M0 (F6 j) 0 trs (acts H tr.hs):=fun j=>by
   simp only [M0];have e:F6 (j+1) 0=true:=by simp [F6]
   rw [e];simp only [cond_true]
   have shift:∀ (l:List Tr) (i:Nat) (H:Hp),M0 (F6 (j+1)) (i+1) l H=M0 (F6 j) i l H:=by
    intro l
    induction l with
    | nil=>intro i H;simp [M0]
    | cons t l ih=>
     intro i H;simp only [M0];rw [show F6 (j+1) (i+1)=F6 j i by simp [F6]];exact ih (i+1) _
   exact shift trs 0 _
  refine ⟨v::vs,by simp [h1],by simp [h2],?_,?_,fun j o' hj=>?_⟩
  ·rw [List.length_cons,shiftF];exact h3
  ·rw [List.length_cons,shiftH];exact h4
  ·cases j with
   | zero=>
    simp only [List.getElem?_cons_zero,zN] at hj;subst hj;refine ⟨tr,v,acts H tr.hs,rfl,rfl,?_⟩
    have eF:FSel (F6 0) 0 (o::l) (v::vs) F=F:=by
     rw [Ky (F6 0) (fun _=>false) _ _ _ _ (fun k _=>by simp [F6])]
     have none:∀ (l:List Oper) (vs:List AV) (i:Nat) (F:Fr),FSel (fun _=>false) i l vs F=F:=by
      intro l
      induction l with
      | nil=>intro vs i F;simp [FSel]
      | cons o l ih=>intro vs i F;cases vs with
       | nil=>simp [FSel]
       | cons x vs=>simp only [FSel,cond_false];exact ih vs _ F
     exact none _ _ _ _
    have eH:M0 (F6 0) 0 (tr::trs) H=H:=Dk _ _ _ _ fun k _=>by simp [F6]
    rw [eF,eH];exact hst
   | succ j=>
    obtain ⟨tr',v',H2,g1,g2,g3⟩:=h5 j o' (by simpa using hj);refine ⟨tr',v',H2,by simpa using g1,by simpa using g2,?_⟩;rw [shiftF,shiftH];exact g3
def bF (acc:List Nat) (es:List Edge):Nat:=es.foldl (fun s e=>bif Region.binds .any e then s ||| (2^e.on ||| acc.getD e.on 0) else s) 0
theorem nU (acc:List Nat) (i:Nat):∀ (es:List Edge) (s:Nat),(es.foldl (fun s e=>bif Region.binds .any e then s ||| (2^e.on ||| acc.getD e.on 0) else s) s).testBit i=true→
  s.testBit i=true∨∃ e∈es,Region.binds .any e=true∧(e.on=i∨(acc.getD e.on 0).testBit i=true)
 | [],s,h=>.inl h
 | e::es,s,h=>by
  simp only [List.foldl_cons] at h;rcases nU acc i es _ h with h | ⟨e',h1,h2⟩
  ·cases hb:Region.binds .any e with
   | false=>rw [hb] at h;exact .inl h
   | true=>
    rw [hb] at h;simp only [cond_true,Nat.testBit_or,Bool.or_eq_true,Nat.testBit_two_pow,qC] at h;rcases h with h | h | h
    ·exact .inl h
    ·exact .inr ⟨e,by simp,hb,.inl h⟩
    ·exact .inr ⟨e,by simp,hb,.inr h⟩
  ·exact .inr ⟨e',by simp [h1],h2⟩
theorem bE:∀ (l:List Oper) (acc:List Nat),∃ t:List Nat,Er l acc=acc++t∧t.length=l.length∧∀ (k:Nat) o,l[k]?=some o→t[k]?=some (bF (acc++t.take k) o.after.toList)
 | [],acc=>⟨[],by simp [Er],rfl,fun k o h=>by simp at h⟩
 | o::l,acc=>by
  obtain ⟨t,h1,h2,h3⟩:=bE l (acc++[bF acc o.after.toList]);refine ⟨bF acc o.after.toList::t,?_,by simp [h2],fun k o' hk=>?_⟩
  ·have:Er (o::l) acc=Er l (acc++[bF acc o.after.toList]):=rfl
   rw [this,h1];simp
  ·cases k with
   | zero=>simp at hk;subst hk;simp
   | succ k=>have:=h3 k o' (by simpa using hk);simpa using this
theorem Rk {all:List Oper} {S:Nat→Bool} (hcl:∀ (j:Nat) o,all[j]?=some o→S j=true→∀ e∈o.after.toList,Region.binds .any e=true→S e.on=true) :
  ∀ (j:Nat) o,all[j]?=some o→(∀ e∈o.after.toList,Region.binds .any e=true→S e.on=true)→∀ i,((Er all []).getD j 0).testBit i=true→S i=true:=by
 obtain ⟨t,h1,h2,h3⟩:=bE all [];simp only [List.nil_append] at h1 h3;intro j
 induction j using Nat.strongRecOn with
 | _ j ih=>
  intro o ho he i hi;have hm:=h3 j o ho;rw [h1] at hi;simp only [List.getD,hm,Option.getD_some] at hi;rcases nU (t.take j) i o.after.toList 0 hi with h | ⟨e,hmem,hb,h⟩
  ·simp at h
  ·rcases h with rfl | h
   ·exact he e hmem hb
   ·have hlt:e.on<j∧e.on<t.length:=by
     by_cases hc:e.on<(t.take j).length
     ·simp at hc;omega
     ·rw [List.getD,zA3 (by omega)] at h;simp at h
    have hx:(t.take j).getD e.on 0=(Er all []).getD e.on 0:=by
     rw [h1];simp [List.getD,hlt.1]
    rw [hx] at h;obtain ⟨o',ho'⟩:∃ o',all[e.on]?=some o':=⟨_,xW (by omega)⟩;exact ih e.on hlt.1 o' ho' (hcl e.on o' ho' (he e hmem hb)) i h
theorem Rx:∀ (l:List Oper) (k:Nat),Qc k l=true→∀ (j:Nat) o,l[j]?=some o→∀ e∈o.after.toList,Region.binds .any e=true→e.on<k+j
 | [],k,_,j,o,h=>by simp at h
 | x::l,k,hk,j,o,h=>by
  simp only [Qc,zO] at hk;cases j with
  | zero=>
   simp at h;subst h;intro e he hb
   have:=(qD.1 hk.1) e he
   simp [hb] at this;omega
  | succ j=>
   intro e he hb
   have:=Rx l (k+1) hk.2 j o (by simpa using h) e he hb
   omega
theorem It:∀ (hs:List Hop) (H:Hp) (i:Nat),Iu i H.length hs=false→(acts H hs)[i]?=H[i]?
 | [],H,i,_=>rfl
 | h::hs,H,i,ht=>by
  simp only [acts];cases h with
  | set j b=>
   simp only [Iu,Bool.or_eq_false_iff,beq_eq_false_iff_ne] at ht
   have:=It hs (H.set j (some b)) i (by simpa using ht.2)
   show (acts (H.set j (some b)) hs)[i]?=_;rw [this,zA5,if_neg ht.1]
  | new b=>
   simp only [Iu,Bool.or_eq_false_iff,beq_eq_false_iff_ne] at ht
   have:=It hs (H++[some b]) i (by simpa using ht.2)
   show (acts (H++[some b]) hs)[i]?=_;rw [this];by_cases hi:i<H.length
   ·rw [pY hi]
   ·rw [zA3 (by simp;omega),zA3 (by omega)]
  | app j b=>
   simp only [Iu,Bool.or_eq_false_iff,beq_eq_false_iff_ne] at ht
   have:=It hs (H.set j none++[some b]) i (by simpa using ht.2.2)
   show (acts (H.set j none++[some b]) hs)[i]?=_;rw [this];by_cases hi:i<H.length
   ·rw [pY (by simpa using hi),zA5,if_neg ht.1]
   ·rw [zA3 (by simp;omega),zA3 (by omega)]
theorem lE {C:A1} {hs:List Hop} {H:Hp} {r:Ref} (h:Lq r H.length hs=false):E5 C (acts H hs) r=E5 C H r:=by
 cases r with
 | rw i=>simp only [E5,It hs H i h]
 | ro i=>rfl
section
variable {K:Cfg} {lps:List Code} {all:List Oper} {trs:List Tr} {vs:List AV} {F0:Fr} {H0:Hp} {ρ0:Env} {w0:World}
theorem Ak (hd:X4 all trs=true) {i j:Nat} (hij:i<j) {x y:Oper} (hx:all[i]?=some x) (hy:all[j]?=some y) {a b:Tr} (ha:trs[i]?=some a) (hb:trs[j]?=some b) :
  ((Er all []).getD j 0).testBit i=true∨(Qh all x y=true∧Bs a b=true):=by
 simp only [X4,zO,qD] at hd;have hj:j<all.length:=(zP.1 hy).1
 have:=hd.2 j (List.mem_range.2 hj) i (List.mem_range.2 hij)
 simp only [hx,hy,ha,hb,Bool.or_eq_true,zO] at this;exact this
structure cJ (K:Cfg) (all:List Oper) (trs:List Tr) (vs:List AV) (F0:Fr) (H0:Hp) (ρ0:Env) (w0:World) (S:Nat→Bool) (a:Act) (w:World):Prop where
 closed:∀ (j:Nat) o,all[j]?=some o→S j=true→∀ e∈o.after.toList,Region.binds .any e=true→S e.on=true
 rel:∃ ρ,B2 K.C ρ (M0 S 0 trs H0) w∧D0 ρ (FSel S 0 all vs F0) a∧ρ0.le ρ∧Frm ρ0 w0 ρ w
theorem bB5 (hd:X4 all trs=true) (hl:trs.length=all.length) (hh:∀ (j:Nat) tr,trs[j]?=some tr→tr.hs=[]∨tr.kd=.write) {S:Nat→Bool}
  (hcl:∀ (j:Nat) o,all[j]?=some o→S j=true→∀ e∈o.after.toList,Region.binds .any e=true→S e.on=true) :
  ∃ p,M0 S 0 trs H0=M0 (F6 p) 0 trs H0∧(∀ (i:Nat) t,trs[i]?=some t→t.kd=.write→(S i=true↔i<p)):=by
 have opOf:∀ {i:Nat} {t:Tr},trs[i]?=some t→∃ o,all[i]?=some o:=fun {i t} h=>⟨_,xW (by have:=(zP.1 h).1;omega)⟩
 have chain:∀ {i j:Nat} {a b:Tr},i<j→trs[i]?=some a→trs[j]?=some b→a.kd=.write→b.kd=.write→S j=true→S i=true:=by
  intro i j a b hij ha hb hka hkb hS;obtain ⟨x,hx⟩:=opOf ha;obtain ⟨y,hy⟩:=opOf hb;rcases Ak hd hij hx hy ha hb with h | ⟨_,h⟩
  ·exact Rk hcl j y hy (hcl j y hy hS) i h
  ·simp [Bs,hka,hkb] at h
 have ex:∃ p,∀ (i:Nat) t,trs[i]?=some t→t.kd=.write→(S i=true↔i<p):=by
  by_cases hw:∃ i t,trs[i]?=some t∧t.kd=.write∧S i=false
  ·have least:∃ p t,trs[p]?=some t∧t.kd=.write∧S p=false∧∀ i t',i<p→trs[i]?=some t'→t'.kd=.write→S i=true:=by
    obtain ⟨i,hi⟩:=hw
    induction i using Nat.strongRecOn with
    | _ i ih=>
     obtain ⟨t,h1,h2,h3⟩:=hi;by_cases hm:∃ i' t',i'<i∧trs[i']?=some t'∧t'.kd=.write∧S i'=false
     ·obtain ⟨i',t',hlt,g1,g2,g3⟩:=hm;exact ih i' hlt ⟨t',g1,g2,g3⟩
     ·refine ⟨i,t,h1,h2,h3,fun i' t' hlt g1 g2=>?_⟩;cases hs:S i' with
      | true=>rfl
      | false=>exact absurd ⟨i',t',hlt,g1,g2,hs⟩ hm
   obtain ⟨p,t,h1,h2,h3,h4⟩:=least;refine ⟨p,fun i t' g1 g2=>⟨fun hS=>?_,fun hlt=>h4 i t' hlt g1 g2⟩⟩;rcases Nat.lt_trichotomy i p with h | h | h
   ·exact h
   ·subst h;rw [h3] at hS;simp at hS
   ·have:=chain h h1 g1 h2 g2 hS
    rw [h3] at this;simp at this
  ·refine ⟨trs.length,fun i t g1 g2=>⟨fun _=>(zP.1 g1).1,fun _=>?_⟩⟩;cases hs:S i with
   | true=>rfl
   | false=>exact absurd ⟨i,t,g1,g2,hs⟩ hw
 obtain ⟨p,hp⟩:=ex;refine ⟨p,Bi S (F6 p) trs 0 H0 fun k t hk=>?_,hp⟩;rcases hh k t hk with h | h
 ·exact .inl h
 ·refine .inr ?_
  have:=hp k t hk h
  simp only [Nat.zero_add];cases hS:S k with
  | true=>rw [eq_comm];exact yI (this.1 hS)
  | false=>
   rw [eq_comm];refine sL fun hlt=>?_;rw [this.2 hlt] at hS;simp at hS
theorem Ok (hst:∀ (j:Nat) tr,trs[j]?=some tr→tr.len=(M0 (F6 j) 0 trs H0).length) {r:Ref} {p:Nat}:∀ (q:Nat),p≤q→q≤trs.length→
  (∀ (i:Nat) t,p≤i→i<q→trs[i]?=some t→t.hs=[]∨Lq r t.len t.hs=false)→E5 K.C (M0 (F6 q) 0 trs H0) r=E5 K.C (M0 (F6 p) 0 trs H0) r:=by
 intro q
 induction q with
 | zero=>
  intro hpq _ _;have h0:p=0:=by omega
  rw [h0]
 | succ q ih=>
  intro hpq hq h;by_cases he:p=q+1
  ·subst he;rfl
  ·obtain ⟨t,ht⟩:∃ t,trs[q]?=some t:=⟨_,xW (by omega)⟩;have hs:=Vx trs 0 H0 q t ht;simp only [Nat.zero_add] at hs;rw [hs];have ih:=ih (by omega) (by omega) fun i t' h1 h2 h3=>h i t' h1 (by omega) h3;rcases h q t (by omega) (by omega) ht with h0 | h0
   ·rw [h0];exact ih
   ·rw [hst q t ht] at h0;rw [lE h0];exact ih
theorem tP (hK:Ee K lps) (hd:X4 all trs=true) (hvl:vs.length=all.length) (hl:trs.length=all.length)
    (htr:∀ (j:Nat) o,all[j]?=some o→∃ tr v H2,trs[j]?=some tr∧vs[j]?=some v∧St K all o (FSel (F6 j) 0 all vs F0) (M0 (F6 j) 0 trs H0) tr v H2)
    {S S':Nat→Bool} {a:Act} {w:World} (hs:cJ K all trs vs F0 H0 ρ0 w0 S a w) {j:Nat} {o:Oper} (ho:all[j]?=some o) (hS:S j=false) (hS':S' j=true) (hother:∀ k,k≠j→S' k=S k)
    (hready:∀ e∈o.after.toList,Region.binds .any e=true→S e.on=true) {next:Act→World→Prop} {Q:Exit→Act→World→Prop} {r:Option Nat}
    (hn:∀ a' w',cJ K all trs vs F0 H0 ρ0 w0 S' a' w'→next a' w') :
    if Region.wanted o (yielded all.toArray a.tmps) then o.wpIn (W r) 0 K.C.P a w next Q else (∀ f,o.about K.C.P w a.eval=some f→(W r).fn f)∧next (a.put o.dst undef) w:=by
  obtain ⟨tr,v,H2,h1,h2,hst⟩:=htr j o ho;obtain ⟨ρ,hH,hF,hle,hfr⟩:=hs.rel;have hjl:j<all.length:=(zP.1 ho).1;have trOf:∀ {i:Nat} {x:Oper},all[i]?=some x→∃ t,trs[i]?=some t:=fun {i x} h=>⟨_,xW (by have:=(zP.1 h).1;omega)⟩
  have hhs:∀ (i:Nat) t,trs[i]?=some t→t.hs=[]∨t.kd=.write:=fun i t hi=>by
    obtain ⟨x,hx⟩:∃ x,all[i]?=some x:=⟨_,xW (by have:=(zP.1 hi).1;omega)⟩;obtain ⟨tr',v',H3,g1,g2,g3⟩:=htr i x hx;rw [hi] at g1;simp at g1;subst g1;exact g3.heap.2.2
  have hlen:∀ (i:Nat) t,trs[i]?=some t→t.len=(M0 (F6 i) 0 trs H0).length:=fun i t hi=>by
    obtain ⟨x,hx⟩:∃ x,all[i]?=some x:=⟨_,xW (by have:=(zP.1 hi).1;omega)⟩;obtain ⟨tr',v',H3,g1,g2,g3⟩:=htr i x hx;rw [hi] at g1;simp at g1;subst g1;exact g3.heap.2.1
  -- an earlier one that is named by the mask is listed;a later one whose mask names this one is not
  have early:∀ i,((Er all []).getD j 0).testBit i=true→S i=true:=Rk hs.closed j o ho hready
  have late:∀ {i:Nat} {x:Oper},all[i]?=some x→((Er all []).getD i 0).testBit j=true→S i=false:=fun {i x} hx hm=>by
    cases hSi:S i with
    | false=>rfl
    | true=>
      have:=Rk hs.closed i x hx (hs.closed i x hx hSi) j hm
      rw [hS] at this;simp at this
  -- the slots
  have hag:∀ t∈Ns all o,(FSel S 0 all vs F0).getD t .undef=(FSel (F6 j) 0 all vs F0).getD t .undef:=fun t ht=>by
    refine pF S (F6 j) t all vs 0 F0 F0 rfl rfl fun k x hx hdst=>?_;simp only [Nat.zero_add];obtain ⟨tx,htx⟩:=trOf hx;rcases Nat.lt_trichotomy k j with h | h | h
    · rw [show F6 j k=true from yI h];rcases Ak hd h hx ho htx h1 with hm | ⟨hm,_⟩
      · exact early k hm
      · simp only [Qh,hdst,zO,Bool.not_eq_true'] at hm
        have:=hm.1.1
        rw [List.contains_eq_mem,decide_eq_false_iff_not] at this;exact absurd ht this
    · subst h;rw [show F6 k k=false from sL (by omega)];exact hS
    · rw [show F6 j k=false from sL (by omega)];rcases Ak hd h ho hx h1 htx with hm | ⟨hm,_⟩
      · exact late hx hm
      · simp only [Qh,hdst,zO,Bool.not_eq_true'] at hm
        have:=hm.2
        rw [List.contains_eq_mem,decide_eq_false_iff_not] at this;exact absurd ht this
  obtain ⟨p,hp,hpw⟩:=bB5 (H0:=H0) hd hl hhs hs.closed
  have hwrite:tr.kd=.write→M0 S 0 trs H0=M0 (F6 j) 0 trs H0:=fun hk=>by
    refine Bi S (F6 j) trs 0 H0 fun k t ht=>?_;rcases hhs k t ht with h | h
    · exact .inl h
    · refine .inr ?_;simp only [Nat.zero_add];obtain ⟨x,hx⟩:∃ x,all[k]?=some x:=⟨_,xW (by have:=(zP.1 ht).1;omega)⟩;rcases Nat.lt_trichotomy k j with hlt | hlt | hlt
      · rw [show F6 j k=true from yI hlt];rcases Ak hd hlt hx ho ht h1 with hm | ⟨_,hm⟩
        · exact early k hm
        · simp [Bs,h,hk] at hm
      · subst hlt;rw [show F6 k k=false from sL (by omega)];exact hS
      · rw [show F6 j k=false from sL (by omega)];rcases Ak hd hlt ho hx h1 ht with hm | ⟨_,hm⟩
        · exact late hx hm
        · simp [Bs,h,hk] at hm
  have hread:∀ r,tr.kd=.read r→E5 K.C (M0 S 0 trs H0) r=E5 K.C (M0 (F6 j) 0 trs H0) r:=fun r hk=>by
    rw [hp];rcases Nat.le_total p j with hpj | hpj
    · refine (Ok hlen j hpj (by omega) fun i t h3 h4 h5=>?_).symm;rcases hhs i t h5 with h | h
      · exact .inl h
      · refine .inr ?_;obtain ⟨x,hx⟩:∃ x,all[i]?=some x:=⟨_,xW (by have:=(zP.1 h5).1;omega)⟩;rcases Ak hd h4 hx ho h5 h1 with hm | ⟨_,hm⟩
        · have:=(hpw i t h5 h).1 (early i hm);omega
        · simpa [Bs,h,hk] using hm
    · by_cases hpl:p≤trs.length
      · refine Ok hlen p hpj hpl fun i t h3 h4 h5=>?_;rcases hhs i t h5 with h | h
        · exact .inl h
        · refine .inr ?_
          have hji:j<i:=by
            rcases Nat.lt_or_ge j i with h | h
            · exact h
            · obtain rfl:i=j:=by omega
              rw [h1] at h5;simp at h5;subst h5;rw [hk] at h;simp at h
          obtain ⟨x,hx⟩:∃ x,all[i]?=some x:=⟨_,xW (by have:=(zP.1 h5).1;omega)⟩;rcases Ak hd hji ho hx h1 h5 with hm | ⟨_,hm⟩
          · have:=late hx hm
            rw [(hpw i t h5 h).2 h4] at this;simp at this
          · simpa [Bs,h,hk] using hm
      · have e:M0 (F6 p) 0 trs H0=M0 (F6 trs.length) 0 trs H0:=Bi _ _ _ _ _ fun k t hk'=>.inr (by
          have:=(zP.1 hk').1
          simp only [Nat.zero_add]
          rw [show F6 p k=true from yI (by omega),show F6 trs.length k=true from yI (by omega)])
        rw [e];refine Ok hlen trs.length (by omega) (zA7 _) fun i t h3 h4 h5=>?_;rcases hhs i t h5 with h | h
        · exact .inl h
        · refine .inr ?_
          have hji:j<i:=by
            rcases Nat.lt_or_ge j i with h | h
            · exact h
            · obtain rfl:i=j:=by omega
              rw [h1] at h5;simp at h5;subst h5;rw [hk] at h;simp at h
          obtain ⟨x,hx⟩:∃ x,all[i]?=some x:=⟨_,xW (by have:=(zP.1 h5).1;omega)⟩;rcases Ak hd hji ho hx h1 h5 with hm | ⟨_,hm⟩
          · have:=late hx hm
            rw [(hpw i t h5 h).2 (by omega)] at this;simp at this
          · simpa [Bs,h,hk] using hm
  obtain ⟨tr',hst'⟩:=hst.move hag hwrite hread
  -- what it becomes
  have hF':FSel S' 0 all vs F0=put (FSel S 0 all vs F0) o.dst v:=Yi S S' all vs 0 F0 j o v ho h2 (by simpa using hS) (by simpa using hS') (fun k hk=>hother k (by simpa using hk)) fun k x hk hx hSk=>by
    simp only [Nat.zero_add] at hSk;obtain ⟨tx,htx⟩:=trOf hx;rcases Ak hd hk ho hx h1 htx with hm | ⟨hm,_⟩
    · have:=late hx hm;rw [hSk] at this;simp at this
    · cases hdst:o.dst with
      | none=>exact .inl rfl
      | some d=>
        refine .inr fun e=>?_;simp only [Qh,hdst,zO,Bool.not_eq_true',←e] at hm
        have:=hm.1.2
        simp at this
  have hH':M0 S' 0 trs H0=acts (M0 S 0 trs H0) tr.hs:=by
    rcases hhs j tr h1 with h | h
    · rw [h];refine Bi S' S trs 0 H0 fun k t ht=>?_;by_cases hkj:k=j
      · subst hkj;rw [h1] at ht;simp at ht;subst ht;exact .inl h
      · exact .inr (by simp only [Nat.zero_add];exact hother k hkj)
    · rw [hwrite h]
      have:=Vx trs 0 H0 j tr h1
      simp only [Nat.zero_add] at this;rw [← this];refine Bi S' (F6 (j+1)) trs 0 H0 fun k t ht=>?_;rcases hhs k t ht with h' | h'
      · exact .inl h'
      · refine .inr ?_;simp only [Nat.zero_add];by_cases hkj:k=j
        · subst hkj;rw [hS',show F6 (k+1) k=true from yI (by omega)]
        · rw [hother k hkj];obtain ⟨x,hx⟩:∃ x,all[k]?=some x:=⟨_,xW (by have:=(zP.1 ht).1;omega)⟩;rcases Nat.lt_or_ge k j with hlt | hge
          · rw [show F6 (j+1) k=true from yI (by omega)];rcases Ak hd hlt hx ho ht h1 with hm | ⟨_,hm⟩
            · exact early k hm
            · simp [Bs,h,h'] at hm
          · rw [show F6 (j+1) k=false from sL (by omega)];rcases Ak hd (by omega:j<k) ho hx h1 ht with hm | ⟨_,hm⟩
            · exact late hx hm
            · simp [Bs,h,h'] at hm
  refine hst'.sound hK hH hF fun ρ' cv w' g1 g2 g3 g4=>hn _ _ ⟨?_,ρ',?_,?_,Env.le_trans hle g3,hfr.trans g4⟩
  · intro k x hx hSk e he hb;by_cases hek:e.on=j
    · rw [hek];exact hS'
    · rw [hother _ hek];by_cases hkj:k=j
      · subst hkj;rw [ho] at hx;simp at hx;subst hx;exact hready e he hb
      · rw [hother k hkj] at hSk;exact hs.closed k x hx hSk e he hb
  · rw [hH'];exact g1
  · rw [hF'];exact (hF.mono g3).put _ _ _ g2
end
theorem Jn (e:Int) (K:Int→Prop):nam e K=K e:=propext ⟨fun h=>h e rfl,fun h x hx=>by subst hx;exact h⟩
theorem rI (nm:Bool) (s:Md) (F:Fr) (d:Option Tmp) (v:AV) (k:Fr→Prop):dL nm s F d v k=k (put F d v):=by
 cases nm
 ·exact H9 s F d v k
 ·cases v<;>simp only [dL,Jn,H9]
theorem Wm (sp nm:Bool) (s:Md) (F:Fr) (d:Option Tmp) (v:AV) (k:Fr→Prop):dJ sp nm s F d v k=k (put F d v):=by
 cases sp
 ·exact rI nm s F d v k
 ·cases v<;>simp only [dJ,rI,H9];rename_i b;cases b<;>rfl
theorem rT:∀ (args:List AV) (k:List AV→Prop),dY args k=k args
 | [],k=>rfl
 | x::l,k=>by cases x<;>simp only [dY,Jn,rT l]
theorem Lh (nm:Bool) (args:List AV) (k:List AV→Prop):namL nm args k=k args:=by
 cases nm
 ·rfl
 ·exact rT args k
theorem bC1 (b:Blk) (k:Blk→Prop):Zl b k=k b:=by obtain ⟨e,cs⟩:=b;simp only [Zl,eV]
theorem Pz (s:Md) (H:Hp) (o:Hop) (k:Hp→Prop):Un s H o k=k (o.act H):=by
 cases s
 ·rfl
 ·cases o<;>simp only [Un,Pj,Yv,Hop.act]
 ·cases o<;>simp only [Un,bC1,Pj,Yv,Hop.act]
theorem Mm (s:Md):∀ (hs:List Hop) (H:Hp) (k:Hp→Prop),Rq s H hs k=k (acts H hs)
 | [],_,_=>rfl
 | h::hs,H,k=>by simp only [Rq,Pz,Mm s hs,acts]
theorem Ty {o:Option (Bool×AV)} {K:AV→Prop} {v:AV} (h:o=some (true,v)) (k:K v):Sp o K:=by rw [h];exact k
theorem wY {o:Option (Bool×AV×Hop)} {K:AV→Hop→Prop} {v:AV} {x:Hop} (h:o=some (true,v,x)) (k:K v x):wrc o K:=by rw [h];exact k
theorem xV {o:Option (Bool×AV×List Hop)} {K:AV→List Hop→Prop} {v:AV} {x:List Hop} (h:o=some (true,v,x)) (k:K v x):smc o K:=by rw [h];exact k
theorem lpc_of {o:Option (Bool×Ex×Fr×Hp)} {K:Ex→Fr→Hp→Prop} {e:Ex} {F:Fr} {H:Hp} (h:o=some (true,e,F,H)) (k:K e F H):lpc o K:=by rw [h];exact k
theorem Ek {c:Bool} {K:Prop} (h:c=true) (k:K):chk c K:=by rw [h];exact k
def O6 (K:Cfg) (d:Nat):Wk→Bool
 | .code c=>J1 K d c
 | .ops _ l=>l.all (Gl K (J1 K d))
 | .dr _ l _=>l.all (Gl K (J1 K d))
def Pt (K:Cfg) (n:Nat):Prop:=∀ m wk F H Q,vc K n m wk F H Q→∃ e F' H',(∀ Q':Post,Q' e F' H'→vc K n m wk F H Q')∧Q e F' H'∧∀ d,O6 K d wk=true→H'=H
theorem aH9:∀ {x y:AV},tW x y=true→x=y:=by
 intro x y h;unfold tW at h;split at h<;>simp_all
theorem lQ:∀ {xs ys:List AV},Wj xs ys=true→xs=ys
 | [],[],_=>rfl
 | [],_::_,h=>by simp [Wj] at h
 | _::_,[],h=>by simp [Wj] at h
 | x::xs,y::ys,h=>by
  simp only [Wj,zO] at h;rw [aH9 h.1,lQ h.2]
theorem aH8 {x:Option Blk} {b:Blk} (h:jT x b=true):x=some b:=by
 cases x with
 | none=>simp [jT] at h
 | some a=>
  obtain ⟨e,cs⟩:=a;obtain ⟨e',cs'⟩:=b;simp only [jT,zO] at h;rw [rG h.1,lQ h.2]
theorem Mw:∀ (H':Hp) (i:Nat) (H0:Hp) (hs:List Hop),(H0.length=i→X8 false i H'=some hs→acts H0 hs=H0++H')∧(H0.length+1=i→X8 true i H'=some hs→acts (H0++[some ⟨0,[]⟩]) hs=H0++none::H')
 | [],i,H0,hs=>⟨fun _ h=>by simp [X8] at h;subst h;simp [acts],fun _ h=>by simp [X8] at h⟩
 | x::H',i,H0,hs=>by
  have e0:∀ b,H0.length+1=i→(Hop.app (i - 1) b).act (H0++[some (⟨0,[]⟩:Blk)])=H0++[none]++[some b]:=fun b hl=>by
   simp only [Hop.act];rw [List.set_append_right _ _ (by omega),show i - 1 - H0.length=0 by omega];simp
  cases x with
  | some b=>
   refine ⟨fun hl h=>?_,fun hl h=>?_⟩
   ·simp only [X8] at h;split at h
    ·rename_i hs' h1;simp at h;subst h;simp only [acts,Hop.act];rw [(Mw H' (i+1) (H0++[some b]) hs').1 (by simp [hl]) h1];simp
    ·simp at h
   ·simp only [X8] at h;split at h
    ·rename_i hs' h1;simp at h;subst h;simp only [acts];rw [e0 b hl,(Mw H' (i+1) (H0++[none]++[some b]) hs').1 (by simp;omega) h1];simp
    ·simp at h
  | none=>
   refine ⟨fun hl h=>?_,fun hl h=>?_⟩
   ·simp only [X8] at h;split at h
    ·rename_i hs' h1;simp at h;subst h;simp only [acts,Hop.act];rw [(Mw H' (i+1) H0 hs').2 (by simp [hl]) h1]
    ·simp at h
   ·simp only [X8] at h;split at h
    ·rename_i hs' h1;simp at h;subst h;simp only [acts];rw [e0 _ hl,(Mw H' (i+1) (H0++[none]) hs').2 (by simp;omega) h1];simp
    ·simp at h
theorem Jv {cmp:Bool}:∀ (i:Nat) (H0 H H':Hp) (hs:List Hop),H0.length=i→Ag cmp i H H'=some hs→acts (H0++H) hs=H0++H'
 | i,H0,[],H',hs,hl,h=>by rw [List.append_nil];exact (Mw H' i H0 hs).1 hl (by simpa only [Ag] using h)
 | i,H0,x::H,[],hs,_,h=>by cases x<;>simp [Ag] at h
 | i,H0,x::H,some b::H',hs,hl,h=>by
  have h:(∃ hs',Ag cmp (i+1) H H'=some hs'∧hs=Hop.set i b::hs')∨(x=some b∧Ag cmp (i+1) H H'=some hs):=by
   simp only [Ag] at h;split at h
   ·rename_i hc;simp only [zO] at hc;exact .inr ⟨aH8 hc.2,h⟩
   ·split at h
    ·exact .inl ⟨_,by assumption,(Option.some.inj h).symm⟩
    ·simp at h
  rcases h with ⟨hs',h1,rfl⟩ | ⟨rfl,h1⟩
  ·have ih:=Jv (i+1) (H0++[some b]) H H' hs' (by simp [hl]) h1;simp only [acts,Hop.act]
   have e:(H0++x::H).set i (some b)=H0++[some b]++H:=by
    rw [List.set_append_right _ _ (by omega),hl];simp
   rw [e,ih];simp
  ·have ih:=Jv (i+1) (H0++[some b]) H H' hs (by simp [hl]) h1;simpa using ih
 | i,H0,none::H,none::H',hs,hl,h=>by
  simp only [Ag] at h;have ih:=Jv (i+1) (H0++[none]) H H' hs (by simp [hl]) h;simpa using ih
 | i,H0,some _::H,none::H',hs,hl,h=>by simp [Ag] at h
theorem ret_pt {C:A1} {fn:Func} {Q:AV→Hp→Prop} {e:Ex} {F:Fr} {H:Hp} (h:L1 C fn Q e F H):∃ v,Q v H∧∀ Q':AV→Hp→Prop,Q' v H→L1 C fn Q' e F H:=by
 unfold L1 at h;split at h
 ·exact h.elim
 ·rename_i hne;obtain ⟨v,h1,h2⟩:=S3 h;refine ⟨v,h2,fun Q' hq=>?_⟩;unfold L1;split
  ·rename_i i;exact absurd rfl (hne i)
  ·exact Ty h1 hq
theorem Xo {K:Cfg} {n:Nat} (ih:Pt K n) {c:Code} {fn:Func} {F:Fr} {H:Hp} {m:Nat} {Q:AV→Hp→Prop} (h:vc K n m (.code c) F H (L1 K.C fn Q)) :
  ∃ v H',Q v H'∧(∀ Q':AV→Hp→Prop,Q' v H'→vc K n m (.code c) F H (L1 K.C fn Q'))∧∀ d,J1 K d c=true→H'=H:=by
 obtain ⟨e,F',H',h1,h2,h3⟩:=ih _ _ _ _ _ h;obtain ⟨v,h4,h5⟩:=ret_pt h2;exact ⟨v,H',h4,fun Q' hq=>h1 _ (h5 Q' hq),fun d hd=>h3 d hd⟩
theorem Jd {K:Cfg} {rec:Code→Bool} {o:Oper} {F:Fr} {f:FuncId} {args:List AV} (hk:kdOf K.C.P o.op=.call) (hr:Gl K rec o=true) (hc:callOp F o.op=some (f,args)) :
  K.inl f=true∧∀ fn c,K.C.P.funcs[f]?=some fn→fn.body=some c→rec c=true:=by
 unfold Gl at hr;rw [hk] at hr;simp only at hr;split at hr
 ·rename_i g args' ts hop;rw [hop] at hc;simp only [callOp,ev,zN,xH] at hc;obtain ⟨rfl,_⟩:=hc;simp only [zO] at hr;refine ⟨hr.1,fun fn c h1 h2=>?_⟩
  have:=hr.2
  rw [h1] at this;simp only [h2] at this;exact this
 ·simp at hr
theorem yld_pt {K:Cfg} {n:Nat} (ih:Pt K n) {m:Nat} {all l:List Oper} {dst:Option Tmp} {i:Nat} {args:List AV} {F:Fr} {H:Hp} {Q:Post} (h:La K (vc K n) m all l dst i args F H Q) :
  ∃ v H',vc K n m (.ops all l) (put F dst v) H' Q∧∀ Q':Post,vc K n m (.ops all l) (put F dst v) H' Q'→La K (vc K n) m all l dst i args F H Q':=by
 unfold La at h;split at h
 ·rename_i e ps as bd F0 h0;obtain ⟨hc,h1⟩:=J8 h;obtain ⟨e1,F1,H1,g1,g2,_⟩:=ih _ _ _ _ _ h1;unfold Vy at g2;split at g2
  ·split at g2
   ·rename_i e2 ps2 as2 bd2 F2 h2;obtain ⟨hc2,h3⟩:=J8 g2;obtain ⟨e3,F3,H3,q1,q2,_⟩:=ih _ _ _ _ _ h3;unfold Ow at q2;split at q2
    ·rename_i e4 ps4 as4 bd4 F4 h4;obtain ⟨hc4,h5⟩:=J8 q2;rw [H9] at h5;refine ⟨_,_,h5,fun Q' hq=>?_⟩;unfold La;simp only [h0];refine Ek hc (g1 _ ?_);unfold Vy;simp only [h2];refine Ek hc2 (q1 _ ?_);unfold Ow;simp only [h4];exact Ek hc4 (by rw [H9];exact hq)
    ·exact q2.elim
   ·exact g2.elim
  ·exact g2.elim
 ·exact h.elim
theorem rng_pt {i:Nat} {F:Fr} {Q:Post} {v:AV} {H:Hp} (h:Jj i F Q v H):∃ ex H',Q ex F H'∧∀ Q':Post,Q' ex F H'→Jj i F Q' v H:=by
 unfold Jj at h;split at h
 ·rename_i e p ps as bd F0 h0;obtain ⟨hc,h1⟩:=J8 h
  have key:∀ ex:Ex,(∀ Q':Post,Q' ex F (H.set i none)→rngJ p F (H.set i none) Q')→∀ Q':Post,Q' ex F (H.set i none)→Jj i F Q' v H:=fun ex hk Q' hq=>by
   unfold Jj;simp only [h0];exact Ek hc (hk Q' hq)
  match p,h1,key with
  | 0,h1,key=>exact ⟨_,_,h1,key _ fun _ hq=>hq⟩
  | 1,h1,key=>exact h1.elim
  | 2,h1,key=>exact ⟨_,_,h1,key _ fun _ hq=>hq⟩
  | n+3,h1,key=>exact ⟨_,_,h1,key _ fun _ hq=>hq⟩
 ·exact h.elim
theorem aE1 {K:Cfg} {rec:Code→Bool} {o:Oper} {F:Fr} {i:Nat} {args:List AV} (hk:kdOf K.C.P o.op=.call) (hr:Gl K rec o=true) (hc:yldOp F o.op=some (i,args)):False:=by
 unfold Gl at hr;rw [hk] at hr;simp only at hr;split at hr
 ·rename_i g args' ts hop;rw [hop] at hc;simp [yldOp,ev] at hc
 ·simp at hr
theorem zA (K:Cfg):∀ n,Pt K n
  | 0=>fun _ _ _ _ _ h=>h.elim
  | n+1=>by
    have ih:=zA K n;intro m wk F H Q h;cases wk with
    | ops all l=>
      change Lb K (vc K n) m all l F H Q at h;change ∃ e F' H',(∀ Q':Post,Q' e F' H'→Lb K (vc K n) m all l F H Q')∧_;cases l with
      | nil=>exact ⟨.normal,F,H,fun Q' hq=>hq,h,fun _ _=>rfl⟩
      | cons o l=>
        obtain ⟨dst,op,ty,pos,after,guard⟩:=o;simp only [Lb] at h ⊢
        have hro:∀ d,O6 K d (.ops all (⟨dst,op,ty,pos,after,guard⟩::l))=true→Gl K (J1 K d) ⟨dst,op,ty,pos,after,guard⟩=true∧O6 K d (.ops all l)=true:=fun d hd=>by
          simpa [O6] using hd
        -- the rest of the region
        have rest:∀ {v:AV} {H1:Hp} {k:Post→Prop},vc K n m (.ops all l) (put F dst v) H1 Q→(∀ Q':Post,vc K n m (.ops all l) (put F dst v) H1 Q'→k Q')→(∀ d,Gl K (J1 K d) ⟨dst,op,ty,pos,after,guard⟩=true→H1=H)→
            ∃ e F' H',(∀ Q':Post,Q' e F' H'→k Q')∧Q e F' H'∧∀ d,O6 K d (.ops all (⟨dst,op,ty,pos,after,guard⟩::l))=true→H'=H:=by
          intro v H1 k h1 h2 h3;obtain ⟨e,F',H',g1,g2,g3⟩:=ih _ _ _ _ _ h1;exact ⟨e,F',H',fun Q' hq=>h2 Q' (g1 Q' hq),g2,fun d hd=>(g3 d (hro d hd).2).trans (h3 d (hro d hd).1)⟩
        rcases Uq h with ⟨hw,h,hg⟩ | ⟨hw,h,hg⟩
        · unfold Gi at h;split at h
          · rename_i hk;obtain ⟨v,h1,h2⟩:=S3 h;rw [Wm] at h2;refine rest h2 (fun Q' hq=>hg _ _ ?_) (fun _ _=>rfl);unfold Gi;rw [hk];exact Ty h1 (by rw [Wm];exact hq)
          · rename_i hk;obtain ⟨v,h1,h2⟩:=S3 h;rw [H9] at h2;refine rest h2 (fun Q' hq=>hg _ _ ?_) (fun _ _=>rfl);unfold Gi;rw [hk];exact Ty h1 (by rw [H9];exact hq)
          · rename_i hk;obtain ⟨v,x,h1,h2⟩:=Ql h;rw [Pz,H9] at h2;refine rest h2 (fun Q' hq=>hg _ _ ?_) (fun d hd=>?_)
            · unfold Gi;rw [hk];exact wY h1 (by rw [Pz,H9];exact hq)
            · unfold Gl at hd;rw [hk] at hd;simp at hd
          · rename_i hk;split at h
            · rename_i f args hc;unfold Lu at h;split at h
              · rename_i hi;split at h
                · rename_i fn hfn;split at h
                  · rename_i c hb;obtain ⟨hnm,h2⟩:=J8 h;obtain ⟨v,H1,g1,g2,g3⟩:=Xo ih h2;rw [H9] at g1;refine rest g1 (fun Q' hq=>hg _ _ ?_) (fun d hd=>g3 d ((Jd hk hd hc).2 fn c hfn hb));unfold Gi;rw [hk];simp only [hc];unfold Lu;rw [hi];simp only [hfn,hb];exact Ek hnm (g2 _ (by rw [H9];exact hq))
                  · exact h.elim
                · exact h.elim
              · rename_i hi;rw [Lh] at h;obtain ⟨v,hs,h1,h2⟩:=Qs h;rw [Mm,H9] at h2;refine rest h2 (fun Q' hq=>hg _ _ ?_) (fun d hd=>?_)
                · unfold Gi;rw [hk];simp only [hc];unfold Lu;rw [hi];simp only [Lh];exact xV h1 (by rw [Mm,H9];exact hq)
                · have:=(Jd hk hd hc).1
                  rw [hi] at this;simp at this
            · rename_i hc;split at h
              · rename_i i args hy;obtain ⟨v,H1,g1,g2⟩:=yld_pt ih h;refine rest g1 (fun Q' hq=>hg _ _ ?_) (fun d hd=>(aE1 hk hd hy).elim);unfold Gi;rw [hk];simp only [hc,hy];exact g2 Q' hq
              · exact h.elim
        · rw [H9] at h;exact rest h (fun Q' hq=>hg _ _ (by rw [H9];exact hq)) (fun _ _=>rfl)
    | dr all l trs=>
      change Pg K (vc K n) m all l trs F H Q at h;change ∃ e F' H',(∀ Q':Post,Q' e F' H'→Pg K (vc K n) m all l trs F H Q')∧_;cases l with
      | nil=>
        obtain ⟨h1,h2⟩:=J8 h;exact ⟨.normal,F,H,fun Q' hq=>Ek h1 hq,h2,fun _ _=>rfl⟩
      | cons o l=>
        obtain ⟨dst,op,ty,pos,after,guard⟩:=o;simp only [Pg] at h ⊢
        have hro:∀ d,O6 K d (.dr all (⟨dst,op,ty,pos,after,guard⟩::l) trs)=true→Gl K (J1 K d) ⟨dst,op,ty,pos,after,guard⟩=true∧∀ tr,O6 K d (.dr all l (trs++[tr]))=true:=fun d hd=>by
          simp only [O6,List.all_cons,zO] at hd;exact ⟨hd.1,fun _=>hd.2⟩
        have rest:∀ {v:AV} {H1:Hp} {tr:Tr} {k:Post→Prop},vc K n m (.dr all l (trs++[tr])) (put F dst v) H1 Q→(∀ Q':Post,vc K n m (.dr all l (trs++[tr])) (put F dst v) H1 Q'→k Q')→(∀ d,Gl K (J1 K d) ⟨dst,op,ty,pos,after,guard⟩=true→H1=H)→
            ∃ e F' H',(∀ Q':Post,Q' e F' H'→k Q')∧Q e F' H'∧∀ d,O6 K d (.dr all (⟨dst,op,ty,pos,after,guard⟩::l) trs)=true→H'=H:=by
          intro v H1 tr k h1 h2 h3;obtain ⟨e,F',H',g1,g2,g3⟩:=ih _ _ _ _ _ h1;exact ⟨e,F',H',fun Q' hq=>h2 Q' (g1 Q' hq),g2,fun d hd=>(g3 d ((hro d hd).2 tr)).trans (h3 d (hro d hd).1)⟩
        rcases Uq h with ⟨hw,h,hg⟩ | ⟨hw,h,hg⟩
        · unfold Av at h;split at h
          · rename_i hk;obtain ⟨v,h1,h2⟩:=S3 h;rw [Wm] at h2;refine rest h2 (fun Q' hq=>hg _ _ ?_) (fun _ _=>rfl);unfold Av;rw [hk];exact Ty h1 (by rw [Wm];exact hq)
          · rename_i hk;obtain ⟨v,h1,h2⟩:=S3 h;rw [H9] at h2;refine rest h2 (fun Q' hq=>hg _ _ ?_) (fun _ _=>rfl);unfold Av;rw [hk];exact Ty h1 (by rw [H9];exact hq)
          · rename_i hk;obtain ⟨v,x,h1,h2⟩:=Ql h;rw [Pz,H9] at h2;refine rest h2 (fun Q' hq=>hg _ _ ?_) (fun d hd=>?_)
            · unfold Av;rw [hk];exact wY h1 (by rw [Pz,H9];exact hq)
            · unfold Gl at hd;rw [hk] at hd;simp at hd
          · rename_i hk;split at h
            · rename_i f args hc;split at h
              · rename_i hi;split at h
                · rename_i fn hfn;split at h
                  · rename_i c hb;obtain ⟨hnm,h2⟩:=J8 h;obtain ⟨v,H1,g1,g2,g3⟩:=Xo ih h2;have hr:∀ d,Gl K (J1 K d) ⟨dst,op,ty,pos,after,guard⟩=true→H1=H:=fun d hd=>g3 d ((Jd hk hd hc).2 fn c hfn hb);split at g1
                    · rename_i hrc;rw [H9] at g1;refine rest g1 (fun Q' hq=>hg _ _ ?_) (fun _ _=>rfl);unfold Av;rw [hk];simp only [hc,hi,hfn,hb];refine Ek hnm (g2 _ ?_);rw [hrc,H9];exact hq
                    · rename_i hrc;split at g1
                      · rename_i hs hdf;rw [H9] at g1;refine rest g1 (fun Q' hq=>hg _ _ ?_) hr;unfold Av;rw [hk];simp only [hc,hi,hfn,hb];refine Ek hnm (g2 _ ?_);rw [hrc];simp only [hdf];rw [H9];exact hq
                      · exact g1.elim
                  · exact h.elim
                · exact h.elim
              · rename_i hi;rw [Lh] at h;obtain ⟨v,hs,h1,h2⟩:=Qs h;rw [Mm,H9] at h2;refine rest h2 (fun Q' hq=>hg _ _ ?_) (fun d hd=>?_)
                · unfold Av;rw [hk];simp only [hc,hi,Lh];exact xV h1 (by rw [Mm,H9];exact hq)
                · have:=(Jd hk hd hc).1
                  rw [hi] at this;simp at this
            · exact h.elim
        · rw [H9] at h;exact rest h (fun Q' hq=>hg _ _ (by rw [H9];exact hq)) (fun _ _=>rfl)
    | code c=>
      change U4 K (vc K n) m c F H Q at h;change ∃ e F' H',(∀ Q':Post,Q' e F' H'→U4 K (vc K n) m c F H Q')∧_
      -- two Eh,one behind the other
      have both:∀ {a b:Code},vc K n m (.code a) F H (Nc (vc K n) m b Q)→∃ e F' H',(∀ Q':Post,Q' e F' H'→vc K n m (.code a) F H (Nc (vc K n) m b Q'))∧Q e F' H'∧∀ d d',J1 K d a=true→J1 K d' b=true→H'=H:=by
        intro a b h;obtain ⟨e,F1,H1,g1,g2,g3⟩:=ih _ _ _ _ _ h;cases e with
        | normal=>
          obtain ⟨e,F',H',q1,q2,q3⟩:=ih _ _ _ _ _ g2;exact ⟨e,F',H',fun Q' hq=>g1 _ (q1 Q' hq),q2,fun d d' hd hd'=>(q3 d' hd').trans (g3 d hd)⟩
        | exit i=>exact ⟨_,F1,H1,fun Q' hq=>g1 _ hq,g2,fun d _ hd _=>g3 d hd⟩
        | ret=>exact ⟨_,F1,H1,fun Q' hq=>g1 _ hq,g2,fun d _ hd _=>g3 d hd⟩
      cases c with
      | skip => exact ⟨.normal, F, H, fun Q' hq => hq, h, fun _ _ => rfl⟩
      | region id ops draw=>
        cases draw with
        | true=>
          obtain ⟨e,F',H',g1,g2,g3⟩:=ih _ _ _ _ _ h;refine ⟨e,F',H',g1,g2,fun d hd=>?_⟩;cases d with
          | zero=>simp [O6,J1] at hd
          | succ d=>exact g3 d (by simpa [O6,J1,Ct] using hd)
        | false=>
          obtain ⟨e,F',H',g1,g2,g3⟩:=ih _ _ _ _ _ h;refine ⟨e,F',H',g1,g2,fun d hd=>?_⟩;cases d with
          | zero=>simp [O6,J1] at hd
          | succ d=>exact g3 d (by simpa [O6,J1,Ct] using hd)
      | seq a b=>
        obtain ⟨e,F',H',g1,g2,g3⟩:=both h;refine ⟨e,F',H',g1,g2,fun d hd=>?_⟩;cases d with
        | zero=>simp [O6,J1] at hd
        | succ d=>
          simp only [O6,J1,Ct,zO] at hd;exact g3 (d+1) (d+1) hd.1 hd.2
      | cond c x y=>
        simp only [U4,Yq] at h ⊢
        have hro:∀ d,O6 K d (.code (.cond c x y))=true→O6 K d (.code x)=true∧O6 K d (.code y)=true:=fun d hd=>by
          cases d with
          | zero=>simp [O6,J1] at hd
          | succ d=>simpa [O6,J1,Ct] using hd
        split at h
        · rename_i t;split at h
          · rename_i b hb;rcases cU h with ⟨hb1,h2,h3⟩ | ⟨hb1,h2,h3⟩
            · subst hb1;rw [H9] at h2;obtain ⟨e,F',H',g1,g2,g3⟩:=ih _ _ _ _ _ h2;refine ⟨e,F',H',fun Q' hq=>?_,g2,fun d hd=>g3 d (hro d hd).1⟩;exact h3 _ _ (by rw [H9];exact g1 Q' hq)
            · subst hb1;rw [H9] at h2;obtain ⟨e,F',H',g1,g2,g3⟩:=ih _ _ _ _ _ h2;refine ⟨e,F',H',fun Q' hq=>?_,g2,fun d hd=>g3 d (hro d hd).2⟩;exact h3 _ _ (by rw [H9];exact g1 Q' hq)
          · exact h.elim
        · rename_i b;cases b with
          | true=>
            obtain ⟨e,F',H',g1,g2,g3⟩:=ih _ _ _ _ _ h;exact ⟨e,F',H',g1,g2,fun d hd=>g3 d (hro d hd).1⟩
          | false=>
            obtain ⟨e,F',H',g1,g2,g3⟩:=ih _ _ _ _ _ h;exact ⟨e,F',H',g1,g2,fun d hd=>g3 d (hro d hd).2⟩
        · exact h.elim
      | block id c=>
        obtain ⟨e,F',H',g1,g2,g3⟩:=ih _ _ _ _ _ h
        have hro:∀ d,O6 K d (.code (.block id c))=true→O6 K d (.code c)=true:=fun d hd=>by
          cases d with
          | zero=>simp [O6,J1] at hd
          | succ d=>simpa [O6,J1,Ct] using hd
        cases e with
        | normal=>exact ⟨.normal,F',H',fun Q' hq=>g1 _ hq,g2,fun d hd=>g3 d (hro d hd)⟩
        | ret=>exact ⟨.ret,F',H',fun Q' hq=>g1 _ hq,g2,fun d hd=>g3 d (hro d hd)⟩
        | exit i=>
          simp only [Z3] at g2;split at g2
          · rename_i hi;exact ⟨.normal,F',H',fun Q' hq=>g1 _ (by simp only [Z3,hi];exact hq),g2,fun d hd=>g3 d (hro d hd)⟩
          · rename_i hi;exact ⟨.exit i,F',H',fun Q' hq=>g1 _ (by simp only [Z3,hi];exact hq),g2,fun d hd=>g3 d (hro d hd)⟩
      | loop c=>
        cases hu:K.unr with
        | true=>
          simp only [U4,hu] at h ⊢;obtain ⟨e,F',H',g1,g2,g3⟩:=both h;refine ⟨e,F',H',g1,g2,fun d hd=>?_⟩;cases d with
          | zero=>simp [O6,J1] at hd
          | succ d=>
            refine g3 (d+1) (d+1) ?_ hd;simp only [O6,J1,Ct,zO] at hd;exact hd.2
        | false=>
          simp only [U4,hu] at h ⊢;obtain ⟨hM,h2⟩:=J8 h;obtain ⟨e,F',H',h3,h4⟩:=nA h2;rw [Lh] at h4;refine ⟨e,F',H',fun Q' hq=>Ek hM (lpc_of h3 (by rw [Lh];exact hq)),h4,fun d hd=>?_⟩;cases d with
          | zero=>simp [O6,J1] at hd
          | succ d=>simp [O6,J1,Ct,hu] at hd
      | exit id=>exact ⟨.exit id,F,H,fun Q' hq=>hq,h,fun _ _=>rfl⟩
      | scope c=>
        obtain ⟨e,F',H',g1,g2,g3⟩:=ih _ _ _ _ _ h;refine ⟨e,F',H',g1,g2,fun d hd=>?_⟩;cases d with
        | zero=>simp [O6,J1] at hd
        | succ d=>exact g3 (d+1) (by simpa [O6,J1,Ct] using hd)
      | label l=>exact ⟨.normal,F,H,fun Q' hq=>hq,h,fun _ _=>rfl⟩
      | ret=>exact ⟨.ret,F,H,fun Q' hq=>hq,h,fun _ _=>rfl⟩
      | rangeFunc g ps as bd=>
        simp only [U4] at h ⊢;unfold Pf at h;split at h
        · rename_i f cap hf;split at h
          · rename_i fn hfn;split at h
            · rename_i c hb;obtain ⟨hc,h1⟩:=J8 h;obtain ⟨v,H1,g1,g2,_⟩:=Xo ih h1;obtain ⟨ex,H2,q1,q2⟩:=rng_pt g1;refine ⟨ex,F,H2,fun Q' hq=>?_,q1,fun d hd=>?_⟩
              · unfold Pf;simp only [hf,hfn,hb];exact Ek hc (g2 _ (q2 Q' hq))
              · cases d with
                | zero=>simp [O6,J1] at hd
                | succ d=>simp [O6,J1,Ct] at hd
            · exact h.elim
          · exact h.elim
        · exact h.elim
      | goto l=>exact h.elim
      | refuse s=>exact h.elim
theorem B2.back {C:A1} {ρ ρ':Env} {H H':Hp} {w w':World} (h:B2 C ρ H w) (hf:Frm ⟨ρ.rw,ρ.ro,[]⟩ w ρ' w') (h':B2 C ρ' H' w') :
  B2 C ⟨ρ'.rw,ρ'.ro,ρ.dfs⟩ H' w'∧Frm ρ w ⟨ρ'.rw,ρ'.ro,ρ.dfs⟩ w':=by
 refine ⟨h'.setDfs ρ.dfs fun D hD=>⟨?_,fun i e he=>?_,fun i d hr=>?_⟩,⟨hf.os,hf.tape,hf.output,hf.size,hf.keep,hf.news,hf.ro,hf.newro,fun _ h=>.inl h⟩⟩
 ·rw [hf.keep D (h.df_lt hD) (.inr (h.df D hD).2.1)];exact (h.df D hD).1
 ·have hlt:=h.df_lt hD;rcases hf.news i e he with ⟨j,e',hj,hje⟩ | hge
  ·rw [←hje];exact (h.df D hD).2.1 j e' hj
  ·omega
 ·have hlt:=h.df_lt hD;rcases hf.newro i D d hr with h1 | ⟨j,e,he,heb⟩ | h1
  ·exact (h.df D hD).2.2 i d h1
  ·exact (h.df D hD).2.1 j e he heb
  ·omega
theorem lL {ρ:Env}:∀ (ps:List Nat) (F:Fr) (args:List AV) (cargs:List Value) (tmps:Array Value),VRs ρ args cargs→F.length=tmps.size→(∀ (i:Nat) v,F[i]?=some v→VR ρ v (tmps.getD i undef))→
  (Kk F ps args).length=((ps.zip cargs).foldl (fun t p=>t.setIfInBounds p.1 p.2) tmps).size∧∀ (i:Nat) v,(Kk F ps args)[i]?=some v→VR ρ v (((ps.zip cargs).foldl (fun t p=>t.setIfInBounds p.1 p.2) tmps).getD i undef)
 | [],F,args,cargs,tmps,_,h1,h2=>by simp only [Kk,List.zip_nil_left,List.foldl_nil];exact ⟨h1,h2⟩
 | p::ps,F,[],cargs,tmps,hv,h1,h2=>by
  simp only [VRs] at hv;subst hv;simp only [Kk,List.zip_nil_right,List.foldl_nil];exact ⟨h1,h2⟩
 | p::ps,F,x::args,cargs,tmps,hv,h1,h2=>by
  simp only [VRs] at hv;obtain ⟨v,vs,rfl,hx,hs⟩:=hv;simp only [Kk,List.zip_cons_cons,List.foldl_cons];refine lL ps _ _ _ _ hs (by simp [h1]) fun i y hy=>?_;rw [zA5] at hy;rw [Array.getD_eq_getD_getElem?,Array.getElem?_setIfInBounds];by_cases hi:p=i
  ·subst hi;rw [if_pos rfl] at hy ⊢;split at hy
   ·rename_i hl;rw [if_pos (by omega)];simp at hy;subst hy;simpa using hx
   ·simp at hy
  ·rw [if_neg hi] at hy ⊢;simpa [Array.getD_eq_getD_getElem?] using h2 i y hy
theorem B2.recAt {C:A1} {ρ:Env} {H:Hp} {w:World} (hH:B2 C ρ H w) {i e p:Nat} {ps:Array Nat} {as bd:Code} {F:Fr} {en:Q3} (hi:H[i]?=some (some ⟨e,.rcd p ps as bd::F⟩)) (he:Nat.beq e 4294967291=true) (hen:ρ.rw[i]?=some (some en)) :
  ∃ r:Loop,w.heap[en.blk]?=some (.loop r)∧StR p r.state r.pending∧r.params=ps∧r.assign=as∧r.body=bd∧F.length=r.tmps.size∧∀ (k:Nat) v,F[k]?=some v→VR ρ v (r.tmps.getD k undef):=by
 have hl:=hH.live i _ hi;rw [hen] at hl;obtain ⟨_,r,h1,p',ps',a',b',F',h2,h3⟩:=hl.rec (by unfold isRec;exact he);simp only [List.cons.injEq,AV.rcd.injEq] at h2;obtain ⟨⟨rfl,rfl,rfl,rfl⟩,rfl⟩:=h2;exact ⟨r,h1,h3⟩
theorem B2.recSet {C:A1} {ρ:Env} {H:Hp} {w:World} (hH:B2 C ρ H w) {i e p q:Nat} {ps:Array Nat} {as bd:Code} {F:Fr} {en:Q3} (hi:H[i]?=some (some ⟨e,.rcd p ps as bd::F⟩)) (he:Nat.beq e 4294967291=true) (hen:ρ.rw[i]?=some (some en))
  {r:Loop} {st:LoopState} {pe:Option Code} (h3:r.params=ps) (h4:r.assign=as) (h5:r.body=bd) (h6:F.length=r.tmps.size) (h7:∀ (k:Nat) v,F[k]?=some v→VR ρ v (r.tmps.getD k undef)) (hst:StR q st pe) :
  B2 C ρ (H.set i (some ⟨e,.rcd q ps as bd::F⟩)) (w.putObj en.blk (.loop { r with state:=st,pending:=pe }))∧Frm ρ w ρ (w.putObj en.blk (.loop { r with state:=st,pending:=pe })):=
 hH.updRec (b':=⟨e,.rcd q ps as bd::F⟩) (r':={ r with state:=st,pending:=pe }) hi hen rfl (by unfold isRec;exact he) ⟨q,ps,as,bd,F,rfl,hst,h3,h4,h5,h6,h7⟩
theorem tH {P:Program} {w:World} {ρ:Env} {F:Fr} {a:Act} {o:Oper} {i:Nat} {args:List AV} (hF:D0 ρ F a) (h:yldOp F o.op=some (i,args)) :
  ∃ (e:Q3) (cargs:List Value),ρ.rw[i]?=some (some e)∧VRs ρ args cargs∧(execOp a.eval o).run P w=(Instr.yield e.blk cargs.toArray).run P w:=by
 have E:=fun x=>Ij hF x;obtain ⟨dst,op,type,pos,after,guard⟩:=o;simp only at h;unfold yldOp at h;unfold execOp;split at h
 ·rename_i g xs ts;split at h
  ·rename_i i' hg;simp at h;obtain ⟨rfl,rfl⟩:=h;have hv:=E g;rw [hg] at hv;simp only [VR] at hv;obtain ⟨e,he,hcs⟩:=hv;refine ⟨e,xs.toList.map a.eval,he,Xt _ _ _ fun x _=>E x,?_⟩;simp only [resolve,hcs,Deferred.ofValue,Sem.run_bind,Sem.run_pure,Result.andThen_ok,invoke];congr 2;apply Array.ext';simp
  ·simp at h
 ·simp at h
theorem nd_yld {F:Fr} {op:Op} {x:Nat×List AV} (h:yldOp F op=some x):∀ c,op≠.defer c:=by rintro c rfl;simp [yldOp] at h
theorem wQ {C:A1} {ρ:Env} {F:Fr} {H:Hp} {w:World} {a:Act} {o:Oper} {i e:Nat} {args:List AV} {ps:Array Nat} {as bd:Code} {F0:Fr} (hH:B2 C ρ H w) (hF:D0 ρ F a) (ho:yldOp F o.op=some (i,args))
  (hi:H[i]?=some (some ⟨e,.rcd 0 ps as bd::F0⟩)) (he:Nat.beq e 4294967291=true) (hl:args.length=ps.size) {Q1 Q2:Post} {R:AV→Hp→Prop}
  (A:∀ r ρ a w,B2 C ρ H w→D0 ρ (Kk F0 ps.toList args) a→as.wpIn (W (some r)) 0 C.P (AP C H.length ρ w Q1) a w)
  (B:∀ ex F1 H1,H.length≤H1.length→Q1 ex F1 H1→ex=.normal∧∃ e ps' as' bd' F',H1[i]?=some (some ⟨e,.rcd 0 ps' as' bd'::F'⟩)∧Nat.beq e 4294967291=true∧
   ∀ r ρ a w,B2 C ρ (H1.set i (some ⟨e,.rcd 1 ps' as' bd'::F'⟩)) w→D0 ρ F1 a→bd.wpIn (W (some r)) 0 C.P (AP C H.length ρ w Q2) a w)
  (E:∀ ex F2 H2,H.length≤H2.length→Q2 ex F2 H2→∃ e ps' as' bd' F',H2[i]?=some (some ⟨e,.rcd 1 ps' as' bd'::F'⟩)∧Nat.beq e 4294967291=true∧R (.bool (Ze ex)) (H2.set i (some ⟨e,.rcd (tQ ex) ps' as' bd'::F'⟩)))
  {r:Option Nat} {next:Act→World→Prop} {Q:Exit→Act→World→Prop}
  (hn:∀ v H' ρ' cv w',R v H'→B2 C ρ' H' w'→VR ρ' v cv→ρ.le ρ'→Frm ρ w ρ' w'→next (a.put o.dst cv) w'):o.wpIn (W r) 0 C.P a w next Q:=by
 obtain ⟨en,cargs,hen,hv,hrun⟩:=tH (P:=C.P) (w:=w) hF ho;refine U1 (nd_yld ho) ?_;have hil:i<H.length:=(zP.1 hi).1;obtain ⟨r0,g1,g2,g3,g4,g5,g6,g7⟩:=hH.recAt hi he hen;have hcl:=E6 hv;rw [hrun,run_yield g1 (by simp [g3,hcl,hl])];refine ⟨fun h=>by simp [W,Fence.wide] at h,?_⟩;rw [g4,g5];have hHb:=hH.setDfs [] (fun _ h=>by simp at h);refine roundIn_of_wpIn (F:=W r) (n:=0) trivial ?_
 have hfold:(r0.params.zip cargs.toArray).foldl (fun tmps (x:Tmp×Value)=>tmps.setIfInBounds x.1 x.2) r0.tmps=(ps.toList.zip cargs).foldl (fun t p=>t.setIfInBounds p.1 p.2) r0.tmps:=by
  rw [g3,←Array.foldl_toList];congr 1;simp
 obtain ⟨q1,q2⟩:=lL (ρ:=⟨ρ.rw,ρ.ro,[]⟩) ps.toList F0 args cargs r0.tmps (VRs.sub (Env.sub_dfs ρ []) _ _ hv) g6 fun k v hk=>VR.sub (Env.sub_dfs ρ []) _ _ (g7 k v hk)
 have hFb:D0 ⟨ρ.rw,ρ.ro,[]⟩ (Kk F0 ps.toList args) { tmps:=(r0.params.zip cargs.toArray).foldl (fun tmps (x:Tmp×Value)=>tmps.setIfInBounds x.1 x.2) r0.tmps,defers:=[] }:=by
  rw [hfold];exact ⟨⟨[],rfl,List.nodup_nil,fun _ h=>by simp at h⟩,q1,q2⟩
 refine wpIn_mono (A en.blk _ _ w hHb hFb) ?_;rintro ex a1 w1 ⟨ae,ρ1,F1,H1,rfl,hQ1,hp1,hH1,hF1,hfr1⟩;have hm1:=S2 (zA7 _) hHb hH1 hp1;obtain ⟨rfl,e1,ps1,as1,bd1,F1',hi1,he1,hbody⟩:=B ae F1 H1 hm1 hQ1;have hen1:ρ1.rw[i]?=some (some en):=(hp1 i hil).trans hen;obtain ⟨r1,k1,k2,k3,k4,k5,k6,k7⟩:=hH1.recAt hi1 he1 hen1;obtain ⟨kst,kpe⟩:r1.state=.ready∧r1.pending=none:=k2;refine ⟨_,run_beginRound k1 kst,?_⟩;obtain ⟨hH1',hfr1'⟩:=hH1.recSet (q:=1) (st:=.busy) (pe:=r1.pending) hi1 he1 hen1 k3 k4 k5 k6 k7 ⟨rfl,kpe⟩;refine wpIn_mono (hbody en.blk _ _ _ hH1' hF1) ?_
 rintro ex2 a2 w2 ⟨ae2,ρ2,F2,H2,rfl,hQ2,hp2,hH2,hF2,hfr2⟩;have hm2:=S2 (by simpa using hm1) hH1' hH2 hp2;obtain ⟨e2,ps2,as2,bd2,F2',hi2,he2,hR⟩:=E ae2 F2 H2 hm2 hQ2;have hen2:ρ2.rw[i]?=some (some en):=(hp2 i hil).trans hen1;obtain ⟨r2,l1,l2,l3,l4,l5,l6,l7⟩:=hH2.recAt hi2 he2 hen2
 have fin:∀ (b:Bool) (st:LoopState) (pe:Option Code),b=Ze ae2→StR (tQ ae2) st pe→next (a.put o.dst (.bool b)) (w2.putObj en.blk (.loop { r2 with state:=st,pending:=pe })):=by
  intro b st pe hb hst;obtain ⟨hH3,hfr3⟩:=hH2.recSet (q:=tQ ae2) (st:=st) (pe:=pe) hi2 he2 hen2 l3 l4 l5 l6 l7 hst;obtain ⟨hH4,hfr4⟩:=hH.back (hfr1.trans (hfr1'.trans (hfr2.trans hfr3))) hH3;refine hn _ _ _ _ _ hR hH4 (by simp only [VR,hb]) ⟨fun k x hx=>?_,hfr4.ro,fun _ h=>h⟩ hfr4;have hk:k<H.length:=by rw [←hH.len];exact (zP.1 hx).1
  exact ((hp2 k hk).trans (hp1 k hk)).trans hx
 cases ae2 with
 | normal=>exact ⟨_,_,run_endRound none l1,fin true .ready none rfl ⟨rfl,rfl⟩⟩
 | ret=>exact ⟨_,_,run_endRound (some .ret) l1,fin false .done (some .ret) rfl ⟨rfl,rfl⟩⟩
 | exit n=>exact ⟨_,_,run_endRound (some (.exit n)) l1,fin false .done (some (.exit n)) rfl ⟨rfl,rfl⟩⟩
theorem yR {C:A1} {ρ:Env} {F:Fr} {H:Hp} {w:World} {a:Act} (hH:B2 C ρ H w) (hF:D0 ρ F a) (ps:Array Tmp) (as bd:Code) (rc:Loop) (h1:rc.state=.ready) (h2:rc.pending=none) (h3:rc.tmps=a.tmps) (h4:rc.params=ps) (h5:rc.assign=as) (h6:rc.body=bd) (z:Nat) (hz:Nat.beq z 4294967291=true) :
  B2 C ⟨ρ.rw++[some ⟨w.heap.size+1,0,z⟩],ρ.ro,w.heap.size::ρ.dfs⟩ (H++[some ⟨z,.rcd 0 ps as bd::F⟩]) ((w.alloc (.deferred (some []))).alloc (.loop rc))∧
  Frm ρ w ⟨ρ.rw++[some ⟨w.heap.size+1,0,z⟩],ρ.ro,w.heap.size::ρ.dfs⟩ ((w.alloc (.deferred (some []))).alloc (.loop rc))∧
  D0 ⟨ρ.rw++[some ⟨w.heap.size+1,0,z⟩],ρ.ro,w.heap.size::ρ.dfs⟩ F { a with defers:=[{ target:=.collected w.heap.size,args:=#[] }]++a.defers }∧
  ρ.sub ⟨ρ.rw++[some ⟨w.heap.size+1,0,z⟩],ρ.ro,w.heap.size::ρ.dfs⟩:=by
 have hs0:(w.alloc (.deferred (some []))).heap.size=w.heap.size+1:=by simp
 have hA:=hH.alloc (.deferred (some []))
 have hB:B2 C ⟨ρ.rw,ρ.ro,w.heap.size::ρ.dfs⟩ H (w.alloc (.deferred (some []))):=hA.setDfs (w.heap.size::ρ.dfs) fun D hD=>by
  rcases List.mem_cons.1 hD with rfl | hD
  ·exact ⟨World.alloc_heap_new w _,fun i e he=>by have:=(hH.ents i e he).2;omega,fun i d hr=>by have:=(hH.ro i _ d hr).1;omega⟩
  ·exact hA.df D hD
 have hC:=hB.alloc (.loop rc);have sub1:ρ.sub ⟨ρ.rw++[some ⟨w.heap.size+1,0,z⟩],ρ.ro,w.heap.size::ρ.dfs⟩:=⟨fun i x hx=>(Env.le_push ρ (some ⟨w.heap.size+1,0,z⟩)).1 i x hx,fun _ _ _ h=>h⟩;refine ⟨?_,?_,?_,sub1⟩
 ·refine hC.more (some ⟨w.heap.size+1,0,z⟩) _ (fun e he=>?_) ?_ (fun e he i b' e' h1 h2=>?_) (fun e he D hD=>?_) fun e he i d hr=>?_
  ·simp at he;subst he
   have:=hH.base
   exact ⟨by show C.B≤w.heap.size+1;omega,by simp⟩
  ·refine .ofRec hz ⟨rfl,rc,?_,0,ps,as,bd,F,rfl,⟨h1,h2⟩,h4,h5,h6,by rw [h3];exact hF.len,fun k v hk=>by rw [h3];exact VR.sub sub1 _ _ (hF.val k v hk)⟩
   have:=World.alloc_heap_new (w.alloc (.deferred (some []))) (.loop rc)
   rw [hs0] at this;exact this
  ·simp at he;subst he
   have:=(hH.ents i e' h2).2
   show e'.blk≠w.heap.size+1;omega
  ·simp at he;subst he;show w.heap.size+1≠D;rcases List.mem_cons.1 hD with rfl | hD
   ·omega
   ·have:=hH.df_lt hD;omega
  ·simp at he;subst he
   have:=(hH.ro i _ d hr).1
   simp only at this;omega
 ·refine ⟨rfl,rfl,rfl,by simp;omega,fun b hb _=>?_,fun i e he=>?_,fun _ _ _ h=>h,fun _ _ _ h=>.inl h,fun D hD=>?_⟩
  ·exact (Below.heap_alloc (w.alloc (.deferred (some []))) _ b (by omega)).trans (Below.heap_alloc w _ b hb)
  ·rcases X0 ρ (some ⟨w.heap.size+1,0,z⟩) i _ he with ⟨_,h⟩ | ⟨_,h⟩
   ·exact .inl ⟨i,e,h,rfl⟩
   ·simp at h;subst h;exact .inr (by show w.heap.size≤w.heap.size+1;omega)
  ·rcases List.mem_cons.1 hD with rfl | hD
   ·exact .inr (zA7 _)
   ·exact .inl hD
 ·obtain ⟨ds,h1,h2,h3⟩:=hF.nod;refine ⟨⟨w.heap.size::ds,by simp [h1],List.nodup_cons.2 ⟨fun hin=>?_,h2⟩,fun D hD=>?_⟩,hF.len,fun k v hk=>VR.sub sub1 _ _ (hF.val k v hk)⟩
  ·have:=hH.df_lt (h3 _ hin);omega
  ·rcases List.mem_cons.1 hD with rfl | hD
   ·exact List.mem_cons_self
   ·exact List.mem_cons_of_mem _ (h3 D hD)
theorem yQ {C:A1} {m:Nat} {ρ:Env} {F:Fr} {H:Hp} {w:World} {a:Act} {g:Operand} {ps:Array Tmp} {as bd:Code} {f:FuncId} {cap:List AV} {Q0:Post} (hm:m≤H.length) (hH:B2 C ρ H w) (hF:D0 ρ F a) (hg:ev F g=.func f cap)
  (call:ACalls C f (.yld H.length::cap) (H++[some ⟨4294967291,.rcd 0 ps as bd::F⟩]) (Jj H.length F Q0)):(Code.rangeFunc g ps as bd).wpIn (W none) 0 C.P (AP C m ρ w Q0) a w:=by
 have hv:=Ij hF g;rw [hg] at hv;simp only [VR] at hv;obtain ⟨cs,hcs,hcap⟩:=hv;refine wpIn_rangeFunc fun fn _=>?_;obtain ⟨z,hz,hze⟩:∃ z,Nat.beq z 4294967291=true∧(4294967291:Nat)=z:=⟨_,rfl,rfl⟩;rw [hze] at call
 let rc:Loop:={ state:=.ready,pending:=none,fn,tmps:=a.tmps,params:=ps,assign:=as,body:=bd,defers:=w.heap.size }
 obtain ⟨hD,hfr1,hF1,sub1⟩:=yR hH hF ps as bd rc rfl rfl rfl rfl rfl rfl z hz;generalize hρ1:(⟨ρ.rw++[some ⟨w.heap.size+1,0,z⟩],ρ.ro,w.heap.size::ρ.dfs⟩:Env)=ρ1 at hD hfr1 hF1 sub1
 have hen1:ρ1.rw[H.length]?=some (some ⟨w.heap.size+1,0,z⟩):=by
  rw [←hρ1];show (ρ.rw++[some _])[H.length]?=_;rw [←hH.len];simp
 obtain ⟨hent,hcall⟩:=call
 have hargs:VRs ρ1 (.yld H.length::cap) (.func (.yield (w.heap.size+1)) #[] #[]::cs.toList):=by
  simp only [VRs,VR];exact ⟨_,_,rfl,⟨_,hen1,rfl⟩,VRs.sub sub1 _ _ hcap⟩
 refine ⟨w.heap.size+1,[{ target:=.collected w.heap.size,args:=#[] }],(w.alloc (.deferred (some []))).alloc (.loop rc),⟨.fn (.func f) cs,#[.func (.yield (w.heap.size+1)) #[] #[]]⟩,(w.alloc (.deferred (some []))).alloc (.loop rc),f,(.func (.yield (w.heap.size+1)) #[] #[]::cs.toList).toArray,(w.alloc (.deferred (some []))).alloc (.loop rc),
  run_enterLoop_outer fn a.tmps ps as bd,?_,fun _ _=>trivial,?_,fun h=>by simp [W,Fence.wide] at h,Jt.2 ((hcall ρ1 _ _ hD hargs).mono ?_)⟩
 ·have hy:a.eval (.const (.func (.yield (w.heap.size+1)) #[] #[]))=.func (.yield (w.heap.size+1)) #[] #[]:=rfl;simp [resolve,hcs,Deferred.ofValue,hy]
 ·simp only [invoke];rw [Ch hent];congr 2;apply Array.ext';simp
 rintro ex w2 ⟨v,cv,ρ2,H2,rfl,hR,hle,hH2,_,hfr2⟩;unfold Jj at hR;split at hR
 ·rename_i e p ps' as' bd' F' hi;obtain ⟨he,hR⟩:=J8 hR;have hen2:ρ2.rw[H.length]?=some (some (⟨w.heap.size+1,0,z⟩:Q3)):=hle.1 _ _ hen1;obtain ⟨r2,k1,k2,_⟩:=hH2.recAt hi he hen2;obtain ⟨hH3,hfr3⟩:=hH2.putDead hi hen2 (.loop { r2 with state:=.exhausted });have hF3:=hF1.mono hle
  have hpin:K3 m ρ ρ2:=fun i hi=>by
   have hlt:i<ρ.rw.length:=by rw [hH.len];omega
   have e0:ρ.rw[i]?=some ρ.rw[i]:=by simp [hlt]
   rw [e0];exact hle.1 i _ (sub1.1 i _ e0)
  have out:∀ ae,Q0 ae F (H2.set H.length none)→AP C m ρ w Q0 (Lr ae) { a with defers:=[{ target:=.collected w.heap.size,args:=#[] }]++a.defers } (w2.putObj (w.heap.size+1) (.loop { r2 with state:=.exhausted })):=
   fun ae hq=>⟨ae,ρ2,F,_,rfl,hq,hpin,hH3,hF3,hfr1.trans (hfr2.trans hfr3)⟩
  have nb:r2.state≠.busy:=by
   match p,k2,hR with
   | 0,k2,_=>rw [k2.1];simp
   | 1,_,hR=>exact hR.elim
   | 2,k2,_=>rw [k2.1];simp
   | n+3,k2,_=>rw [k2.1];simp
  obtain ⟨w3,hw3⟩:∃ w3,w3=w2.putObj (w.heap.size+1) (.loop { r2 with state:=.exhausted }):=⟨_,rfl⟩;rw [←hw3] at out;refine ⟨r2.pending,w3,by rw [hw3];exact run_endLoop k1 nb,?_⟩
  match p,k2,hR with
  | 0,k2,hR=>rw [k2.2];exact out .normal hR
  | 1,_,hR=>exact hR.elim
  | 2,k2,hR=>rw [k2.2];exact wpIn_ret (out .ret hR)
  | n+3,k2,hR=>rw [k2.2];exact wpIn_exit (out (.exit n) hR)
 ·exact hR.elim
theorem Hh {F:Fence} {n:Nat} {P:Program} {c:Code} {Q:Exit→Act→World→Prop} {a:Act} {w:World} (h:c.wpIn F n P (Exit.noGoto Q) a w):(Code.scope c).wpIn F n P Q a w:=by
 intro b k cs hro hb hr;have h0:(lone (b.atR a (.code (.scope c)::k)) cs w).fenced P F:=fenced_calm hb hr rfl;have s0:step P (lone (b.atR a (.code (.scope c)::k)) cs w)=.next (lone (b.atR a (.code c::.inScope c::k)) cs w):=step_lone_go (by simp [stepG,stepG.exec,Frame.atR]);have s1:∀ a w,step P (lone (b.atR a (.inScope c::k)) cs w)=.next (lone (b.atR a k) cs w):=fun a w=>step_lone_go (by simp [stepG,stepG.exec,Frame.atR]);obtain ⟨e,a₁,w₁,hq,harr⟩:=h b (.inScope c::k) cs hro hb hr;have hx:∀ id,exitTo id (.inScope c::k)=exitTo id k:=fun id=>by simp [exitTo]
 cases e with
 | normal=>exact ⟨.normal,a₁,w₁,hq,.head h0 s0 (StepsIn.trans harr (.one (fenced_calm hb hr rfl) (s1 _ _)))⟩
 | exit id=>exact ⟨.exit id,a₁,w₁,hq,fun k' hk=>.head h0 s0 (harr.1 k' (by rw [hx];exact hk)),fun hr' hk=>let ⟨k₁,h1,h2⟩:=harr.2 hr' (by rw [hx];exact hk);⟨k₁,h1,.head h0 s0 h2⟩⟩
 | goto l=>exact hq.elim
 | ret=>exact ⟨_,a₁,w₁,hq,.of_steps (.one h0 s0) harr⟩
 | panic ch=>exact ⟨_,a₁,w₁,hq,.of_steps (.one h0 s0) harr⟩
 | outgrown=>exact ⟨_,a₁,w₁,hq,.of_steps (.one h0 s0) harr⟩
section
variable {K:Cfg} {lps:List Code}
theorem Zr (hK:Ee K lps) {all:List Oper} {trs:List Tr} {vs:List AV} {F0:Fr} {H0:Hp} {ρ0:Env} {w0:World} (hd:X4 all trs=true) (hvl:vs.length=all.length) (hl:trs.length=all.length)
  (htr:∀ (j:Nat) o,all[j]?=some o→∃ tr v H2,trs[j]?=some tr∧vs[j]?=some v∧St K all o (FSel (F6 j) 0 all vs F0) (M0 (F6 j) 0 trs H0) tr v H2)
  {r:Option Nat} {Q:Exit→Act→World→Prop} (hQ:∀ a w,cJ K all trs vs F0 H0 ρ0 w0 (F6 all.length) a w→Q .normal a w) :
  ∀ (fuel:Nat) (listed:Array Bool) (a:Act) (w:World),listed.size=all.length→(List.range all.length).countP (fun i=>!listed.getD i false)=fuel→
   cJ K all trs vs F0 H0 ρ0 w0 (fun i=>listed.getD i false) a w→wpAnyIn (W r) 0 K.C.P .any all.toArray Q fuel listed a w:=by
 have full:∀ (listed:Array Bool) (a:Act) (w:World),listed.size=all.length→(List.range all.length).countP (fun i=>!listed.getD i false)=0→
   cJ K all trs vs F0 H0 ρ0 w0 (fun i=>listed.getD i false) a w→Q .normal a w:=by
  intro listed a w hsz hc hs;rw [List.countP_eq_zero] at hc;have hall:∀ i,i<all.length→listed.getD i false=true:=fun i hi=>by simpa using hc i (List.mem_range.2 hi)
  refine hQ a w ⟨fun j o ho hj e he hb=>?_,?_⟩
  ·have hjl:j<all.length:=(zP.1 ho).1
   have:=hs.closed j o ho (hall j hjl) e he hb
   simp only [X4,zO] at hd
   have:=Rx all 0 hd.1 j o ho e he hb
   exact yI (by omega)
  ·obtain ⟨ρ,h1,h2,h3,h4⟩:=hs.rel;refine ⟨ρ,?_,?_,h3,h4⟩
   ·rw [Bi (F6 all.length) (fun i=>listed.getD i false) trs 0 H0 fun k t hk=>.inr ?_]
    ·exact h1
    ·have:=(zP.1 hk).1
     simp only [Nat.zero_add];rw [hall k (by omega)];exact yI (by omega)
   ·rw [Ky (F6 all.length) (fun i=>listed.getD i false) all vs 0 F0 fun k hk=>?_]
    ·exact h2
    ·simp only [Nat.zero_add];rw [hall k hk];exact yI hk
 intro fuel
 induction fuel with
 | zero=>
  intro listed a w hsz hc hs;refine ⟨?_,full listed a w hsz hc hs⟩;rw [List.countP_eq_zero] at hc;refine List.filter_eq_nil_iff.2 fun i hi=>?_;have hil:i<all.length:=by simpa using List.mem_range.1 hi
  have:=hc i (List.mem_range.2 hil)
  have hg:listed.getD i true=listed.getD i false:=by simp [Array.getD,hsz,hil]
  simp only [hg];simp at this;simp [this]
 | succ fuel ih=>
  intro listed a w hsz hc hs;refine ⟨fun hnil=>?_,fun i hi=>?_⟩
  ·-- somebody is not listed;the first of them is ready
   exfalso
   have hex:∃ i,i<all.length∧listed.getD i false=false:=by
    have hpos:0<(List.range all.length).countP (fun i=>!listed.getD i false):=by omega
    obtain ⟨i,hi,hp⟩:=List.countP_pos_iff.1 hpos;exact ⟨i,List.mem_range.1 hi,by simpa using hp⟩
   have least:∃ i,i<all.length∧listed.getD i false=false∧∀ k,k<i→listed.getD k false=true:=by
    obtain ⟨i,hi⟩:=hex
    induction i using Nat.strongRecOn with
    | _ i ih'=>
     by_cases hm:∃ k,k<i∧listed.getD k false=false
     ·obtain ⟨k,hk,hf⟩:=hm;exact ih' k hk ⟨by omega,hf⟩
     ·refine ⟨i,hi.1,hi.2,fun k hk=>?_⟩;cases hq:listed.getD k false with
      | true=>rfl
      | false=>exact absurd ⟨k,hk,hq⟩ hm
   obtain ⟨i,hil,hf,hbelow⟩:=least;obtain ⟨o,ho⟩:∃ o,all[i]?=some o:=⟨_,xW hil⟩
   have hmem:i∈Region.ready .any all.toArray listed:=by
    unfold Region.ready;refine List.mem_filter.2 ⟨List.mem_range.2 (by simpa using hil),?_⟩;have hg:listed.getD i true=listed.getD i false:=by simp [Array.getD,hsz,hil]
    simp only [hg,hf,List.getElem?_toArray,ho,Option.map_some,Option.getD_some,Bool.not_false,Bool.true_and];rw [Array.all_eq_true_iff_forall_mem];intro e he;simp only [X4,zO] at hd;cases hb:Region.binds .any e with
    | false=>rfl
    | true=>
     have:=Rx all 0 hd.1 i o ho e (by simpa using he) hb
     simp [hbelow e.on (by omega)]
   rw [hnil] at hmem;simp at hmem
  ·obtain ⟨hir,hip⟩:=List.mem_filter.1 hi;have hil:i<all.length:=by simpa using List.mem_range.1 hir
   obtain ⟨o,ho⟩:∃ o,all[i]?=some o:=⟨_,xW hil⟩;have hg:listed.getD i true=listed.getD i false:=by simp [Array.getD,hsz,hil]
   simp only [hg,List.getElem?_toArray,ho,Option.map_some,Option.getD_some,zO,Bool.not_eq_true',Array.all_eq_true_iff_forall_mem] at hip
   have hset:∀ k,(listed.setIfInBounds i true).getD k false=if k=i then true else listed.getD k false:=fun k=>by
    simp only [Array.getD_eq_getD_getElem?,Array.getElem?_setIfInBounds];by_cases hk:i=k
    ·subst hk;simp [hsz,hil]
    ·rw [if_neg hk,if_neg (fun h:k=i=>hk h.symm)]
   unfold wpOpIn;simp only [List.getElem?_toArray,ho];refine tP hK hd hvl hl htr hs ho hip.1 (S':=fun k=>(listed.setIfInBounds i true).getD k false) (by simp [hset]) (fun k hk=>by simp [hset,hk]) (fun e he hb=>?_) fun a' w' hs'=>?_
   ·have:=hip.2 e (by simpa using he)
    simpa [hb] using this
   ·refine ih _ a' w' (by simp [hsz]) ?_ hs'
    have e1:(fun k=>!(listed.setIfInBounds i true).getD k false)=fun k=>!(k==i)&&!listed.getD k false:=by
     funext k;rw [hset];by_cases hk:k=i
     ·simp [hk]
     ·simp [hk]
    rw [e1]
    -- one fewer
    have cnt:∀ n,i<n→(List.range n).countP (fun k=>!listed.getD k false)=(List.range n).countP (fun k=>!(k==i)&&!listed.getD k false)+1:=by
     intro n
     induction n with
     | zero=>intro h;omega
     | succ n ihn=>
      intro h;rw [List.range_succ,List.countP_append,List.countP_append];by_cases hin:i=n
      ·subst hin
       have same:(List.range i).countP (fun k=>!listed.getD k false)=(List.range i).countP (fun k=>!(k==i)&&!listed.getD k false):=List.countP_congr fun k hk=>by
        have:k≠i:=by have:=List.mem_range.1 hk;omega
        simp [this]
       rw [same];simp only [List.countP_cons,List.countP_nil,hip.1,Bool.not_false,beq_self_eq_true,Bool.not_true,Bool.false_and,if_true];rfl
      ·rw [ihn (by omega)]
       have:(n==i)=false:=by simp;omega
       simp only [List.countP_cons,List.countP_nil,this];simp;omega
    have:=cnt all.length hil
    omega
theorem bW (hK:Ee K lps) {all:List Oper} {trs:List Tr} {F F':Fr} {H H':Hp} (ht:DT K all all F H trs F' H') (hd:X4 all trs=true) {ρ:Env} {a:Act} {w:World} (hH:B2 K.C ρ H w) (hF:D0 ρ F a)
  {id:Nat} {r:Option Nat} {Q:Exit→Act→World→Prop} (hQ:∀ ρ' a' w',B2 K.C ρ' H' w'→D0 ρ' F' a'→ρ.le ρ'→Frm ρ w ρ' w'→Q .normal a' w'):(Code.region id all.toArray true).wpIn (W r) 0 K.C.P Q a w:=by
 obtain ⟨vs,h1,h2,h3,h4,h5⟩:=ht.spell;refine wpIn_region_any hK.mix ?_;have hw:({ w with drawn:=w.drawn+1 }:World)=w.drew:=rfl;rw [hw];have hsz:all.toArray.size=all.length:=by simp
 rw [hsz];refine Zr (F0:=F) (H0:=H) (ρ0:=ρ) (w0:=w) hK hd h1 h2 h5 (fun a' w' hs=>?_) all.length _ a w.drew (by simp) ?_ ⟨fun j o _ hj=>?_,ρ,?_,?_,Env.le_refl ρ,(Frm.refl ρ w).drew⟩
 ·obtain ⟨ρ',g1,g2,g3,g4⟩:=hs.rel;rw [h4] at g1;rw [h3] at g2;exact hQ ρ' a' w' g1 g2 g3 g4
 ·rw [List.countP_eq_length.2]
  ·simp
  ·intro i hi
   have:=List.mem_range.1 hi
   simp [Array.getD]
 ·simp [Array.getD] at hj
 ·rw [Dk]
  ·exact hH.drew
  ·intro k _;simp [Array.getD]
 ·have none:∀ (l:List Oper) (vs:List AV) (i:Nat) (F:Fr),FSel (fun i=>(Array.replicate all.length false).getD i false) i l vs F=F:=by
   intro l
   induction l with
   | nil=>intro vs i F;simp [FSel]
   | cons o l ih=>
    intro vs i F;cases vs with
    | nil=>simp [FSel]
    | cons x vs=>
     simp only [FSel]
     have:(Array.replicate all.length false).getD i false=false:=by simp [Array.getD]
     rw [this];exact ih vs _ F
  rw [none];exact hF
def Snd (K:Cfg) (m:Nat) (wk:Wk) (F:Fr) (H:Hp) (Q:Post):Prop:=
 match wk with
 | .code c=>∀ (r:Option Nat),Cf r c=true→∀ (ρ:Env) (a:Act) (w:World),m≤H.length→B2 K.C ρ H w→D0 ρ F a→c.wpIn (W r) 0 K.C.P (AP K.C m ρ w Q) a w
 | .ops all l=>∀ (r:Option Nat) (ρ:Env) (a:Act) (w:World),m≤H.length→B2 K.C ρ H w→D0 ρ F a→wpListIn (W r) 0 K.C.P all.toArray (AP K.C m ρ w Q) l a w
 | .dr all l trs=>∃ trs' F' H',DT K all l F H trs' F' H'∧X4 all (trs++trs')=true∧Q .normal F' H'
def fV (K:Cfg) (lps:List Code) (wk:Wk):Prop:=
 match wk with
 | .code c=>K.unr=false→∀ b∈loopsOf c,b∈lps
 | _=>True
theorem R2 (hK:Ee K lps) {all:List Oper} {o:Oper} {l:List Oper} {F:Fr} {H H':Hp} {tr:Tr} {v:AV} {m:Nat} {Q:Post} (hst:St K all o F H tr v H')
  (ih:Snd K m (.ops all l) (put F o.dst v) H' Q):Snd K m (.ops all (o::l)) F H Q:=by
 intro r ρ a w hm hH hF;unfold wpListIn;refine hst.sound hK hH hF fun ρ' cv w' h1 h2 h3 h4=>?_;have hp:=K3.of_le hH h3 hm;exact N8 (fun e a w h=>AP.link hp h4 h) l _ _ (ih r ρ' _ w' (S2 hm hH h1 hp) h1 ((hF.mono h3).put _ _ _ h2))
theorem kW (hK:Ee K lps) (hinl:K.unr=false→∀ f fn c,K.inl f=true→K.C.P.funcs[f]?=some fn→fn.body=some c→∀ b∈loopsOf c,b∈lps):∀ n,
    (∀ m wk F H Q,fV K lps wk→vc K n m wk F H Q→Snd K m wk F H Q)∧
    (K.unr=true→∀ m c F H Q,vc K n m (.code (.loop c)) F H Q→∀ (r:Option Nat),Cf r c=true→∀ (ρ0:Env) (w0:World) (ρ:Env) (a:Act) (w:World),m≤H.length→K3 m ρ0 ρ→Frm ρ0 w0 ρ w→B2 K.C ρ H w→D0 ρ F a→
      Code.roundsIn (W r) 0 K.C.P c (AP K.C m ρ0 w0 Q) n a w):=by
  intro n
  induction n with
  | zero => exact ⟨fun _ _ _ _ _ _ h => h.elim, fun _ _ _ _ _ _ h => h.elim⟩
  | succ n ih=>
    obtain ⟨ih,ihr⟩:=ih
    have second:K.unr=true→∀ m c F H Q,vc K (n+1) m (.code (.loop c)) F H Q→∀ (r:Option Nat),Cf r c=true→∀ (ρ0:Env) (w0:World) (ρ:Env) (a:Act) (w:World),m≤H.length→K3 m ρ0 ρ→Frm ρ0 w0 ρ w→B2 K.C ρ H w→D0 ρ F a→
        Code.roundsIn (W r) 0 K.C.P c (AP K.C m ρ0 w0 Q) (n+1) a w:=by
      intro hu m c F H Q h r hr ρ0 w0 ρ a w hm hp hf hH hF
      have h:vc K n m (.code c) F H (Nc (vc K n) m (.loop c) Q):=by
        change U4 K (vc K n) m (.loop c) F H Q at h;simp only [U4,hu] at h;exact h
      rw [roundsIn_succ];refine Code.wpIn_mono ?_ (ih m (.code c) F H _ (fun hu'=>by rw [hu] at hu';simp at hu') h r hr ρ a w hm hH hF);rintro e a' w' ⟨ae,ρ',F',H',rfl,h2,h3,h4,h5,h6⟩;cases ae with
      | normal => exact ihr hu m c F' H' Q h2 r hr ρ0 w0 ρ' a' w' (S2      hm hH h4 h3) (hp.trans h3) (hf.trans h6) h4 h5
      | exit i => exact ⟨.exit i, ρ', F', H', rfl, h2, hp.trans h3, h4, h5, hf.trans h6⟩
      | ret=>exact ⟨.ret,ρ',F',H',rfl,h2,hp.trans h3,h4,h5,hf.trans h6⟩
    refine ⟨?_,second⟩;intro m wk F H Q hlp h;cases wk with
    | ops all l=>
      change Lb K (vc K n) m all l F H Q at h;cases l with
      | nil=>exact fun r ρ a w hm hH hF=>⟨.normal,ρ,F,H,rfl,h,K3.refl m ρ,hH,hF,Frm.refl ρ w⟩
      | cons o l=>
        obtain ⟨dst,op,ty,pos,after,guard⟩:=o;simp only [Lb] at h;rcases Ye h with ⟨hw,h⟩ | ⟨hw,h⟩
        · unfold Gi at h;split at h
          · rename_i hk;obtain ⟨v,h1,h2⟩:=S3 h;exact R2 hK (.pure hw hk h1) (ih m _ _ _ _ trivial (gV h2))
          · rename_i hk;obtain ⟨v,h1,h2⟩:=S3 h;exact R2 hK (.read hw hk h1) (ih m _ _ _ _ trivial (J4 h2))
          · rename_i hk;obtain ⟨v,x,h1,h2⟩:=Ql h;exact R2 hK (.write hw hk h1) (ih m _ _ _ _ trivial (J4 (Um h2)))
          · rename_i hk;split at h
            · rename_i f args hc;unfold Lu at h;split at h
              · rename_i hi;split at h
                · rename_i fn hfn;split at h
                  · rename_i c hb;obtain ⟨hnm,h2⟩:=J8 h;have hbody:=ih H.length (.code c) (K7 fn args) H _ (fun hu=>hinl hu f fn c hi hfn hb) h2;have hcall:=acalls_of (f:=f) hfn hb (by simpa using hnm) (fun r hr ρ a w hH hF=>hbody r hr ρ a w (zA7 _) hH hF);intro r ρ a w hm hH hF;unfold wpListIn;rw [S8 hF hw,if_pos rfl];obtain ⟨cargs,hv,h1⟩:=Jc (w:=w) (o:=⟨dst,op,ty,pos,after,guard⟩) hF hc hcall.1;refine U1 (Wu hc) ?_;rw [h1];refine ⟨fun h=>by simp [W,Fence.wide] at h,Jt.2 ((hcall.2 ρ w cargs hH hv).mono ?_)⟩
                    rintro e w' ⟨v,cv,ρ',H',rfl,g1,g2,g3,g4,g5⟩;have hp:=K3.of_le hH g2 hm;exact N8 (fun e a w h=>AP.link hp g5 h) l _ _ (ih m (.ops all l) _ _ _ trivial (J4 g1) r ρ' _ w' (S2 hm hH g3 hp) g3 ((hF.mono g2).put _ _ _ g4))
                  · exact h.elim
                · exact h.elim
              · obtain ⟨v,hs,h1,h2⟩:=Qs (Ue h);exact R2 hK (.call hw hk hc (hK.calls _ _ _ _ _ h1)) (ih m _ _ _ _ trivial (J4 (Rp h2)))
            · split at h
              · rename_i i args hy;unfold La at h;split at h
                · rename_i e ps as bd F0 hi;obtain ⟨hc,h1⟩:=J8 h;simp only [zO] at hc;obtain ⟨he,hl,hna,hnb,hu⟩:=hc;have nol:∀ c',fV K lps (.code c'):=fun c' hu'=>by rw [hu] at hu';simp at hu'
                  intro r ρ a w hm hH hF;unfold wpListIn;rw [S8 hF hw,if_pos rfl]
                  refine wQ (Q2:=Ow K (vc K n) m all l dst i F Q) (R:=fun v H'=>vc K n m (.ops all l) (put F dst v) H' Q) hH hF hy hi he (rG hl)
                    (fun l' ρ' a' w' hH' hF'=>ih H.length (.code as) _ H _ (nol _) h1 (some l') hna ρ' a' w' (zA7 _) hH' hF')
                    (fun ex F1 H1 hle hq=>?_) (fun ex F2 H2 hle hq=>?_) fun v H' ρ' cv w' hR hH' hv hle hfr=>?_
                  · unfold Vy at hq;split at hq
                    · split at hq
                      · rename_i e1 ps1 as1 bd1 F1' hi1;obtain ⟨he1,h2⟩:=J8 hq;exact ⟨rfl,e1,ps1,as1,bd1,F1',hi1,he1,fun l' ρ' a' w' hH' hF'=>ih H.length (.code bd) F1 _ (Ow K (vc K n) m all l dst i F Q) (nol _) h2 (some l') hnb ρ' a' w' (by simpa using hle) hH' hF'⟩
                      · exact hq.elim
                    · exact hq.elim
                  · unfold Ow at hq;split at hq
                    · rename_i e1 ps1 as1 bd1 F1' hi1;obtain ⟨he1,h2⟩:=J8 hq;exact ⟨e1,ps1,as1,bd1,F1',hi1,he1,J4 h2⟩
                    · exact hq.elim
                  · have hp:=K3.of_le hH hle hm;exact N8 (fun e a w h=>AP.link hp hfr h) l _ _ (ih m (.ops all l) _ _ _ trivial hR r ρ' _ w' (S2 hm hH hH' hp) hH' ((hF.mono hle).put _ _ _ hv))
                · exact h.elim
              · exact h.elim
        · exact R2 hK (.skip hw) (ih m _ _ _ _ trivial (J4 h))
    | dr all l trs=>
      change Pg K (vc K n) m all l trs F H Q at h;cases l with
      | nil=>
        obtain ⟨h1,h2⟩:=J8 h;exact ⟨[],F,H,.nil F H,by simpa using h1,h2⟩
      | cons o l=>
        obtain ⟨dst,op,ty,pos,after,guard⟩:=o;simp only [Pg] at h
        have go:∀ {tr:Tr} {v:AV} {H':Hp},St K all ⟨dst,op,ty,pos,after,guard⟩ F H tr v H'→vc K n m (.dr all l (trs++[tr])) (put F dst v) H' Q→Snd K m (.dr all (⟨dst,op,ty,pos,after,guard⟩::l) trs) F H Q:=by
          intro tr v H' hst hrec;obtain ⟨trs',F',H'',g1,g2,g3⟩:=ih m (.dr all l (trs++[tr])) _ _ _ trivial hrec;exact ⟨tr::trs',F',H'',.cons hst g1,by simpa using g2,g3⟩
        rcases Ye h with ⟨hw,h⟩ | ⟨hw,h⟩
        · unfold Av at h;split at h
          · rename_i hk;obtain ⟨v,h1,h2⟩:=S3 h;exact go (.pure hw hk h1) (gV h2)
          · rename_i hk;obtain ⟨v,h1,h2⟩:=S3 h;exact go (.read hw hk h1) (J4 h2)
          · rename_i hk;obtain ⟨v,x,h1,h2⟩:=Ql h;exact go (.write hw hk h1) (J4 (Um h2))
          · rename_i hk;split at h
            · rename_i f args hc;split at h
              · rename_i hi;split at h
                · rename_i fn hfn;split at h
                  · rename_i c hb;obtain ⟨hnm,h2⟩:=J8 h;obtain ⟨v,H1,g1,g2,g3⟩:=Xo (zA K n) h2
                    have hcall:∀ R:AV→Hp→Prop,R v H1→ACalls K.C f args H R:=fun R hR=>
                      acalls_of (f:=f) hfn hb (by simpa using hnm) fun r hr ρ a w hH hF=>ih H.length (.code c) (K7 fn args) H _ (fun hu=>hinl hu f fn c hi hfn hb) (g2 R hR) r hr ρ a w (zA7 _) hH hF
                    split at g1
                    · rename_i hrc;have e:=g3 20 hrc;subst e;exact go (.call (hs:=[]) hw hk hc (hcall _ ⟨rfl,rfl⟩)) (J4 g1)
                    · split at g1
                      · rename_i hs hdf;have e:=Jv 0 [] H H1 hs rfl hdf;simp only [List.nil_append] at e
                        have:=go (tr:=⟨.write,H.length,hs⟩) (v:=v) (H':=acts H hs) (.call hw hk hc (hcall _ ⟨rfl,e.symm⟩))
                        rw [e] at this;exact this (J4 g1)
                      · exact g1.elim
                  · exact h.elim
                · exact h.elim
              · obtain ⟨v,hs,h1,h2⟩:=Qs (Ue h);exact go (.call hw hk hc (hK.calls _ _ _ _ _ h1)) (J4 (Rp h2))
            · exact h.elim
        · exact go (.skip hw) (J4 h)
    | code c=>
      change U4 K (vc K n) m c F H Q at h;intro r hr ρ a w hm hH hF;have here:∀ ae,Q ae F H→AP K.C m ρ w Q (Lr ae) a w:=fun ae hq=>⟨ae,ρ,F,H,rfl,hq,K3.refl m ρ,hH,hF,Frm.refl ρ w⟩;cases c with
      | skip => exact wpIn_skip (here .normal h)
      | region id ops draw=>
        cases draw with
        | true=>
          obtain ⟨trs',F',H',g1,g2,g3⟩:=ih m (.dr ops.toList ops.toList []) F H Q trivial h
          have:=bW (id:=id) (r:=r) (Q:=AP K.C m ρ w Q) hK g1 (by simpa using g2) hH hF fun ρ' a' w' q1 q2 q3 q4=>⟨.normal,ρ',F',H',rfl,g3,K3.of_le hH q3 hm,q1,q2,q4⟩
          rwa [Array.toArray_toList] at this
        | false=>
          have:=ih m (.ops ops.toList ops.toList) F H Q trivial h r ρ a w hm hH hF
          rw [Array.toArray_toList] at this;exact wpIn_region_list this
      | seq x y=>
        have hx:fV K lps (.code x):=fun hu b hb=>hlp hu b (List.mem_append.2 (.inl hb));have hy:fV K lps (.code y):=fun hu b hb=>hlp hu b (List.mem_append.2 (.inr hb));exact wpIn_seq (Code.wpIn_mono (fun e a' w' h=>AP.seq hm hH (fun F' H' hrr=>ih m (.code y) F' H' Q hy hrr r (Le hr).2) h) (ih m (.code x) F H _ hx h r (Le hr).1 ρ a w hm hH hF))
      | cond c x y=>
        have hx:fV K lps (.code x):=fun hu b hb=>hlp hu b (List.mem_append.2 (.inl hb));have hy:fV K lps (.code y):=fun hu b hb=>hlp hu b (List.mem_append.2 (.inr hb));simp only [U4,Yq] at h;split at h
        · rename_i t;split at h
          · rename_i b hb;have hv:=hF.at t;rw [hb] at hv;simp only [VR] at hv;rcases xG h with ⟨hb1,h2⟩ | ⟨hb1,h2⟩
            · subst hb1;have h2:=J4 h2;simp only [put,U5 hb (by simp)] at h2;exact wpIn_cond_true hv (ih m (.code x) F H Q hx h2 r (Cy hr).1 ρ a w hm hH hF)
            · subst hb1;have h2:=J4 h2;simp only [put,U5 hb (by simp)] at h2;exact wpIn_cond_false hv (ih m (.code y) F H Q hy h2 r (Cy hr).2 ρ a w hm hH hF)
          · exact h.elim
        · rename_i b;cases b with
          | true=>exact wpIn_cond_true rfl (ih m (.code x) F H Q hx h r (Cy hr).1 ρ a w hm hH hF)
          | false=>exact wpIn_cond_false rfl (ih m (.code y) F H Q hy h r (Cy hr).2 ρ a w hm hH hF)
        · exact h.elim
      | block id c=>
        refine wpIn_block (Code.wpIn_mono ?_ (ih m (.code c) F H _ (fun hu b hb=>hlp hu b hb) h r (Tz hr) ρ a w hm hH hF));rintro e a' w' ⟨ae,ρ',F',H',rfl,h2,h3⟩;cases ae with
        | normal=>exact ⟨.normal,ρ',F',H',rfl,h2,h3⟩
        | ret=>exact ⟨.ret,ρ',F',H',rfl,h2,h3⟩
        | exit i=>
          simp only [Z3] at h2;show (if i=id then AP K.C m ρ w Q .normal a' w' else AP K.C m ρ w Q (.exit i) a' w');split at h2
          · rename_i hi;rw [if_pos (by simpa using hi)];exact ⟨.normal,ρ',F',H',rfl,h2,h3⟩
          · rename_i hi;rw [if_neg (by simpa using hi)];exact ⟨.exit i,ρ',F',H',rfl,h2,h3⟩
      | loop c=>
        cases hu:K.unr with
        | true=>exact wpIn_loop_rounds (n+1) (second hu m c F H Q h r (Yz hr) ρ w ρ a w hm (K3.refl m ρ) (Frm.refl ρ w) hH hF)
        | false=>
          simp only [U4,hu] at h;obtain ⟨hM,h2⟩:=J8 h;obtain ⟨e,F',H',h3,h4⟩:=nA h2;have h4:=Ue h4
          have:=hK.loops m c F H e F' H' (zA2 hM) (hlp hu c (by simp [loopsOf])) h3
          exact this.mono (fun e' F'' H'' ⟨q1,q2,q3⟩=>by rw [q1,q2,q3];exact h4) r hr ρ a w hH hF
      | exit id=>exact wpIn_exit (here (.exit id) h)
      | scope c=>
        refine Hh (Code.wpIn_mono ?_ (ih m (.code c) F H Q (fun hu b hb=>hlp hu b hb) h r (hY hr) ρ a w hm hH hF));rintro e a' w' h;obtain ⟨ae,ρ',F',H',rfl,h2⟩:=h;cases ae with
        | normal=>exact ⟨.normal,ρ',F',H',rfl,h2⟩
        | ret=>exact ⟨.ret,ρ',F',H',rfl,h2⟩
        | exit i=>exact ⟨.exit i,ρ',F',H',rfl,h2⟩
      | label l=>exact wpIn_label (here .normal h)
      | ret=>exact wpIn_ret (here .ret h)
      | rangeFunc g ps as bd=>
        cases r with
        | some l=>simp [Cf,R0] at hr
        | none=>
          change Pf K (vc K n) g ps as bd F H Q at h;unfold Pf at h;split at h
          · rename_i f cap hf;split at h
            · rename_i fn hfn;split at h
              · rename_i c hb;obtain ⟨hc,h1⟩:=J8 h;simp only [zO,Bool.not_eq_true'] at hc;have hlen:(H++[some (⟨4294967291,.rcd 0 ps as bd::F⟩:Blk)]).length=H.length+1:=by simp
                refine yQ hm hH hF hf (acalls_of hfn hb hc.1 fun r' hr' ρ' a' w' hH' hF'=>?_);rw [hlen];exact ih (H.length+1) (.code c) _ _ _ (fun hu=>by rw [hc.2] at hu;simp at hu) h1 r' hr' ρ' a' w' (by rw [hlen];exact zA7 _) hH' hF'
              · exact h.elim
            · exact h.elim
          · exact h.elim
      | goto l=>exact h.elim
      | refuse s=>exact h.elim
theorem call_of_vc (hK:Ee K lps) (hinl:K.unr=false→∀ f fn c,K.inl f=true→K.C.P.funcs[f]?=some fn→fn.body=some c→∀ b∈loopsOf c,b∈lps) {f:FuncId} {fn:Func} {c:Code} {args:List AV} {H:Hp} {Q:AV→Hp→Prop}
  (n : Nat) (hf : K.C.P.funcs[f]? = some fn) (hb : fn.body = some c) (hn : (fn.name == "runtime.NumGoroutine") = false) (hl : K.unr = false → ∀ b ∈ loopsOf c, b ∈ lps)
  (h:vc K n H.length (.code c) (K7 fn args) H (L1 K.C fn Q)):ACalls K.C f args H Q:=
 acalls_of hf hb hn fun r hr ρ a w hH hF=>(kW hK hinl n).1 H.length (.code c) _ H _ hl h r hr ρ a w (zA7 _) hH hF
theorem wp_of_vc (hK:Ee K lps) (hinl:K.unr=false→∀ f fn c,K.inl f=true→K.C.P.funcs[f]?=some fn→fn.body=some c→∀ b∈loopsOf c,b∈lps) {c:Code} {F:Fr} {H:Hp} {m:Nat} {Q:Post}
  (n:Nat) (hm:m≤H.length) (hl:K.unr=false→∀ b∈loopsOf c,b∈lps) (h:vc K n m (.code c) F H Q):AWp K.C m c F H Q:=
 fun r hr ρ a w hH hF=>(kW hK hinl n).1 m (.code c) F H Q hl h r hr ρ a w hm hH hF
end
mutual
def C2 (θ:List Nat):AV→AV
 | .ptr (.rw i) off=>.ptr (.rw (θ.getD i 0)) off
 | .slice mb (.rw i) off len=>.slice mb (.rw (θ.getD i 0)) off len
 | .func f cap=>.func f (rens θ cap)
 | .agg cs=>.agg (rens θ cs)
 | .tup vs=>.tup (rens θ vs)
 | .yld i=>.yld (θ.getD i 0)
 | v=>v
def rens (θ:List Nat):List AV→List AV
 | []=>[]
 | v::vs=>C2 θ v::rens θ vs
end
mutual
/-- all indices below n -/
def B0 (n:Nat):AV→Bool
 | .ptr (.rw i) _=>decide (i<n)
 | .slice _ (.rw i) _ _=>decide (i<n)
 | .func _ cap=>A6 n cap
 | .agg cs=>A6 n cs
 | .tup vs=>A6 n vs
 | .yld i=>decide (i<n)
 | _=>true
def A6 (n:Nat):List AV→Bool
 | []=>true
 | v::vs=>B0 n v&&A6 n vs
end
theorem I9 (θ:List Nat):∀ l,rens θ l=l.map (C2 θ)
 | []=>by simp [rens]
 | v::l=>by simp [rens,I9 θ l]
theorem O1 (n:Nat):∀ l,A6 n l=l.all (B0 n)
 | []=>by simp [A6]
 | v::l=>by simp [A6,O1 n l]
mutual
theorem Hw (θ:List Nat):∀ v,B0 0 v=true→C2 θ v=v
 | .undef,_=>by simp [C2]
 | .bool _,_=>by simp [C2]
 | .int _ _,_=>by simp [C2]
 | .str _,_=>by simp [C2]
 | .nilp,_=>by simp [C2]
 | .nils,_=>by simp [C2]
 | .nilf,_=>by simp [C2]
 | .ptr (.rw i) off,h=>by simp [B0] at h
 | .ptr (.ro i) off,_=>by simp [C2]
 | .slice mb (.rw i) off len,h=>by simp [B0] at h
 | .slice mb (.ro i) off len,_=>by simp [C2]
 | .func f cap,h=>by simp only [B0] at h;simp only [C2,B4 θ cap h]
 | .agg cs,h=>by simp only [B0] at h;simp only [C2,B4 θ cs h]
 | .tup cs,h=>by simp only [B0] at h;simp only [C2,B4 θ cs h]
 | .yld i,h=>by simp [B0] at h
 | .rcd ..,_=>by simp [C2]
theorem B4 (θ:List Nat):∀ l,A6 0 l=true→rens θ l=l
 | [],_=>by simp [rens]
 | v::l,h=>by
  simp only [A6,zO] at h;simp only [rens,Hw θ v h.1,B4 θ l h.2]
end
mutual
theorem Sc {m n:Nat} (hmn:m≤n):∀ v,B0 m v=true→B0 n v=true
 | .undef,_=>by simp [B0]
 | .bool _,_=>by simp [B0]
 | .int _ _,_=>by simp [B0]
 | .str _,_=>by simp [B0]
 | .nilp,_=>by simp [B0]
 | .nils,_=>by simp [B0]
 | .nilf,_=>by simp [B0]
 | .ptr (.rw i) off,h=>by simp [B0] at *;omega
 | .ptr (.ro i) off,_=>by simp [B0]
 | .slice mb (.rw i) off len,h=>by simp [B0] at *;omega
 | .slice mb (.ro i) off len,_=>by simp [B0]
 | .func f cap,h=>by simp only [B0] at *;exact G2 hmn cap h
 | .agg cs,h=>by simp only [B0] at *;exact G2 hmn cs h
 | .tup cs,h=>by simp only [B0] at *;exact G2 hmn cs h
 | .yld i,h=>by simp [B0] at *;omega
 | .rcd ..,_=>by simp [B0]
theorem G2 {m n:Nat} (hmn:m≤n):∀ l,A6 m l=true→A6 n l=true
 | [],_=>by simp [A6]
 | v::l,h=>by
  simp only [A6,zO] at *;exact ⟨Sc hmn v h.1,G2 hmn l h.2⟩
end
def Vu (θ:List Nat) (ρ0 ρ:Env):Prop:=(∀ i,i<θ.length→ρ.rw[θ.getD i 0]?=ρ0.rw[i]?)∧ρ.ro=ρ0.ro
mutual
theorem Bt {θ:List Nat} {ρ0 ρ:Env} (h:Vu θ ρ0 ρ):∀ (v:AV) (cv:Value),B0 θ.length v=true→(VR ρ (C2 θ v) cv↔VR ρ0 v cv)
 | .undef,_,_=>by simp [C2,VR]
 | .bool _,_,_=>by simp [C2,VR]
 | .int _ _,_,_=>by simp [C2,VR]
 | .str _,_,_=>by simp [C2,VR]
 | .nilp,_,_=>by simp [C2,VR]
 | .nils,_,_=>by simp [C2,VR]
 | .nilf,_,_=>by simp [C2,VR]
 | .ptr (.rw i) off,cv,hb=>by
  simp only [B0,qC] at hb;simp only [C2,VR,S5,h.1 i hb]
 | .ptr (.ro i) off,cv,_=>by simp only [C2,VR,S5,h.2]
 | .slice mb (.rw i) off len,cv,hb=>by
  simp only [B0,qC] at hb;simp only [C2,VR,Aq,h.1 i hb]
 | .slice mb (.ro i) off len,cv,_=>by simp only [C2,VR,Aq,h.2]
 | .func f cap,cv,hb=>by
  simp only [B0] at hb;simp only [C2,VR];exact ⟨fun ⟨cs,e,hs⟩=>⟨cs,e,(By h cap _ hb).1 hs⟩,fun ⟨cs,e,hs⟩=>⟨cs,e,(By h cap _ hb).2 hs⟩⟩
 | .agg cap,cv,hb=>by
  simp only [B0] at hb;simp only [C2,VR];exact ⟨fun ⟨cs,e,hs⟩=>⟨cs,e,(By h cap _ hb).1 hs⟩,fun ⟨cs,e,hs⟩=>⟨cs,e,(By h cap _ hb).2 hs⟩⟩
 | .tup cap,cv,hb=>by
  simp only [B0] at hb;simp only [C2,VR];exact ⟨fun ⟨cs,e,hs⟩=>⟨cs,e,(By h cap _ hb).1 hs⟩,fun ⟨cs,e,hs⟩=>⟨cs,e,(By h cap _ hb).2 hs⟩⟩
 | .yld i,cv,hb=>by
  simp only [B0,qC] at hb;simp only [C2,VR,h.1 i hb]
 | .rcd ..,cv,_=>by simp only [C2,VR]
theorem By {θ:List Nat} {ρ0 ρ:Env} (h:Vu θ ρ0 ρ):∀ (l:List AV) (cl:List Value),A6 θ.length l=true→(VRs ρ (rens θ l) cl↔VRs ρ0 l cl)
 | [],_,_=>by simp [rens,VRs]
 | v::l,cl,hb=>by
  simp only [A6,zO] at hb;simp only [rens,VRs];constructor
  ·rintro ⟨x,xs,e,h1,h2⟩;exact ⟨x,xs,e,(Bt h v x hb.1).1 h1,(By h l xs hb.2).1 h2⟩
  ·rintro ⟨x,xs,e,h1,h2⟩;exact ⟨x,xs,e,(Bt h v x hb.1).2 h1,(By h l xs hb.2).2 h2⟩
end
theorem aY9 {θ:List Nat} {v:AV} {p:Nat} {ps:Array Nat} {a b:Code} (h:C2 θ v=.rcd p ps a b):v=.rcd p ps a b:=by
 cases v with
 | ptr r _=>cases r<;>simp [C2] at h
 | slice _ r _ _=>cases r<;>simp [C2] at h
 | rcd _ _ _ _=>simpa [C2] using h
 | _=>simp [C2] at h
theorem iZ {θ:List Nat} {ρ0 ρ:Env} (h:Vu θ ρ0 ρ) {cs cs':List AV} {r:Loop} (hr:Mz ρ cs' r) (hl:cs.length=cs'.length) (hh:cs.head?.map (C2 θ)=cs'.head?)
  (hc:∀ (k:Nat) v,cs[k]?=some v→B0 θ.length v=true∧(v=.undef∨cs'[k]?=some (C2 θ v))):Mz ρ0 cs r:=by
 obtain ⟨p,ps,a,b,F,rfl,h2,h3,h4,h5,h6,h7⟩:=hr
 obtain ⟨F',rfl⟩:∃ F',cs=.rcd p ps a b::F':=by
  cases cs with
  | nil=>simp at hh
  | cons x F'=>simp at hh;exact ⟨F',by rw [aY9 hh]⟩
 refine ⟨p,ps,a,b,F',rfl,h2,h3,h4,h5,(by simpa using hl:F'.length=F.length).trans h6,fun k v hv=>?_⟩;obtain ⟨g1,g2⟩:=hc (k+1) v (by simpa using hv);rcases g2 with rfl | g2
 ·simp [VR]
 ·exact (Bt h v _ g1).1 (h7 k _ (by simpa using g2))
theorem oZ {θ:List Nat} {ρ0 ρ:Env} (h:Vu θ ρ0 ρ) {cs:List AV} {r:Loop} (hb:A6 θ.length cs=true):Mz ρ (rens θ cs) r↔Mz ρ0 cs r:=by
 rw [O1,qD] at hb;rw [I9];constructor
 ·intro hr;refine iZ h hr (by simp) ?_ fun k v hv=>⟨hb v (zA1 hv),.inr (by simp [hv])⟩;obtain ⟨p,ps,a,b,F,h1,_⟩:=hr;cases cs with
  | nil=>simp
  | cons x F'=>simp
 ·rintro ⟨p,ps,a,b,F,rfl,h2,h3,h4,h5,h6,h7⟩;refine ⟨p,ps,a,b,F.map (C2 θ),by simp [C2],h2,h3,h4,h5,by simpa using h6,fun k v hv=>?_⟩;simp only [zA0,Option.map_eq_some_iff] at hv;obtain ⟨v0,hv0,rfl⟩:=hv;exact (Bt h v0 _ (hb v0 (by simp [zA1 hv0]))).2 (h7 k v0 hv0)
def BlkV (θ:List Nat) (b b':Blk):Prop:=b.esz=b'.esz∧(∀ (k:Nat) v,b.cells[k]?=some v→B0 θ.length v=true∧(v=.undef∨b'.cells[k]?=some (C2 θ v)))∧(isRec b=true→b.cells.length=b'.cells.length∧b.cells.head?.map (C2 θ)=b'.cells.head?)
structure C5 (m:Nat) (F:Fr) (H:Hp) (F':Fr) (H':Hp):Prop where
 ex:∃ θ:List Nat,θ.length=H.length∧m≤H.length∧(∀ i,i<m→θ.getD i 0=i)∧(∀ i,i<θ.length→θ.getD i 0<H'.length)∧
  (∀ (i j:Nat) b b',H[i]?=some (some b)→H[j]?=some (some b')→θ.getD i 0=θ.getD j 0→i=j)∧
  (∀ (i:Nat) b,H[i]?=some (some b)→∃ b',H'[θ.getD i 0]?=some (some b')∧b.cells.length≤b'.cells.length∧BlkV θ b b')∧
  F.length=F'.length∧∀ (k:Nat) v,F[k]?=some v→B0 θ.length v=true∧(v=.undef∨F'[k]?=some (C2 θ v))
theorem C5.use' {C:A1} {m:Nat} {F F':Fr} {H H':Hp} (hv:C5 m F H F' H') {ρ':Env} {a:Act} {w:World} (hH:B2 C ρ' H' w) (hF:D0 ρ' F' a) :
  ∃ ρ,B2 C ρ H w∧D0 ρ F a∧K3 m ρ' ρ∧Frm ρ' w ρ w∧ρ.dfs=ρ'.dfs:=by
 obtain ⟨θ,hθ,hm,hpin,hlt,hinj,hblk,hfl,hf⟩:=hv.ex
 let ρ:Env:=⟨θ.map fun j=>(ρ'.rw[j]?).getD none,ρ'.ro,ρ'.dfs⟩
 have get:∀ i,i<θ.length→ρ.rw[i]?=some ((ρ'.rw[θ.getD i 0]?).getD none):=fun i hi=>by
  simp only [ρ,zA0,xW hi,Option.map_some,List.getD,Option.getD_some]
 have get':∀ i,i<θ.length→ρ'.rw[θ.getD i 0]?=ρ.rw[i]?:=fun i hi=>by
  rw [get i hi]
  have:θ.getD i 0<ρ'.rw.length:=by rw [hH.len];exact hlt i hi
  rw [xW this];rfl
 have hr:Vu θ ρ ρ':=⟨get',rfl⟩
 have ents:∀ (i:Nat) e,ρ.rw[i]?=some (some e)→i<θ.length∧ρ'.rw[θ.getD i 0]?=some (some e):=fun i e h=>by
  have hi:i<θ.length:=by have:=(zP.1 h).1;simpa [ρ] using this
  exact ⟨hi,(get' i hi).trans h⟩
 refine ⟨ρ,⟨by simp [ρ,hθ],hH.base,fun i e h=>hH.ents _ e (ents i e h).2,fun i b hb=>?_,?_,fun i b d hr=>⟨(hH.ro i b d hr).1,fun j x e h1 h2=>?_,(hH.ro i b d hr).2.2⟩,fun D hD=>⟨(hH.df D hD).1,fun i e he=>(hH.df D hD).2.1 _ e (ents i e he).2,(hH.df D hD).2.2⟩⟩,⟨hF.nod,hfl.trans hF.len,fun k v hk=>?_⟩,fun i hi=>?_,?_⟩
 ·have hi:i<θ.length:=by rw [hθ];exact (zP.1 hb).1
  obtain ⟨b',h1,h2,h3,h4,hrc⟩:=hblk i b hb;have hl:=hH.live _ b' h1;rw [get' i hi] at hl;generalize ρ.rw[i]?=x at hl
  match x,hl with
  | some (some e),hl=>
   have hrr:isRec b'=isRec b:=by unfold isRec;rw [h3]
   cases hr0:isRec b with
   | true=>
    rw [hr0] at hrr;obtain ⟨g1,r,g2,g3⟩:=hl.rec hrr;obtain ⟨hlen,hhd⟩:=hrc hr0;exact .ofRec hr0 ⟨g1.trans h3.symm,r,g2,iZ hr g3 hlen hhd h4⟩
   | false=>
   rw [hr0] at hrr;obtain ⟨g1,cs,ty,fz,g2,g3,g4,g5,g6⟩:=hl.cs hrr;refine .of hr0 ⟨g1.trans h3.symm,cs,ty,fz,g2,g3,by omega,fun k v hv=>?_,g6⟩;have hk:k<b.cells.length:=(zP.1 hv).1;obtain ⟨hb1,hb2⟩:=h4 k v hv;rcases hb2 with rfl | hb2
   ·exact ⟨cs[k]'(by omega),by simp,by simp [VR]⟩
   ·obtain ⟨cv,q1,q2⟩:=g5 k _ hb2;exact ⟨cv,q1,(Bt hr v cv hb1).1 q2⟩
  | some none,hl=>
   have:b'.cells=[]:=hl
   rw [this] at h2;exact List.eq_nil_of_length_eq_zero (by simpa using h2)
  | none,hl=>exact hl.elim
 ·intro i j b b' e e' h1 h2 h3 h4 h5;obtain ⟨c1,g1,_⟩:=hblk i b h1;obtain ⟨c2,g2,_⟩:=hblk j b' h2;exact hinj i j b b' h1 h2 (hH.inj _ _ c1 c2 e e' g1 g2 (ents i e h3).2 (ents j e' h4).2 h5)
 ·obtain ⟨c1,g1,_⟩:=hblk j x h1;exact (hH.ro i b d hr).2.1 _ c1 e g1 (ents j e h2).2
 ·obtain ⟨hb1,hb2⟩:=hf k v hk;rcases hb2 with rfl | hb2
  ·simp [VR]
  ·exact (Bt hr v _ hb1).1 (hF.val k _ hb2)
 ·rw [←get' i (by omega),hpin i hi]
 ·exact ⟨⟨rfl,rfl,rfl,zA7 _,fun _ _ _=>rfl,fun i e h=>.inl ⟨_,e,(ents i e h).2,rfl⟩,fun _ _ _ h=>h,fun _ _ _ h=>.inl h,fun _ h=>.inl h⟩,rfl⟩
theorem C5.use {C:A1} {m:Nat} {F F':Fr} {H H':Hp} (hv:C5 m F H F' H') {ρ':Env} {a:Act} {w:World} (hH:B2 C ρ' H' w) (hF:D0 ρ' F' a) :
  ∃ ρ,B2 C ρ H w∧D0 ρ F a∧K3 m ρ' ρ∧Frm ρ' w ρ w:=
 let ⟨ρ,h1,h2,h3,h4,_⟩:=hv.use' hH hF
 ⟨ρ,h1,h2,h3,h4⟩
def I7 (θ:List Nat) (b:Blk):Blk:=⟨b.esz,rens θ b.cells⟩
def P9 (θ:List Nat) (b:Option Blk):Option Blk:=b.map (I7 θ)
def J5 (θ:List Nat) (n k:Nat):List Nat:=θ++(List.range k).map (n+·)
def lay (θ':List Nat):List Nat→List (Option Blk)→Hp→Hp
 | j::θ,b::bs,H=>lay θ' θ bs (H.set j (P9 θ' b))
 | _,_,H=>H
def T6 (θ:List Nat) (H H0:Hp):Hp:=
 lay (J5 θ H.length (H0.length - θ.length)) θ H0 H++(H0.drop θ.length).map (P9 (J5 θ H.length (H0.length - θ.length)))
theorem Gu (θ':List Nat):∀ (θ:List Nat) (bs:List (Option Blk)) (H:Hp),(lay θ' θ bs H).length=H.length
 | [],bs,H=>by simp [lay]
 | j::θ,[],H=>by simp [lay]
 | j::θ,b::bs,H=>by simp [lay,Gu θ' θ bs]
theorem eG (θ':List Nat):∀ (θ:List Nat) (bs:List (Option Blk)) (H:Hp) (j:Nat),j ∉ θ→(lay θ' θ bs H)[j]?=H[j]?
 | [],bs,H,j,_=>by simp [lay]
 | k::θ,[],H,j,_=>by simp [lay]
 | k::θ,b::bs,H,j,h=>by
  simp only [List.mem_cons,not_or] at h;simp only [lay];rw [eG θ' θ bs _ j h.2,zA5,if_neg (fun e=>h.1 e.symm)]
theorem zV (θ':List Nat):∀ (θ:List Nat) (bs:List (Option Blk)) (H:Hp) (i:Nat) (b:Option Blk),θ.Nodup→(∀ j∈θ,j<H.length)→bs[i]?=some b→i<θ.length→
  (lay θ' θ bs H)[θ.getD i 0]?=some (P9 θ' b)
 | [],bs,H,i,b,_,_,_,hi=>by simp at hi
 | k::θ,[],H,i,b,_,_,hb,_=>by simp at hb
 | k::θ,x::bs,H,0,b,hn,hl,hb,_=>by
  simp at hb;subst hb;simp only [lay]
  have:k ∉ θ:=(List.nodup_cons.1 hn).1
  have e:(k::θ).getD 0 0=k:=rfl;rw [e,eG θ' θ bs _ k this,zA5,if_pos rfl,if_pos (hl k (by simp))]
 | k::θ,x::bs,H,i+1,b,hn,hl,hb,hi=>by
  simp only [lay];have e:(k::θ).getD (i+1) 0=θ.getD i 0:=by simp [List.getD]
  rw [e];exact zV θ' θ bs _ i b (List.nodup_cons.1 hn).2 (fun j hj=>by simpa using hl j (by simp [hj])) (by simpa using hb) (by simpa using hi)
theorem Ln {θ:List Nat} {n k i:Nat} (h:i<θ.length):(J5 θ n k).getD i 0=θ.getD i 0:=by
 simp [J5,List.getD,pY h]
theorem gB {θ:List Nat} {n k i:Nat} (h:θ.length≤i) (h2:i<θ.length+k):(J5 θ n k).getD i 0=n+(i - θ.length):=by
 have:i - θ.length<k:=by omega
 simp [J5,List.getD,qP h,this]
theorem pJ {θ:List Nat} {n k:Nat}:(J5 θ n k).length=θ.length+k:=by simp [J5]
mutual
theorem aK0 {θ:List Nat} {n k:Nat}:∀ v,B0 θ.length v=true→C2 (J5 θ n k) v=C2 θ v
 | .undef,_=>by simp [C2]
 | .bool _,_=>by simp [C2]
 | .int _ _,_=>by simp [C2]
 | .str _,_=>by simp [C2]
 | .nilp,_=>by simp [C2]
 | .nils,_=>by simp [C2]
 | .nilf,_=>by simp [C2]
 | .ptr (.rw i) off,h=>by simp only [B0,qC] at h;simp only [C2,Ln h]
 | .ptr (.ro i) off,_=>by simp [C2]
 | .slice mb (.rw i) off len,h=>by simp only [B0,qC] at h;simp only [C2,Ln h]
 | .slice mb (.ro i) off len,_=>by simp [C2]
 | .func f cap,h=>by simp only [B0] at h;simp only [C2,Jk cap h]
 | .agg cs,h=>by simp only [B0] at h;simp only [C2,Jk cs h]
 | .tup cs,h=>by simp only [B0] at h;simp only [C2,Jk cs h]
 | .yld i,h=>by simp only [B0,qC] at h;simp only [C2,Ln h]
 | .rcd ..,_=>by simp [C2]
theorem Jk {θ:List Nat} {n k:Nat}:∀ l,A6 θ.length l=true→rens (J5 θ n k) l=rens θ l
 | [],_=>by simp [rens]
 | v::l,h=>by
  simp only [A6,zO] at h;simp only [rens,aK0 v h.1,Jk l h.2]
end
theorem Rt {C:A1} {f:FuncId} {args0:List AV} {H0 H:Hp} {K0:AV→Hp→Prop} (h:ACalls C f args0 H0 K0) (θ:List Nat) (hθ:θ.length=H0.length) (hnd:θ.Nodup)
    (hlive:∀ (i:Nat) b,H0[i]?=some b→∃ b0,b=some b0∧A6 θ.length b0.cells=true∧H[θ.getD i 0]?=some (some (I7 θ b0)))
    (hargs:A6 θ.length args0=true) (hout:∀ v0 H0',K0 v0 H0'→H0.length≤H0'.length∧B0 H0'.length v0=true∧∀ (i:Nat) b,H0'[i]?=some (some b)→A6 H0'.length b.cells=true) :
    ACalls C f (rens θ args0) H fun v H'=>∃ v0 H0',K0 v0 H0'∧v=C2 (J5 θ H.length (H0'.length - θ.length)) v0∧H'=T6 θ H H0':=by
  refine ⟨h.1,fun ρ w cargs hH hv=>?_⟩
  have hlt:∀ i,i<θ.length→θ.getD i 0<H.length:=fun i hi=>by
    obtain ⟨b,hb⟩:∃ b,H0[i]?=some b:=⟨_,xW (by omega)⟩;obtain ⟨b0,_,_,h2⟩:=hlive i b hb;exact (zP.1 h2).1
  have hmem:∀ j∈θ,j<H.length:=fun j hj=>by
    obtain ⟨i,hi,he⟩:=List.mem_iff_getElem.1 hj
    have:=hlt i hi
    simp [List.getD,hi,he] at this;exact this
  let ρ0:Env:=⟨θ.map fun j=>(ρ.rw[j]?).getD none,ρ.ro,[]⟩
  have get:∀ i,i<θ.length→ρ.rw[θ.getD i 0]?=ρ0.rw[i]?:=fun i hi=>by
    have h1:θ.getD i 0<ρ.rw.length:=by rw [hH.len];exact hlt i hi
    have h2:ρ0.rw[i]?=some ((ρ.rw[θ.getD i 0]?).getD none):=by
      simp only [ρ0,zA0,xW hi,Option.map_some,List.getD,Option.getD_some]
    rw [h2,xW h1];rfl
  have hr:Vu θ ρ0 ρ:=⟨get,rfl⟩
  have ents0:∀ (i:Nat) e,ρ0.rw[i]?=some (some e)→i<θ.length∧ρ.rw[θ.getD i 0]?=some (some e):=fun i e hi=>by
    have hl:i<θ.length:=by have:=(zP.1 hi).1;simpa [ρ0] using this
    exact ⟨hl,(get i hl).trans hi⟩
  have nodup:∀ i j,i<θ.length→j<θ.length→θ.getD i 0=θ.getD j 0→i=j:=fun i j hi hj he=>by
    simp only [List.getD,xW hi,xW hj,Option.getD_some] at he;exact (List.getElem_inj hnd).1 he
  have hH0:B2 C ρ0 H0 w:=by
    refine ⟨by simp [ρ0,hθ],hH.base,fun i e hi=>hH.ents _ e (ents0 i e hi).2,fun i b hb=>?_,?_,fun i b d hr=>⟨(hH.ro i b d hr).1,fun j x e h1 h2=>?_,(hH.ro i b d hr).2.2⟩,fun D hD=>by simp [ρ0] at hD⟩
    · have hi:i<θ.length:=by rw [hθ];exact (zP.1 hb).1
      obtain ⟨b0,hb0,hbd,h2⟩:=hlive i _ hb;simp at hb0;subst hb0;have hl:=hH.live _ _ h2;rw [get i hi] at hl;generalize ρ0.rw[i]?=x at hl
      match x,hl with
      | some (some e),hl=>
        have hrr:isRec (I7 θ b)=isRec b:=rfl;cases hr0:isRec b with
        | true=>
          obtain ⟨g1,r,g2,g3⟩:=hl.rec (hrr.trans hr0);exact .ofRec hr0 ⟨g1,r,g2,(oZ hr hbd).1 g3⟩
        | false=>
        obtain ⟨g1,cs,ty,fz,g2,g3,g4,g5,g6⟩:=hl.cs (hrr.trans hr0);refine .of hr0 ⟨g1,cs,ty,fz,g2,g3,by simpa [I7,I9] using g4,fun k v hkv=>?_,g6⟩
        have hbv:B0 θ.length v=true:=by
          rw [O1,qD] at hbd;exact hbd v (zA1 hkv)
        obtain ⟨cv,q1,q2⟩:=g5 k (C2 θ v) (by simp [I7,I9,hkv]);exact ⟨cv,q1,(Bt hr v cv hbv).1 q2⟩
      | some none,hl=>
        have:rens θ b.cells=[]:=hl
        rw [I9] at this;exact List.map_eq_nil_iff.1 this
      | none,hl=>exact hl.elim
    · intro i j b b' e e' h1 h2 h3 h4 h5;have hi:i<θ.length:=(ents0 i e h3).1;have hj:j<θ.length:=(ents0 j e' h4).1;obtain ⟨b0,hb0,_,g1⟩:=hlive i _ h1;obtain ⟨b1,hb1,_,g2⟩:=hlive j _ h2;exact nodup i j hi hj (hH.inj _ _ _ _ e e' g1 g2 (ents0 i e h3).2 (ents0 j e' h4).2 h5)
    · obtain ⟨b0,_,_,g1⟩:=hlive j _ h1;exact (hH.ro i b d hr).2.1 _ _ e g1 (ents0 j e h2).2
  refine (h.2 ρ0 w cargs hH0 ((By hr args0 cargs hargs).1 hv)).mono ?_;rintro e w' ⟨v0,cv,ρ0',H0',rfl,hK,hle,hH',hvr,hfr⟩;obtain ⟨ho1,ho2,ho3⟩:=hout v0 H0' hK
  let θ':=J5 θ H.length (H0'.length - θ.length)
  have hθ':θ'.length=H0'.length:=by simp only [θ',pJ];omega
  let ρ':Env:=⟨ρ.rw++ρ0'.rw.drop θ.length,ρ0'.ro,ρ.dfs⟩
  have lenρ:ρ.rw.length=H.length:=hH.len
  have low:∀ j,j<H.length→ρ'.rw[j]?=ρ.rw[j]?:=fun j hj=>by
    show (ρ.rw++_)[j]?=_;rw [pY (by omega)]
  have le0:∀ i,i<θ.length→ρ0'.rw[i]?=ρ0.rw[i]?:=fun i hi=>by
    have hl:i<ρ0.rw.length:=by simpa [ρ0] using hi
    rw [xW hl];exact hle.1 i _ (xW hl)
  have hr':Vu θ' ρ0' ρ':=by
    refine ⟨fun i hi=>?_,?_⟩
    · rw [hθ'] at hi;by_cases h1:i<θ.length
      · rw [show θ'.getD i 0=θ.getD i 0 from Ln h1,low _ (hlt i h1),get i h1,le0 i h1]
      · rw [show θ'.getD i 0=H.length+(i - θ.length) from gB (by omega) (by omega)];show (ρ.rw++ρ0'.rw.drop θ.length)[H.length+(i - θ.length)]?=_;rw [qP (by omega),List.getElem?_drop];congr 1;omega
    · rfl
  have hleρ:ρ.le ρ':=⟨fun i x hx=>by
    have:i<H.length:=by rw [←lenρ];exact (zP.1 hx).1
    rw [low i this];exact hx,hle.2,fun _ h=>h⟩
  -- the merged heap,place by place
  have mlow:∀ j,j<H.length→(T6 θ H H0')[j]?=(lay θ' θ H0' H)[j]?:=fun j hj=>by
    show (lay θ' θ H0' H++_)[j]?=_;rw [pY (by rw [Gu];exact hj)]
  have mout:∀ j,j<H.length→j ∉ θ→(T6 θ H H0')[j]?=H[j]?:=fun j hj hn=>by rw [mlow j hj,eG θ' θ H0' H j hn]
  have min:∀ (i:Nat) b,H0'[i]?=some b→i<θ.length→(T6 θ H H0')[θ.getD i 0]?=some (P9 θ' b):=fun i b hb hi=>by
    rw [mlow _ (hlt i hi)];exact zV θ' θ H0' H i b hnd hmem hb hi
  have mhigh:∀ (i:Nat),θ.length≤i→(T6 θ H H0')[H.length+(i - θ.length)]?=(H0'[i]?).map (P9 θ'):=fun i hi=>by
    show (lay θ' θ H0' H++_)[H.length+(i - θ.length)]?=_;rw [qP (by rw [Gu];omega),Gu,zA0,List.getElem?_drop];congr 2;omega
  have mlen:(T6 θ H H0').length=H.length+(H0'.length - θ.length):=by simp [T6,Gu]
  -- a place of the merged heap is one of the small heap's,or stands outside
  have place:∀ (j:Nat) b,(T6 θ H H0')[j]?=some (some b)→(j<H.length∧j ∉ θ∧H[j]?=some (some b))∨∃ i b0,i<H0'.length∧θ'.getD i 0=j∧H0'[i]?=some (some b0)∧b=I7 θ' b0:=by
    intro j b hj;have hjl:j<H.length+(H0'.length - θ.length):=by rw [←mlen];exact (zP.1 hj).1
    by_cases h1:j<H.length
    · by_cases h2:j∈θ
      · obtain ⟨i,hi,he⟩:=List.mem_iff_getElem.1 h2;have he':θ.getD i 0=j:=by simp [List.getD,hi,he]
        obtain ⟨x,hx⟩:∃ x,H0'[i]?=some x:=⟨_,xW (by omega)⟩
        have:=min i x hx hi
        rw [he',hj] at this;cases x with
        | none=>simp [P9] at this
        | some b0=>
          simp [P9] at this;exact .inr ⟨i,b0,by omega,(Ln hi).trans he',hx,this⟩
      · exact .inl ⟨h1,h2,by rw [←mout j h1 h2];exact hj⟩
    · have:=mhigh (θ.length+(j - H.length)) (by omega)
      rw [show H.length+(θ.length+(j - H.length) - θ.length)=j by omega,hj] at this;obtain ⟨x,hx⟩:∃ x,H0'[θ.length+(j - H.length)]?=some x:=⟨_,xW (by omega)⟩;rw [hx] at this;cases x with
      | none=>simp [P9] at this
      | some b0=>
        simp [P9] at this;exact .inr ⟨θ.length+(j - H.length),b0,by omega,by rw [show θ'.getD _ 0=_ from gB (by omega) (by omega)];omega,hx,this⟩
  have entOf:∀ i,i<H0'.length→ρ'.rw[θ'.getD i 0]?=ρ0'.rw[i]?:=fun i hi=>hr'.1 i (by rw [hθ'];exact hi)
  -- a block that stands outside is no block of the small heap's
  have apart:∀ (j:Nat) b ej,j<H.length→j ∉ θ→H[j]?=some (some b)→ρ.rw[j]?=some (some ej)→∀ (i:Nat) ei,ρ0.rw[i]?=some (some ei)→ei.blk≠ej.blk:=by
    intro j b ej hj hn hb hej i ei hei heq;obtain ⟨hi,hei'⟩:=ents0 i ei hei;obtain ⟨x,hx⟩:∃ x,H0[i]?=some x:=⟨_,xW (by omega)⟩;obtain ⟨b0,_,_,g1⟩:=hlive i x hx
    have:=hH.inj _ _ _ _ ei ej g1 hb hei' hej heq
    apply hn;rw [← this];simp only [List.getD,xW hi,Option.getD_some];exact List.getElem_mem hi
  have apart':∀ (j:Nat) b ej,j<H.length→j ∉ θ→H[j]?=some (some b)→ρ.rw[j]?=some (some ej)→∀ (i:Nat) ei,ρ0'.rw[i]?=some (some ei)→ei.blk≠ej.blk:=by
    intro j b ej hj hn hb hej i ei hei heq;rcases hfr.news i ei hei with ⟨k,e2,hk,he2⟩ | hge
    · exact apart j b ej hj hn hb hej k e2 hk (he2.trans heq)
    · have:=(hH.ents j ej hej).2;omega
  refine ⟨_,cv,ρ',_,rfl,⟨v0,H0',hK,rfl,rfl⟩,hleρ,⟨?_,?_,?_,?_,?_,?_,?_⟩,?_,?_⟩
  · rw [mlen];show (ρ.rw++ρ0'.rw.drop θ.length).length=_;simp [lenρ,hH'.len]
  · exact hH'.base
  · intro j ej hj;by_cases h1:j<H.length
    · rw [low j h1] at hj
      have:=hH.ents j ej hj
      have:=hfr.size
      exact ⟨by omega,by omega⟩
    · have hj':ρ0'.rw[θ.length+(j - H.length)]?=some (some ej):=by
        change (ρ.rw++ρ0'.rw.drop θ.length)[j]?=_ at hj;rw [qP (by omega),List.getElem?_drop] at hj
        rwa [lenρ] at hj
      exact hH'.ents _ ej hj'
  · intro j b hj;rcases place j b hj with ⟨h1,h2,h3⟩ | ⟨i,b0,hi,he,hb0,rfl⟩
    · rw [low j h1];refine (hH.live j b h3).mono hleρ fun ej hej=>hfr.keep _ (hH.ents j ej hej).2 (.inr fun i ei hei=>apart j b ej h1 h2 h3 hej i ei hei)
    · rw [←he,entOf i hi];have hl:=hH'.live i b0 hb0;have hbd:=ho3 i b0 hb0;generalize ρ0'.rw[i]?=x at hl
      match x,hl with
      | some (some e),hl=>
        have hrr:isRec (I7 θ' b0)=isRec b0:=rfl;cases hr0:isRec b0 with
        | true=>
          obtain ⟨g1,r,g2,g3⟩:=hl.rec hr0;exact .ofRec (hrr.trans hr0) ⟨g1,r,g2,(oZ hr' (by rw [hθ'];exact hbd)).2 g3⟩
        | false=>
        obtain ⟨g1,cs,ty,fz,g2,g3,g4,g5,g6⟩:=hl.cs hr0;refine .of (hrr.trans hr0) ⟨g1,cs,ty,fz,g2,g3,by simpa [I7,I9] using g4,fun k v hkv=>?_,g6⟩;simp only [I7,I9,zA0,Option.map_eq_some_iff] at hkv;obtain ⟨v1,hv1,rfl⟩:=hkv;obtain ⟨cv,q1,q2⟩:=g5 k v1 hv1
        have hbv:B0 θ'.length v1=true:=by
          rw [hθ'];rw [O1,qD] at hbd;exact hbd v1 (zA1 hv1)
        exact ⟨cv,q1,(Bt hr' v1 cv hbv).2 q2⟩
      | some none,hl=>
        have:b0.cells=[]:=hl
        show rens θ' b0.cells=[];rw [this];simp [rens]
      | none,hl=>exact hl.elim
  · intro j k b b' e e' h1 h2 h3 h4 h5;rcases place j b h1 with ⟨g1,g2,g3⟩ | ⟨i,b0,hi,he,hb0,_⟩
    · rw [low j g1] at h3;rcases place k b' h2 with ⟨q1,q2,q3⟩ | ⟨i',b1,hi',he',hb1,_⟩
      · rw [low k q1] at h4;exact hH.inj j k b b' e e' g3 q3 h3 h4 h5
      · rw [←he',entOf i' hi'] at h4;exact absurd h5.symm (apart' j b e g1 g2 g3 h3 i' e' h4)
    · rw [←he,entOf i hi] at h3;rcases place k b' h2 with ⟨q1,q2,q3⟩ | ⟨i',b1,hi',he',hb1,_⟩
      · rw [low k q1] at h4;exact absurd h5 (apart' k b' e' q1 q2 q3 h4 i e h3)
      · rw [←he',entOf i' hi'] at h4
        have:=hH'.inj i i' b0 b1 e e' hb0 hb1 h3 h4 h5
        rw [←he,←he',this]
  · intro i b d hr;refine ⟨(hH'.ro i b d hr).1,fun j x ej h1 h2=>?_,(hH'.ro i b d hr).2.2⟩;rcases place j x h1 with ⟨g1,g2,g3⟩ | ⟨i',b0,hi,he,hb0,_⟩
    · rw [low j g1] at h2;rcases hfr.newro i b d hr with q | ⟨k,e2,hk,hke⟩ | q
      · exact (hH.ro i b d q).2.1 j x ej g3 h2
      · exact fun hb=>apart j x ej g1 g2 g3 h2 k e2 hk (hke.trans hb.symm)
      · have:=(hH.ents j ej h2).2;omega
    · rw [←he,entOf i' hi] at h2;exact (hH'.ro i b d hr).2.1 i' b0 ej hb0 h2
  · intro D hD;have hlt:=hH.df_lt hD;refine ⟨?_,fun j ej hj=>?_,fun i d hr=>?_⟩
    · rw [hfr.keep D hlt (.inr fun i e hi=>(hH.df D hD).2.1 _ e (ents0 i e hi).2)];exact (hH.df D hD).1
    · by_cases h1:j<H.length
      · rw [low j h1] at hj;exact (hH.df D hD).2.1 j ej hj
      · have hj':ρ0'.rw[θ.length+(j - H.length)]?=some (some ej):=by
          change (ρ.rw++ρ0'.rw.drop θ.length)[j]?=_ at hj;rw [qP (by omega),List.getElem?_drop] at hj
          rwa [lenρ] at hj
        rcases hfr.news _ ej hj' with ⟨k,e2,hk,he2⟩ | hge
        · rw [←he2];exact (hH.df D hD).2.1 _ e2 (ents0 k e2 hk).2
        · omega
    · rcases hfr.newro i D d hr with q | ⟨k,e2,hk,hke⟩ | q
      · exact (hH.df D hD).2.2 i d q
      · exact (hH.df D hD).2.1 _ e2 (ents0 k e2 hk).2 hke
      · omega
  · exact (Bt hr' v0 cv (by rw [hθ'];exact ho2)).2 hvr
  · refine ⟨hfr.os,hfr.tape,hfr.output,hfr.size,fun b hb hn=>hfr.keep b hb (hn.imp id fun hn i e hi=>hn _ e (ents0 i e hi).2),fun j e hj=>?_,hfr.ro,fun i b d hr=>?_,fun _ h=>.inl h⟩;by_cases h1:j<H.length
    · rw [low j h1] at hj;exact .inl ⟨j,e,hj,rfl⟩
    · have hj':ρ0'.rw[θ.length+(j - H.length)]?=some (some e):=by
        change (ρ.rw++ρ0'.rw.drop θ.length)[j]?=_ at hj;rw [qP (by omega),List.getElem?_drop] at hj
        rwa [lenρ] at hj
      rcases hfr.news _ e hj' with ⟨k,e2,hk,he2⟩ | hge
      · exact .inl ⟨_,e2,(ents0 k e2 hk).2,he2⟩
      · exact .inr hge
    · rcases hfr.newro i b d hr with q | ⟨k,e2,hk,hke⟩ | q
      · exact .inl q
      · exact .inr (.inl ⟨_,e2,(ents0 k e2 hk).2,hke⟩)
      · exact .inr (.inr q)
def fr (n:Nat) (l:List (Nat×AV)):Fr:=(List.range n).map fun i=>((l.find? fun p=>Nat.beq p.1 i).map (·.2)).getD .undef
def C3 (fn:Func):Code:=match fn.body with | some c=>c | none=>.skip
def A5 (fn:Func) (i:Nat):Code:=(loopsOf (C3 fn)).getD i .skip
mutual
theorem Ni {n:Nat}:∀ v,B0 n v=true→C2 (List.range n) v=v
 | .undef,_=>by simp [C2]
 | .bool _,_=>by simp [C2]
 | .int _ _,_=>by simp [C2]
 | .str _,_=>by simp [C2]
 | .nilp,_=>by simp [C2]
 | .nils,_=>by simp [C2]
 | .nilf,_=>by simp [C2]
 | .ptr (.rw i) off,h=>by simp only [B0,qC] at h;simp [C2,List.getD,h]
 | .ptr (.ro i) off,_=>by simp [C2]
 | .slice mb (.rw i) off len,h=>by simp only [B0,qC] at h;simp [C2,List.getD,h]
 | .slice mb (.ro i) off len,_=>by simp [C2]
 | .func f cap,h=>by simp only [B0] at h;simp only [C2,Km cap h]
 | .agg cs,h=>by simp only [B0] at h;simp only [C2,Km cs h]
 | .tup cs,h=>by simp only [B0] at h;simp only [C2,Km cs h]
 | .yld i,h=>by simp only [B0,qC] at h;simp [C2,List.getD,h]
 | .rcd ..,_=>by simp [C2]
theorem Km {n:Nat}:∀ l,A6 n l=true→rens (List.range n) l=l
 | [],_=>by simp [rens]
 | v::l,h=>by
  simp only [A6,zO] at h;simp only [rens,Ni v h.1,Km l h.2]
end
def fv (n:Nat):Fr→Fr→Prop
 | [],[]=>True
 | .undef::a,_::b=>fv n a b
 | v::a,v'::b=>(B0 n v=true∧v'=v)∧fv n a b
 | _,_=>False
theorem sD {n:Nat}:∀ (F F':Fr),fv n F F'→F.length=F'.length∧∀ (k:Nat) v,F[k]?=some v→B0 n v=true∧(v=.undef∨F'[k]?=some v)
 | [],[],_=>⟨rfl,fun k v h=>by simp at h⟩
 | [],_::_,h=>by simp [fv] at h
 | x::F,[],h=>by cases x<;>simp [fv] at h
 | x::F,y::F',h=>by
  have key:fv n F F'∧(x=.undef∨(B0 n x=true∧y=x)):=by
   cases x<;>simp only [fv] at h<;>first | exact ⟨h,.inl rfl⟩ | exact ⟨h.2,.inr h.1⟩
  obtain ⟨h1,h2⟩:=sD F F' key.1;refine ⟨by simp [h1],fun k v hk=>?_⟩;cases k with
  | zero=>
   simp at hk;subst hk;rcases key.2 with h0 | ⟨h0,h3⟩
   ·subst h0;exact ⟨by simp [B0],.inl rfl⟩
   ·exact ⟨h0,.inr (by simp [h3])⟩
  | succ k=>simpa using h2 k v (by simpa using hk)
def I1 (n:Nat):Hp→Bool
 | []=>true
 | none::H=>I1 n H
 | some b::H=>A6 n b.cells&&I1 n H
theorem Zj {n:Nat}:∀ (H:Hp),I1 n H=true→∀ (i:Nat) b,H[i]?=some (some b)→A6 n b.cells=true
 | [],_,i,b,h=>by simp at h
 | none::H,hb,i,b,h=>by
  cases i with
  | zero=>simp at h
  | succ i=>exact Zj H hb i b (by simpa using h)
 | some x::H,hb,i,b,h=>by
  simp only [I1,zO] at hb;cases i with
  | zero=>simp at h;subst h;exact hb.1
  | succ i=>exact Zj H hb.2 i b (by simpa using h)
theorem C5.same {m:Nat} {F F':Fr} {H G:Hp} (hm:m≤H.length) (hb:I1 H.length H=true) (hf:fv H.length F F'):C5 m F H F' (H++G):=by
 have hg:∀ i,i<H.length→(List.range H.length).getD i 0=i:=fun i hi=>by simp [List.getD,hi]
 obtain ⟨h1,h2⟩:=sD F F' hf;have hbs:=Zj H hb;refine ⟨List.range H.length,by simp,hm,fun i hi=>hg i (by omega),fun i hi=>?_,fun i j b b' h3 h4 he=>?_,fun i b h3=>?_,h1,fun k v hk=>?_⟩
 ·simp at hi;rw [hg i hi];simp;omega
 ·rwa [hg i (zP.1 h3).1,hg j (zP.1 h4).1] at he
 ·have hi:=(zP.1 h3).1;refine ⟨b,by rw [hg i hi,pY hi];exact h3,zA7 _,rfl,fun k v hk=>?_,fun _=>⟨rfl,?_⟩⟩
  rotate_left
  ·cases hc:b.cells with
   | nil=>rfl
   | cons x l=>
    have hbv:B0 H.length x=true:=by
     have:=hbs i b h3
     rw [O1,qD] at this;exact this x (by rw [hc];simp)
    simp [Ni x hbv]
  have hbv:B0 H.length v=true:=by
   have:=hbs i b h3
   rw [O1,qD] at this;exact this v (zA1 hk)
  refine ⟨by simpa using hbv,.inr ?_⟩;rw [Ni v hbv];exact hk
 ·obtain ⟨g1,g2⟩:=h2 k v hk;refine ⟨by simpa using g1,?_⟩;rw [Ni v g1];exact g2
theorem C5.refl {m:Nat} {F F':Fr} {H:Hp} (hm:m≤H.length) (hb:I1 H.length H=true) (hf:fv H.length F F'):C5 m F H F' H:=by
 have:=C5.same (G:=[]) hm hb hf
 simpa using this
theorem AWp.pre {C:A1} {m:Nat} {c:Code} {F F':Fr} {H H':Hp} {Q:Post} (h:AWp C m c F H Q) (hv:C5 m F H F' H'):AWp C m c F' H' Q:=by
 intro r hr ρ a w hH hF;obtain ⟨ρ1,h1,h2,h3,h4⟩:=hv.use hH hF;exact Code.wpIn_mono (fun e a w h=>AP.link h3 h4 h) (h r hr ρ1 a w h1 h2)
theorem ACalls.view {C:A1} {f:FuncId} {args:List AV} {H:Hp} {K K':AV→Hp→Prop} (h:ACalls C f args H K) (hk:∀ v H',K v H'→∃ v' H'',K' v' H''∧C5 H.length [v'] H'' [v] H'):ACalls C f args H K':=by
 refine ⟨h.1,fun ρ w cargs hH hv=>(h.2 ρ w cargs hH hv).mono ?_⟩;rintro e w' ⟨v,cv,ρ',H',rfl,h2,h3,h4,h5,h6⟩;obtain ⟨v',H'',g1,g2⟩:=hk v H' h2
 obtain ⟨ρ2,q1,q2,q3,q4,q5⟩:=g2.use' (a:=⟨#[cv],[]⟩) h4 ⟨⟨[],rfl,List.nodup_nil,fun _ h=>by simp at h⟩,rfl,fun i x hx=>by
  cases i with
  | zero=>simp at hx;subst hx;simpa using h5
  | succ i=>simp at hx⟩
 refine ⟨v',cv,ρ2,H'',rfl,g1,?_,q1,by have:=q2.val 0 v' rfl;simpa using this,h6.trans q4⟩;refine ⟨fun i x hx=>?_,?_,fun D hD=>by rw [q5];exact h3.3 D hD⟩
 ·have hi:i<ρ.rw.length:=(zP.1 hx).1;rw [q3 i (by rw [←hH.len];exact hi)];exact h3.1 i x hx
 ·exact fun i b d h=>q4.ro i b d (h3.2 i b d h)
theorem aN4 {C:A1} {f:FuncId} {args:List AV} {ro:Nat→Nat→Nat→Prop} {W:World} {cargs:Array Value} (hB:C.B=W.heap.size)
  (hro:∀ (i b d:Nat),ro i b d→b<W.heap.size∧∀ (k:Nat) v,(C.G i)[k]?=some v→∃ cv,W.cell? ⟨b,d+k,none⟩=some cv∧VR ⟨[],ro,[]⟩ v cv)
  (hv:VRs ⟨[],ro,[]⟩ args cargs.toList) (h:ACalls C f args [] fun v _=>v=.bool true) :
  Calls C.P f cargs W fun e w'=>e=.returned (.bool true)∧Below W.heap.size W w':=by
 have hH:B2 C ⟨[],ro,[]⟩ [] W:=⟨rfl,by omega,fun i e h=>by simp at h,fun i b h=>by simp at h,fun i j b b' e e' h=>by simp at h,fun i b d h=>⟨(hro i b d h).1,fun j x e h=>by simp at h,(hro i b d h).2⟩,fun D h=>by simp at h⟩
 have:=h.2 ⟨[],ro,[]⟩ W cargs.toList hH hv
 simp only [Array.toArray_toList] at this;refine this.mono ?_;rintro e w' ⟨v,cv,ρ',H',rfl,rfl,_,_,h5,h6⟩;simp only [VR] at h5;subst h5;exact ⟨rfl,h6.os,h6.tape,h6.output,h6.size,fun k hk=>h6.keep k hk (.inr fun i e h=>by simp at h)⟩
abbrev Sig:=Nat→Ref×Nat
mutual
def sb (σ:Sig) (n:Nat):AV→AV
 | .ptr (.ro k) o=>.ptr (σ k).1 ((σ k).2+o)
 | .ptr (.rw i) o=>.ptr (.rw (n+i)) o
 | .slice mb (.ro k) o len=>.slice mb (σ k).1 ((σ k).2+o) len
 | .slice mb (.rw i) o len=>.slice mb (.rw (n+i)) o len
 | .func f cap=>.func f (sbs σ n cap)
 | .agg cs=>.agg (sbs σ n cs)
 | .tup vs=>.tup (sbs σ n vs)
 | .yld i=>.yld (n+i)
 | v=>v
def sbs (σ:Sig) (n:Nat):List AV→List AV
 | []=>[]
 | v::vs=>sb σ n v::sbs σ n vs
end
theorem lN (σ:Sig) (n:Nat):∀ l,sbs σ n l=l.map (sb σ n)
 | []=>by simp [sbs]
 | v::l=>by simp [sbs,lN σ n l]
mutual
/-- no block of the call's own -/
def E8:AV→Bool
 | .ptr (.rw _) _=>false
 | .slice _ (.rw _) _ _=>false
 | .func _ cap=>J0 cap
 | .agg cs=>J0 cs
 | .tup vs=>J0 vs
 | .yld _=>false
 | _=>true
def J0:List AV→Bool
 | []=>true
 | v::vs=>E8 v&&J0 vs
end
mutual
/-- nothing of what was there -/
def M1:AV→Bool
 | .ptr (.ro _) _=>false
 | .slice _ (.ro _) _ _=>false
 | .func _ cap=>N1 cap
 | .agg cs=>N1 cs
 | .tup vs=>N1 vs
 | _=>true
def N1:List AV→Bool
 | []=>true
 | v::vs=>M1 v&&N1 vs
end
theorem Rg:∀ l,J0 l=l.all E8
 | []=>by simp [J0]
 | v::l=>by simp [J0,Rg l]
theorem Mj:∀ l,N1 l=l.all M1
 | []=>by simp [N1]
 | v::l=>by simp [N1,Mj l]
def Hv (σ:Sig) (ρ:Env) (k b d:Nat):Prop:=
 match (σ k).1 with
 | .rw i=>∃ e,ρ.rw[i]?=some (some e)∧b=e.blk∧d=(σ k).2
 | .ro i=>∃ d0,ρ.ro i b d0∧d=d0+(σ k).2
theorem bE1 {σ:Sig} {ρ:Env} {k o:Nat} {v:Value} (h:S5 ρ (σ k).1 ((σ k).2+o) v):S5 ⟨[],Hv σ ρ,[]⟩ (.ro k) o v:=by
 unfold S5 at h ⊢;simp only [Hv]
 revert h
 cases (σ k).1 with
 | rw i=>
  rintro ⟨e,h1,h2⟩;exact ⟨e.blk,(σ k).2,⟨e,h1,rfl,rfl⟩,h2⟩
 | ro i=>
  rintro ⟨b,d,h1,h2⟩;exact ⟨b,d+(σ k).2,⟨d,h1,rfl⟩,by rw [h2,Nat.add_assoc]⟩
theorem aD6 {σ:Sig} {ρ:Env} {mb:Bool} {k o len:Nat} {v:Value} (h:Aq ρ mb (σ k).1 ((σ k).2+o) len v):Aq ⟨[],Hv σ ρ,[]⟩ mb (.ro k) o len v:=by
 obtain ⟨ca,cap,hv,hl,hc⟩:=h;refine ⟨ca,cap,hv,hl,?_⟩;rcases hc with hc | hc | hc
 ·exact .inl hc
 ·exact .inr (.inl hc)
 ·refine .inr (.inr ?_);simp only [Hv]
  revert hc
  cases (σ k).1 with
  | rw i=>
   rintro ⟨e,h1,h2,_⟩;exact ⟨e.blk,(σ k).2,⟨e,h1,rfl,rfl⟩,h2⟩
  | ro i=>
   rintro ⟨b,d,h1,h2⟩;exact ⟨b,d+(σ k).2,⟨d,h1,rfl⟩,by rw [h2,Nat.add_assoc]⟩
mutual
theorem wK {σ:Sig} {n:Nat} {ρ:Env}:∀ (v:AV) (cv:Value),E8 v=true→VR ρ (sb σ n v) cv→VR ⟨[],Hv σ ρ,[]⟩ v cv
 | .undef,_,_,_=>by simp [VR]
 | .bool _,_,_,h=>by simpa [sb,VR] using h
 | .int _ _,_,_,h=>by simpa [sb,VR] using h
 | .str _,_,_,h=>by simpa [sb,VR] using h
 | .nilp,_,_,h=>by simpa [sb,VR] using h
 | .nils,_,_,h=>by simpa [sb,VR] using h
 | .nilf,_,_,h=>by simpa [sb,VR] using h
 | .ptr (.rw i) off,_,hb,_=>by simp [E8] at hb
 | .ptr (.ro i) off,cv,_,h=>by simp only [sb,VR] at h ⊢;exact bE1 h
 | .slice mb (.rw i) off len,_,hb,_=>by simp [E8] at hb
 | .slice mb (.ro i) off len,cv,_,h=>by simp only [sb,VR] at h ⊢;exact aD6 h
 | .func f cap,cv,hb,h=>by
  simp only [E8] at hb;simp only [sb,VR] at h ⊢;obtain ⟨cs,e,hs⟩:=h;exact ⟨cs,e,My cap _ hb hs⟩
 | .agg cap,cv,hb,h=>by
  simp only [E8] at hb;simp only [sb,VR] at h ⊢;obtain ⟨cs,e,hs⟩:=h;exact ⟨cs,e,My cap _ hb hs⟩
 | .tup cap,cv,hb,h=>by
  simp only [E8] at hb;simp only [sb,VR] at h ⊢;obtain ⟨cs,e,hs⟩:=h;exact ⟨cs,e,My cap _ hb hs⟩
 | .yld i,cv,hb,h=>by simp [E8] at hb
 | .rcd ..,cv,_,h=>by simp only [sb,VR] at h
theorem My {σ:Sig} {n:Nat} {ρ:Env}:∀ (l:List AV) (cl:List Value),J0 l=true→VRs ρ (sbs σ n l) cl→VRs ⟨[],Hv σ ρ,[]⟩ l cl
 | [],_,_,h=>by simpa [sbs,VRs] using h
 | v::l,cl,hb,h=>by
  simp only [J0,zO] at hb;simp only [sbs,VRs] at h ⊢;obtain ⟨x,xs,e,h1,h2⟩:=h;exact ⟨x,xs,e,wK v x hb.1 h1,My l xs hb.2 h2⟩
end
mutual
theorem Vs {σ:Sig} {n:Nat} {ρ0 ρ:Env} (h:∀ (i:Nat) e,ρ0.rw[i]?=some e→ρ.rw[n+i]?=some e):∀ (v:AV) (cv:Value),M1 v=true→VR ρ0 v cv→VR ρ (sb σ n v) cv
 | .undef,_,_,_=>by simp [sb,VR]
 | .bool _,_,_,h=>by simpa [sb,VR] using h
 | .int _ _,_,_,h=>by simpa [sb,VR] using h
 | .str _,_,_,h=>by simpa [sb,VR] using h
 | .nilp,_,_,h=>by simpa [sb,VR] using h
 | .nils,_,_,h=>by simpa [sb,VR] using h
 | .nilf,_,_,h=>by simpa [sb,VR] using h
 | .ptr (.ro i) off,_,hb,_=>by simp [M1] at hb
 | .ptr (.rw i) off,cv,_,hv=>by
  simp only [sb,VR] at hv ⊢;obtain ⟨e,h1,h2⟩:=hv;exact ⟨e,h i _ h1,h2⟩
 | .slice mb (.ro i) off len,_,hb,_=>by simp [M1] at hb
 | .slice mb (.rw i) off len,cv,_,hv=>by
  simp only [sb,VR] at hv ⊢;obtain ⟨ca,cap,hv,hl,hc⟩:=hv;refine ⟨ca,cap,hv,hl,?_⟩;rcases hc with hc | hc | ⟨e,h1,h2⟩
  ·exact .inl hc
  ·exact .inr (.inl hc)
  ·exact .inr (.inr ⟨e,h i _ h1,h2⟩)
 | .func f cap,cv,hb,hv=>by
  simp only [M1] at hb;simp only [sb,VR] at hv ⊢;obtain ⟨cs,e,hs⟩:=hv;exact ⟨cs,e,Xs h cap _ hb hs⟩
 | .agg cap,cv,hb,hv=>by
  simp only [M1] at hb;simp only [sb,VR] at hv ⊢;obtain ⟨cs,e,hs⟩:=hv;exact ⟨cs,e,Xs h cap _ hb hs⟩
 | .tup cap,cv,hb,hv=>by
  simp only [M1] at hb;simp only [sb,VR] at hv ⊢;obtain ⟨cs,e,hs⟩:=hv;exact ⟨cs,e,Xs h cap _ hb hs⟩
 | .yld i,cv,_,hv=>by
  simp only [sb,VR] at hv ⊢;obtain ⟨e,h1,h2⟩:=hv;exact ⟨e,h i _ h1,h2⟩
 | .rcd ..,cv,_,h=>by simp only [VR] at h
theorem Xs {σ:Sig} {n:Nat} {ρ0 ρ:Env} (h:∀ (i:Nat) e,ρ0.rw[i]?=some e→ρ.rw[n+i]?=some e):∀ (l:List AV) (cl:List Value),N1 l=true→VRs ρ0 l cl→VRs ρ (sbs σ n l) cl
 | [],_,_,h=>by simpa [sbs,VRs] using h
 | v::l,cl,hb,hv=>by
  simp only [N1,zO] at hb;simp only [sbs,VRs] at hv ⊢;obtain ⟨x,xs,e,h1,h2⟩:=hv;exact ⟨x,xs,e,Vs h v x hb.1 h1,Xs h l xs hb.2 h2⟩
end
def Sees (C:A1) (H:Hp) (σ:Sig) (G:Nat→List AV):Prop:=
 ∀ k,G k=[]∨∃ cs,E5 C H (σ k).1=some cs∧∀ (j:Nat) v,(G k)[j]?=some v→E8 v=true∧cs[(σ k).2+j]?=some (sb σ 0 v)
theorem oG {C:A1} {H:Hp} {σ:Sig} {G:Nat→List AV} (hs:Sees C H σ G) {ρ:Env} {w:World} (hH:B2 C ρ H w):B2 ⟨C.P,G,w.heap.size⟩ ⟨[],Hv σ ρ,[]⟩ [] w:=by
 refine ⟨rfl,zA7 _,fun i e h=>by simp at h,fun i b h=>by simp at h,fun i j b b' e e' h=>by simp at h,fun i b d hr=>?_,fun D h=>by simp at h⟩
 have key:b<w.heap.size∧S5 ρ (σ i).1 (σ i).2 (.pointer (some ⟨b,d,none⟩)):=by
  simp only [Hv] at hr
  revert hr
  simp only [S5];cases (σ i).1 with
  | rw j=>
   rintro ⟨e,h1,rfl,rfl⟩;exact ⟨(hH.ents j e h1).2,e,h1,rfl⟩
  | ro j=>
   rintro ⟨d0,h1,rfl⟩;exact ⟨(hH.ro j b d0 h1).1,b,d0,h1,rfl⟩
 refine ⟨key.1,fun j x e h=>by simp at h,fun k v hv=>?_⟩;rcases hs i with h0 | ⟨cs,h1,h2⟩
 ·have hv':(G i)[k]?=some v:=hv;rw [h0] at hv';simp at hv'
 ·obtain ⟨h3,h4⟩:=h2 k v hv;obtain ⟨cv,q1,q2⟩:=Xn hH h1 key.2 h4;exact ⟨cv,by rw [←q1];congr 1;by_cases hk:k=0<;>simp [Addr.add,hk],wK (n:=0) v cv h3 q2⟩
mutual
theorem Wi {σ:Sig}:∀ v,M1 v=true→sb σ 0 v=v
 | .undef,_=>by simp [sb]
 | .bool _,_=>by simp [sb]
 | .int _ _,_=>by simp [sb]
 | .str _,_=>by simp [sb]
 | .nilp,_=>by simp [sb]
 | .nils,_=>by simp [sb]
 | .nilf,_=>by simp [sb]
 | .ptr (.ro i) off,h=>by simp [M1] at h
 | .ptr (.rw i) off,_=>by simp [sb]
 | .slice mb (.ro i) off len,h=>by simp [M1] at h
 | .slice mb (.rw i) off len,_=>by simp [sb]
 | .func f cap,h=>by simp only [M1] at h;simp only [sb,Ma cap h]
 | .agg cs,h=>by simp only [M1] at h;simp only [sb,Ma cs h]
 | .tup cs,h=>by simp only [M1] at h;simp only [sb,Ma cs h]
 | .yld i,_=>by simp [sb]
 | .rcd ..,_=>by simp [sb]
theorem Ma {σ:Sig}:∀ l,N1 l=true→sbs σ 0 l=l
 | [],_=>by simp [sbs]
 | v::l,h=>by
  simp only [N1,zO] at h;simp only [sbs,Wi v h.1,Ma l h.2]
end
theorem tC {v:AV} {cv:Value} (hb:B0 0 v=true) (hn:M1 v=true) {ρ ρ':Env} (hv:VR ρ v cv):VR ρ' v cv:=by
 have h1:=(Bt (θ:=[]) (ρ0:=⟨[],ρ.ro,[]⟩) (ρ:=ρ) ⟨fun i hi=>by simp at hi,rfl⟩ v cv hb).1 (by rw [Hw [] v hb];exact hv);have h2:=Vs (σ:=fun _=>(.rw 0,0)) (n:=0) (ρ0:=⟨[],ρ.ro,[]⟩) (ρ:=⟨[],ρ'.ro,[]⟩) (fun i e he=>by simp at he) v cv hn h1;have h3:=(Bt (θ:=[]) (ρ0:=⟨[],ρ'.ro,[]⟩) (ρ:=ρ') ⟨fun i hi=>by simp at hi,rfl⟩ v cv hb).2;rw [Hw [] v hb] at h3;rw [Wi v hn] at h2;exact h3 h2
theorem Pl {C:A1} {H:Hp} {σ:Sig} {G:Nat→List AV} {f:FuncId} {args0 args:List AV} {R:AV→Prop} (hs:Sees C H σ G) (h:∀ B,ACalls ⟨C.P,G,B⟩ f args0 [] fun v _=>R v)
  (ha:J0 args0=true) (he:args=sbs σ 0 args0) (hR:∀ v,R v→B0 0 v=true∧M1 v=true):ACalls C f args H fun v H'=>R v∧H'=H:=by
 refine ⟨(h 0).1,fun ρ w cargs hH hv=>?_⟩;subst he;refine ((h w.heap.size).2 ⟨[],Hv σ ρ,[]⟩ w cargs (oG hs hH) (My args0 cargs ha hv)).mono ?_;rintro e w' ⟨v,cv,ρ',H',rfl,h2,h3,h4,h5,h6⟩;obtain ⟨hb,hn⟩:=hR v h2;have hkeep:∀ b,b<w.heap.size→w'.heap[b]?=w.heap[b]?:=fun b hb=>h6.keep b hb (.inr fun i e h=>by simp at h);refine ⟨v,cv,ρ,H,rfl,⟨h2,rfl⟩,Env.le_refl ρ,?_,?_,?_⟩
 ·refine ⟨hH.len,Nat.le_trans hH.base h6.size,fun i e he=>⟨(hH.ents i e he).1,Nat.lt_of_lt_of_le (hH.ents i e he).2 h6.size⟩,fun i b hb=>?_,hH.inj,fun i b d hr=>?_,fun D hD=>⟨(hkeep D (hH.df_lt hD)).trans (hH.df D hD).1,(hH.df D hD).2⟩⟩
  ·exact (hH.live i b hb).mono (Env.le_refl ρ) fun e he=>hkeep _ (hH.ents i e he).2
  ·obtain ⟨g1,g2,g3⟩:=hH.ro i b d hr;refine ⟨Nat.lt_of_lt_of_le g1 h6.size,g2,fun k v hv=>?_⟩;obtain ⟨cv,g4,g5⟩:=g3 k v hv;refine ⟨cv,?_,g5⟩;rw [←g4];simp only [World.cell?,hkeep b g1]
 ·exact tC hb hn h5
 ·exact ⟨h6.os,h6.tape,h6.output,h6.size,fun b hb _=>hkeep b hb,fun i e he=>.inl ⟨i,e,he,rfl⟩,fun _ _ _ h=>h,fun _ _ _ h=>.inl h,fun _ h=>.inl h⟩
def sh (n:Nat) (v:AV):AV:=sb (fun _=>(.rw 0,0)) n v
def Pi (n:Nat) (b:Option Blk):Option Blk:=match b with
 | some b=>some ⟨b.esz,b.cells.map (sh n)⟩
 | none=>none
theorem yP {C:A1} {H:Hp} {σ:Sig} {G:Nat→List AV} {f:FuncId} {args0 args:List AV} {K0:AV→Hp→Prop} (hs:Sees C H σ G) (h:∀ B,ACalls ⟨C.P,G,B⟩ f args0 [] K0)
  (ha:J0 args0=true) (he:args=sbs σ 0 args0) (hR:∀ v H',K0 v H'→M1 v=true∧∀ (i:Nat) b,H'[i]?=some (some b)→N1 b.cells=true) :
  ACalls C f args H fun v H'=>∃ v0 H0,K0 v0 H0∧v=sh H.length v0∧H'=H++H0.map (Pi H.length):=by
 refine ⟨(h 0).1,fun ρ w cargs hH hv=>?_⟩;subst he;refine ((h w.heap.size).2 ⟨[],Hv σ ρ,[]⟩ w cargs (oG hs hH) (My args0 cargs ha hv)).mono ?_;rintro e w' ⟨v,cv,ρ0,H0,rfl,h2,h3,h4,h5,h6⟩;obtain ⟨hb,hn⟩:=hR v H0 h2;have hkeep:∀ b,b<w.heap.size→w'.heap[b]?=w.heap[b]?:=fun b hb=>h6.keep b hb (.inr fun i e h=>by simp at h)
 let ρ':Env:=⟨ρ.rw++ρ0.rw,ρ.ro,ρ.dfs⟩
 have lenρ:ρ.rw.length=H.length:=hH.len
 have low:∀ i,i<H.length→ρ'.rw[i]?=ρ.rw[i]?:=fun i hi=>by
  show (ρ.rw++ρ0.rw)[i]?=_;rw [pY (by omega)]
 have high:∀ i,ρ'.rw[H.length+i]?=ρ0.rw[i]?:=fun i=>by
  show (ρ.rw++ρ0.rw)[H.length+i]?=_;rw [qP (by omega),lenρ,Nat.add_sub_cancel_left]
 have hle:ρ.le ρ':=⟨fun i x hx=>by
  have:i<H.length:=by rw [←lenρ];exact (zP.1 hx).1
  rw [low i this];exact hx,fun _ _ _ h=>h,fun _ h=>h⟩
 have hup:∀ (i:Nat) e,ρ0.rw[i]?=some e→ρ'.rw[H.length+i]?=some e:=fun i e he=>by rw [high];exact he
 have hlow:∀ (i:Nat),i<H.length→(H++H0.map (Pi H.length))[i]?=H[i]?:=fun i hi=>pY hi
 have hhigh:∀ (i:Nat),(H++H0.map (Pi H.length))[H.length+i]?=(H0[i]?).map (Pi H.length):=fun i=>by
  rw [qP (by omega),Nat.add_sub_cancel_left,zA0]
 have split:∀ (i:Nat),i<H.length∨∃ j,i=H.length+j:=fun i=>by
  by_cases hi:i<H.length
  ·exact .inl hi
  ·exact .inr ⟨i - H.length,by omega⟩
 refine ⟨sh H.length v,cv,ρ',H++H0.map (Pi H.length),rfl,⟨v,H0,h2,rfl,rfl⟩,hle,?_,Vs hup v cv hb h5,?_⟩
 ·refine ⟨by simp [ρ',lenρ,h4.len],Nat.le_trans hH.base h6.size,fun i e he=>?_,fun i b hb=>?_,fun i j b b' e e' q1 q2 q3 q4 q5=>?_,fun i b d hr=>?_,fun D hD=>⟨(hkeep D (hH.df_lt hD)).trans (hH.df D hD).1,fun i e he=>?_,(hH.df D hD).2.2⟩⟩
  ·rcases split i with hi | ⟨j,rfl⟩
   ·rw [low i hi] at he;exact ⟨(hH.ents i e he).1,Nat.lt_of_lt_of_le (hH.ents i e he).2 h6.size⟩
   ·rw [high] at he;exact ⟨Nat.le_trans hH.base (h4.ents j e he).1,(h4.ents j e he).2⟩
  ·rcases split i with hi | ⟨j,rfl⟩
   ·rw [hlow i hi] at hb;rw [low i hi];exact (hH.live i b hb).mono hle fun e he=>hkeep _ (hH.ents i e he).2
   ·rw [hhigh] at hb;rw [high];obtain ⟨o,ho,hb⟩:=Option.map_eq_some_iff.1 hb;cases o with
    | none=>simp [Pi] at hb
    | some b0=>
     simp only [Pi,zN] at hb;subst hb;have hl:=h4.live j b0 ho;cases he:ρ0.rw[j]? with
     | none=>rw [he] at hl;exact hl.elim
     | some o=>
      rw [he] at hl;cases o with
      | none=>
       have hl:b0.cells=[]:=hl;show b0.cells.map _=[];simp [hl]
      | some e=>
       have hnall:=hn j b0 ho;rw [Mj,qD] at hnall;cases hr0:isRec b0 with
       | true=>
        obtain ⟨g1,r,g2,p,ps,a,bd,F,q1,q2,q3,q4,q5,q6,q7⟩:=hl.rec hr0;refine .ofRec hr0 ⟨g1,r,g2,p,ps,a,bd,F.map (sh H.length),by rw [q1];simp [sh,sb],q2,q3,q4,q5,by simpa using q6,fun k v hk=>?_⟩;simp only [zA0] at hk;obtain ⟨x,hx,rfl⟩:=Option.map_eq_some_iff.1 hk;exact Vs hup x _ (hnall x (by rw [q1];simp [zA1 hx])) (q7 k x hx)
       | false=>
       obtain ⟨g1,cs,ty,fz,g2,g3,g4,g5,g6⟩:=hl.cs hr0;refine .of hr0 ⟨g1,cs,ty,fz,g2,g3,by simpa using g4,fun k v hk=>?_,g6⟩;simp only [zA0] at hk;obtain ⟨x,hx,rfl⟩:=Option.map_eq_some_iff.1 hk;obtain ⟨cv,p1,p2⟩:=g5 k x hx
       have hnx:M1 x=true:=by
        have:=hn j b0 ho
        rw [Mj,qD] at this;exact this x (zA1 hx)
       exact ⟨cv,p1,Vs hup x cv hnx p2⟩
  ·rcases split i with hi | ⟨i',rfl⟩<;>rcases split j with hj | ⟨j',rfl⟩
   ·rw [hlow i hi] at q1;rw [hlow j hj] at q2;rw [low i hi] at q3;rw [low j hj] at q4;exact hH.inj i j b b' e e' q1 q2 q3 q4 q5
   ·rw [low i hi] at q3;rw [high] at q4
    have:=(hH.ents i e q3).2
    have h8:w.heap.size≤e'.blk:=(h4.ents j' e' q4).1;omega
   ·rw [high] at q3;rw [low j hj] at q4
    have:=(hH.ents j e' q4).2
    have h8:w.heap.size≤e.blk:=(h4.ents i' e q3).1;omega
   ·rw [hhigh] at q1 q2;rw [high] at q3 q4;obtain ⟨o,ho,hb1⟩:=Option.map_eq_some_iff.1 q1;obtain ⟨o',ho',hb2⟩:=Option.map_eq_some_iff.1 q2;cases o with
    | none=>simp [Pi] at hb1
    | some b0=>
     cases o' with
     | none=>simp [Pi] at hb2
     | some b1=>rw [h4.inj i' j' b0 b1 e e' ho ho' q3 q4 q5]
  ·obtain ⟨g1,g2,g3⟩:=hH.ro i b d hr;refine ⟨Nat.lt_of_lt_of_le g1 h6.size,fun j x e q1 q2=>?_,fun k v hv=>?_⟩
   ·rcases split j with hj | ⟨j',rfl⟩
    ·rw [hlow j hj] at q1;rw [low j hj] at q2;exact g2 j x e q1 q2
    ·rw [high] at q2;have h8:w.heap.size≤e.blk:=(h4.ents j' e q2).1;omega
   ·obtain ⟨cv,g4,g5⟩:=g3 k v hv;refine ⟨cv,?_,g5⟩;rw [←g4];simp only [World.cell?,hkeep b g1]
  ·rcases split i with hi | ⟨j,rfl⟩
   ·rw [low i hi] at he;exact (hH.df D hD).2.1 i e he
   ·rw [high] at he
    have:=hH.df_lt hD
    have h8:w.heap.size≤e.blk:=(h4.ents j e he).1;omega
 ·refine ⟨h6.os,h6.tape,h6.output,h6.size,fun b hb _=>hkeep b hb,fun i e he=>?_,fun _ _ _ h=>h,fun _ _ _ h=>.inl h,fun _ h=>.inl h⟩;rcases split i with hi | ⟨j,rfl⟩
  ·rw [low i hi] at he;exact .inl ⟨i,e,he,rfl⟩
  ·rw [high] at he;exact .inr (h4.ents j e he).1
def fl (N:Nat) (live:List Nat) (vs:List AV):Fr:=fr N (live.zip vs)
def Ce (live:List Nat) (F:Fr):List AV:=live.map fun i=>F.getD i .undef
def lv (N:Nat) (live:List Nat) (Q:Ex→List AV→Hp→Prop):Post:=fun e F H=>chk (Nat.beq F.length N) (Q e (Ce live F) H)
theorem U6 {c:Bool} {K:Prop} (h:chk c K):c=true∧K:=by cases c;exact h.elim;exact ⟨rfl,h⟩
theorem Vb {N:Nat} {live:List Nat} {vs:List AV}:(fl N live vs).length=N:=by simp [fl,fr]
theorem nX {i i':Nat} {v:AV}:∀ {live:List Nat} {vs:List AV},((live.zip vs).find? fun p=>Nat.beq p.1 i)=some (i',v)→∃ j:Nat,live[j]?=some i∧vs[j]?=some v∧i'=i
 | [],vs,h=>by simp at h
 | x::live,[],h=>by simp at h
 | x::live,y::vs,h=>by
  simp only [List.zip_cons_cons,List.find?_cons] at h;split at h
  ·rename_i hx;simp at h;exact ⟨0,by simp [rG hx],by simp [h.2],by rw [←h.1];exact rG hx⟩
  ·obtain ⟨j,h1,h2,h3⟩:=nX h;exact ⟨j+1,by simpa using h1,by simpa using h2,h3⟩
theorem aA8 {N:Nat} {live:List Nat} {vs:List AV} {i:Nat} {v:AV} (h:(fl N live vs)[i]?=some v):v=.undef∨∃ j:Nat,live[j]?=some i∧vs[j]?=some v:=by
 simp only [fl,fr,zA0] at h;obtain ⟨k,hk,rfl⟩:=Option.map_eq_some_iff.1 h
 have hki:k=i:=by
  have:=zP.1 hk
  obtain ⟨h1,h2⟩:=this;simp at h2;exact h2.symm
 subst hki;cases hf:(live.zip vs).find? fun p=>Nat.beq p.1 k with
 | none=>exact .inl (by simp)
 | some p=>
  obtain ⟨i',v⟩:=p;obtain ⟨j,h1,h2,_⟩:=nX hf;exact .inr ⟨j,h1,by simp [h2]⟩
abbrev jA (ρ:Env) (a:Act):Prop:=∃ ds:List Nat,a.defers=ds.map (fun D=>{ target:=.collected D,args:=#[] })∧ds.Nodup∧∀ D∈ds,D∈ρ.dfs
theorem jA.nil {ρ:Env} {t:Array Value}:jA ρ ⟨t,[]⟩:=⟨[],rfl,List.nodup_nil,fun _ h=>by simp at h⟩
theorem Va {N:Nat} {live:List Nat} {vs:List AV} {ρ:Env} {a:Act} (hd:jA ρ a) (hN:a.tmps.size=N) (h:∀ (j i:Nat) v,live[j]?=some i→vs[j]?=some v→VR ρ v (a.tmps.getD i undef)):D0 ρ (fl N live vs) a:=by
 refine ⟨hd,by rw [Vb,hN],fun i v hv=>?_⟩;rcases aA8 hv with rfl | ⟨j,h1,h2⟩
 ·simp [VR]
 ·exact h j i v h1 h2
theorem Mf {N:Nat} {live:List Nat} {F:Fr} {ρ:Env} {a:Act} (h:D0 ρ F a) (hN:F.length=N):D0 ρ (fl N live (Ce live F)) a:=by
 refine Va h.nod (by rw [←h.len,hN]) fun j i v h1 h2=>?_;simp only [Ce,zA0,h1,Option.map_some,zN] at h2;subst h2;by_cases hi:i<F.length
 ·exact h.val i _ (by simp [List.getD,hi])
 ·simp [List.getD,hi,VR]
theorem AWp.rd {C:A1} {m:Nat} {c:Code} {F:Fr} {H:Hp} {Q:Post} {N:Nat} (live:List Nat) (hN:F.length=N) (h:AWp C m c (fl N live (Ce live F)) H Q):AWp C m c F H Q:=
 fun r hr ρ a w hH hF=>h r hr ρ a w hH (Mf hF hN)
theorem AWp.lvd {C:A1} {m:Nat} {c:Code} {F:Fr} {H:Hp} {N:Nat} {live:List Nat} {Q:Ex→List AV→Hp→Prop} {Q':Post} (h:AWp C m c F H (lv N live Q)) (hq:∀ e vs H',Q e vs H'→Q' e (fl N live vs) H'):AWp C m c F H Q':=by
 intro r hr ρ a w hH hF;refine Code.wpIn_mono ?_ (h r hr ρ a w hH hF);rintro e a' w' ⟨ae,ρ',F',H',rfl,h2,h3,h4,h5,h6⟩;obtain ⟨h7,h8⟩:=U6 h2;exact ⟨ae,ρ',_,H',rfl,hq _ _ _ h8,h3,h4,Mf h5 (rG h7),h6⟩
theorem C5.live {C:A1} {m:Nat} {N:Nat} {live:List Nat} {vs vs':List AV} {H H':Hp} (hv:C5 m vs H vs' H') {ρ':Env} {a:Act} {w:World} (hH:B2 C ρ' H' w) (hd:jA ρ' a) (hN:a.tmps.size=N)
  (hl:vs'.length=live.length) (hF:∀ (j i:Nat) v,live[j]?=some i→vs'[j]?=some v→VR ρ' v (a.tmps.getD i undef)) :
  ∃ ρ,B2 C ρ H w∧D0 ρ (fl N live vs) a∧K3 m ρ' ρ∧Frm ρ' w ρ w:=by
 have hF1:D0 ρ' vs' ⟨(live.map fun i=>a.tmps.getD i undef).toArray,[]⟩:=by
  refine ⟨jA.nil,by simp [hl],fun j v hj=>?_⟩;have hjl:j<live.length:=by rw [←hl];exact (zP.1 hj).1
  have:=hF j live[j] v (xW hjl) hj
  simpa [Array.getD_eq_getD_getElem?,hjl] using this
 obtain ⟨ρ,g1,g2,g3,g4,g5⟩:=hv.use' hH hF1;refine ⟨ρ,g1,Va (let ⟨ds,d1,d2,d3⟩:=hd;⟨ds,d1,d2,fun D hD=>by rw [g5];exact d3 D hD⟩) hN fun j i v h1 h2=>?_,g3,g4⟩
 have:=g2.val j v h2
 simpa [Array.getD_eq_getD_getElem?,h1] using this
theorem X5 {C:A1} {m:Nat} {c:Code} {N:Nat} {live:List Nat} {vs:List AV} {H:Hp} {Q:Ex→List AV→Hp→Prop} (I:Nat→List AV→Hp→Prop) (k0:Nat) (h0:I k0 vs H)
  (round:∀ k vs H,I k vs H→AWp C m c (fl N live vs) H (lv N live fun e vs' H'=>match e with
   | .normal=>∃ k',k'<k∧(I k' vs' H'∨∃ vs'' H'',I k' vs'' H''∧C5 m vs'' H'' vs' H')
   | e=>Q e vs' H')):AWp C m (.loop c) (fl N live vs) H (lv N live Q):=by
 intro r hr ρ a w hH hF;refine wpIn_loop_ghost (fun n a' w'=>∃ ρ' vs' H',I n vs' H'∧B2 C ρ' H' w'∧D0 ρ' (fl N live vs') a'∧K3 m ρ ρ'∧Frm ρ w ρ' w') k0 ⟨ρ,vs,H,h0,hH,hF,K3.refl m ρ,Frm.refl ρ w⟩ ?_;rintro n a1 w1 ⟨ρ1,F1,H1,hI,hH1,hF1,hp1,hf1⟩;refine Code.wpIn_mono ?_ (round n F1 H1 hI r (Yz hr) ρ1 a1 w1 hH1 hF1);rintro e a2 w2 ⟨ae,ρ2,F2,H2,rfl,h2,h3,h4,h5,h6⟩;obtain ⟨h7,h8⟩:=U6 h2;have hN:F2.length=N:=rG h7;have hF2:=Mf (live:=live) h5 hN;cases ae with
 | normal=>
  obtain ⟨n',hlt,hi | ⟨vs'',H'',hI',hv⟩⟩:=h8
  ·exact ⟨n',hlt,ρ2,_,H2,hi,h4,hF2,hp1.trans h3,hf1.trans h6⟩
  ·obtain ⟨ρ3,g1,g2,g3,g4⟩:=hv.live (N:=N) (live:=live) (a:=a2) h4 h5.nod (by rw [←h5.len,hN]) (by simp [Ce]) fun j i v q1 q2=>by
    simp only [Ce,zA0,q1,Option.map_some,zN] at q2;subst q2;by_cases hi:i<F2.length
    ·exact h5.val i _ (by simp [List.getD,hi])
    ·simp [List.getD,hi,VR]
   exact ⟨n',hlt,ρ3,vs'',H'',hI',g1,g2,(hp1.trans h3).trans g3,(hf1.trans h6).trans g4⟩
 | exit i=>exact ⟨.exit i,ρ2,_,H2,rfl,by simp only [lv];rw [show F2.length.beq N=true from h7];exact h8,hp1.trans h3,h4,h5,hf1.trans h6⟩
 | ret=>exact ⟨.ret,ρ2,_,H2,rfl,by simp only [lv];rw [show F2.length.beq N=true from h7];exact h8,hp1.trans h3,h4,h5,hf1.trans h6⟩
def Ug (N:Nat) (live:List Nat) (S:List AV→Hp→Option (Bool×Ex×List AV×Hp)) (F:Fr) (H:Hp):Option (Bool×Ex×Fr×Hp):=
 match S (Ce live F) H with
 | some (c,e,vs,H')=>match Nat.beq F.length N with
  | true=>some (c,e,fl N live vs,H')
  | false=>none
 | none=>none
def wk:List AV→List AV→Prop
 | [],[]=>True
 | .undef::a,_::b=>wk a b
 | x::a,y::b=>y=x∧wk a b
 | _,_=>False
theorem Sy:∀ {a b:List AV},wk a b→∀ (j:Nat) v,a[j]?=some v→v=.undef∨b[j]?=some v
 | [],b,_,j,v,h=>by simp at h
 | x::a,[],hw,j,v,h=>by cases x<;>simp [wk] at hw
 | x::a,y::b,hw,j,v,h=>by
  have key:(x=.undef∨y=x)∧wk a b:=by
   cases x<;>simp only [wk] at hw<;>first | exact ⟨.inl rfl,hw⟩ | exact ⟨.inr hw.1,hw.2⟩
  cases j with
  | zero=>
   simp at h;subst h;rcases key.1 with h0 | h0
   ·exact .inl h0
   ·exact .inr (by simp [h0])
  | succ j=>simpa using Sy key.2 j v (by simpa using h)
theorem Fh:∀ (a:List AV),wk a a
 | []=>trivial
 | x::a=>by cases x<;>first | exact Fh a | exact ⟨rfl,Fh a⟩
theorem xA {N:Nat} {live:List Nat} {vs:List AV} {F:Fr} {ρ:Env} {a:Act} (h:D0 ρ F a) (hN:F.length=N) (hw:wk vs (Ce live F)):D0 ρ (fl N live vs) a:=by
 refine Va h.nod (by rw [←h.len,hN]) fun j i v h1 h2=>?_;rcases Sy hw j v h2 with rfl | h2
 ·simp [VR]
 simp only [Ce,zA0,h1,Option.map_some,zN] at h2;subst h2;by_cases hi:i<F.length
 ·exact h.val i _ (by simp [List.getD,hi])
 ·simp [List.getD,hi,VR]
theorem bG {C:A1} {m:Nat} {c:Code} {N:Nat} {live:List Nat} {S:List AV→Hp→Option (Bool×Ex×List AV×Hp)} {F:Fr} {H:Hp} {e:Ex} {F':Fr} {H':Hp}
  (hS:∀ vs H e vs' H',S vs H=some (true,e,vs',H')→AWp C m c (fl N live vs) H (lv N live fun e' vs'' H''=>e'=e∧wk vs' vs''∧H''=H')) (h:Ug N live S F H=some (true,e,F',H')) :
  AWp C m c F H fun e' F'' H''=>e'=e∧F''=F'∧H''=H':=by
 unfold Ug at h;split at h
 ·rename_i b ae vs H2 hs;split at h
  rotate_left
  ·simp at h
  rename_i hN;simp only [zN,xH] at h;obtain ⟨rfl,rfl,rfl,rfl⟩:=h;refine AWp.rd live (rG hN) ?_;intro r hr ρ a w hH hF;refine Code.wpIn_mono ?_ (hS _ _ _ _ _ hs r hr ρ a w hH hF);rintro e a' w' ⟨ae,ρ',F',H',rfl,h2,h3,h4,h5,h6⟩;obtain ⟨h7,h8,h9,h10⟩:=U6 h2;exact ⟨ae,ρ',_,H',rfl,⟨h8,rfl,h10⟩,h3,h4,xA h5 (rG h7) h9,h6⟩
 ·simp at h
theorem AWp.lmono {C:A1} {m:Nat} {c:Code} {F:Fr} {H:Hp} {N:Nat} {live:List Nat} {Q Q':Ex→List AV→Hp→Prop} (h:AWp C m c F H (lv N live Q)) (hq:∀ e vs H',Q e vs H'→Q' e vs H'):AWp C m c F H (lv N live Q'):=
 h.mono fun e F' H' h=>by
  obtain ⟨h1,h2⟩:=U6 h;simp only [lv,h1];exact hq _ _ _ h2
def Oq:Code→Option Nat
 | .exit i=>some i
 | .seq a b=>match Oq a with | some i=>some i | none=>Oq b
 | .cond _ a b=>match Oq a with | some i=>some i | none=>Oq b
 | .block _ c=>Oq c
 | .scope c=>Oq c
 | _=>none
abbrev Sums:=FuncId→List AV→Hp→Option (Bool×AV×List Hop)
abbrev Loops:=Code→Fr→Hp→Option (Bool×Ex×Fr×Hp)
def Kl (C:A1) (sum:Sums) (loop:Loops):Cfg:=
 { C:=C,inl:=fun _=>false,strict:=.lazy,unr:=false,sum:=sum,loop:=loop,M:=0 }
def Kn (C:A1) (sum:Sums) (loop:Loops):Cfg:=
 { C:=C,inl:=fun _=>false,strict:=.lazy,unr:=false,nm:=true,sum:=sum,loop:=loop,M:=0 }
def noSum:Sums:=fun _ _ _=>none
def noLoop:Loops:=fun _ _ _=>none
def El (C:A1) (sum:Sums):Prop:=∀ f args H v hs,sum f args H=some (true,v,hs)→ACalls C f args H fun v' H'=>v'=v∧H'=acts H hs
def P7 (C:A1) (lps:List Code) (loop:Loops):Prop:=∀ c F H e F' H',c∈lps→loop c F H=some (true,e,F',H')→AWp C 0 (.loop c) F H fun e' F'' H''=>e'=e∧F''=F'∧H''=H'
theorem Id (C:A1):El C noSum:=fun _ _ _ _ _ h=>by simp [noSum] at h
theorem Nr (C:A1) (lps:List Code):P7 C lps noLoop:=fun _ _ _ _ _ _ _ h=>by simp [noLoop] at h
theorem good0 {C:A1} {lps:List Code} {sum:Sums} {loop:Loops} (hm:C.P.follows .mixedOrders=true) (hs:El C sum) (hl:P7 C lps loop):Ee (Kl C sum loop) lps:=by
 refine ⟨hm,hs,fun m c F H e F' H' h1 h2 h3=>?_⟩
 have:m=0:=Nat.le_zero.1 h1
 subst this;exact hl c F H e F' H' h2 h3
theorem noinl {C:A1} {sum:Sums} {loop:Loops} {lps:List Code}:(Kl C sum loop).unr=false→∀ f fn c,(Kl C sum loop).inl f=true→(Kl C sum loop).C.P.funcs[f]?=some fn→fn.body=some c→∀ b∈loopsOf c,b∈lps:=fun _ _ _ _ h=>by cases h
theorem goodn {C:A1} {lps:List Code} {sum:Sums} {loop:Loops} (hm:C.P.follows .mixedOrders=true) (hs:El C sum) (hl:P7 C lps loop):Ee (Kn C sum loop) lps:=by
 refine ⟨hm,hs,fun m c F H e F' H' h1 h2 h3=>?_⟩
 have:m=0:=Nat.le_zero.1 h1
 subst this;exact hl c F H e F' H' h2 h3
theorem wpn {C:A1} {sum:Sums} {loop:Loops} (hm:C.P.follows .mixedOrders=true) (hs:El C sum) {c:Code} (hl:P7 C (loopsOf c) loop) (n:Nat) {F:Fr} {H:Hp} {Q:Post} (h:vc (Kn C sum loop) n 0 (.code c) F H Q):AWp C 0 c F H Q:=
 wp_of_vc (K:=Kn C sum loop) (goodn hm hs hl) (fun _ _ _ _ h=>by cases h) n (zA8 _) (fun _ _ h=>h) h
theorem wF {C : A1} {sum : Sums} {loop : Loops} (hm : C.P.follows .mixedOrders = true) (hs : El C sum) {f : FuncId} {fn : Func} {c : Code} (hf : C.P.funcs[f]? = some fn) (hb : fn.body = some c) (hn : (fn.name == "runtime.NumGoroutine") = false)
  (hl:P7 C (loopsOf c) loop) (n:Nat) {args:List AV} {Q:AV→Hp→Prop} (h:vc (Kn C sum loop) n 0 (.code c) (K7 fn args) [] (L1 C fn Q)):ACalls C f args [] Q:=
 call_of_vc (K:=Kn C sum loop) (goodn hm hs hl) (fun _ _ _ _ h=>by cases h) n hf hb hn (fun _ _ h=>h) h
theorem wp0 {C:A1} {sum:Sums} {loop:Loops} (hm:C.P.follows .mixedOrders=true) (hs:El C sum) {c:Code} (hl:P7 C (loopsOf c) loop) (n:Nat) {F:Fr} {H:Hp} {Q:Post} (h:vc (Kl C sum loop) n 0 (.code c) F H Q):AWp C 0 c F H Q:=
 wp_of_vc (K:=Kl C sum loop) (good0 hm hs hl) noinl n (zA8 _) (fun _ _ h=>h) h
theorem call0 {C : A1} {sum : Sums} {loop : Loops} (hm : C.P.follows .mixedOrders = true) (hs : El C sum) {f : FuncId} {fn : Func} {c : Code} (hf : C.P.funcs[f]? = some fn) (hb : fn.body = some c) (hn : (fn.name == "runtime.NumGoroutine") = false)
  (hl:P7 C (loopsOf c) loop) (n:Nat) {args:List AV} {Q:AV→Hp→Prop} (h:vc (Kl C sum loop) n 0 (.code c) (K7 fn args) [] (L1 C fn Q)):ACalls C f args [] Q:=
 call_of_vc (K:=Kl C sum loop) (good0 hm hs hl) noinl n hf hb hn (fun _ _ h=>h) h
theorem P7.one {C:A1} {lps:List Code} {c:Code} {loop:Loops} (he:lps=[c]) (h:∀ F H e F' H',loop c F H=some (true,e,F',H')→AWp C 0 (.loop c) F H fun e' F'' H''=>e'=e∧F''=F'∧H''=H'):P7 C lps loop:=by
 intro c' F H e F' H' h1 h2;rw [he] at h1;simp only [List.mem_singleton] at h1;subst h1;exact h F H e F' H' h2
open Go.ChangeShapes Go.WideShapes Go.ChangeAt
structure RoE where
 b:Nat
 d:Nat
 cells:List AV
def Ng (w:World) (L:List RoE) (k b d:Nat):Prop:=b<w.heap.size∧∃ e,L[k]?=some e∧e.b=b∧e.d=d
def GL (L:List RoE) (k:Nat):List AV:=match L[k]? with | some e=>e.cells | none=>[]
def RoLe (ro ro':Nat→Nat→Nat→Prop):Prop:=∀ k b d,ro k b d→ro' k b d
mutual
theorem kL {ro ro':Nat→Nat→Nat→Prop} (h:RoLe ro ro'):∀ (a:AV) (v:Value),VR ⟨[],ro,[]⟩ a v→VR ⟨[],ro',[]⟩ a v
 | .undef,v,hv=>by simp only [VR] at *
 | .bool b,v,hv=>by simpa only [VR] using hv
 | .int k n,v,hv=>by simpa only [VR] using hv
 | .str s,v,hv=>by simpa only [VR] using hv
 | .nilp,v,hv=>by simpa only [VR] using hv
 | .ptr (.rw i) off,v,hv=>by
  simp only [VR,S5] at *;obtain ⟨e,he,_⟩:=hv;simp at he
 | .ptr (.ro i) off,v,hv=>by
  simp only [VR,S5] at *;obtain ⟨b,d,he,hv⟩:=hv;exact ⟨b,d,h _ _ _ he,hv⟩
 | .nils,v,hv=>by simpa only [VR] using hv
 | .slice mb (.rw i) off len,v,hv=>by
  simp only [VR,Aq] at *;obtain ⟨ca,cap,e,hl,hc⟩:=hv;refine ⟨ca,cap,e,hl,?_⟩;rcases hc with hc | hc | ⟨e,he,_⟩
  ·exact .inl hc
  ·exact .inr (.inl hc)
  ·simp at he
 | .slice mb (.ro i) off len,v,hv=>by
  simp only [VR,Aq] at *;obtain ⟨ca,cap,e,hl,hc⟩:=hv;refine ⟨ca,cap,e,hl,?_⟩;rcases hc with hc | hc | ⟨b,d,he,h2⟩
  ·exact .inl hc
  ·exact .inr (.inl hc)
  ·exact .inr (.inr ⟨b,d,h _ _ _ he,h2⟩)
 | .nilf,v,hv=>by simpa only [VR] using hv
 | .func f cap,v,hv=>by
  simp only [VR] at *;obtain ⟨cs,e,hs⟩:=hv;exact ⟨cs,e,Vr h cap _ hs⟩
 | .agg cs,v,hv=>by
  simp only [VR] at *;obtain ⟨vs,e,hs⟩:=hv;exact ⟨vs,e,Vr h cs _ hs⟩
 | .tup cs,v,hv=>by
  simp only [VR] at *;obtain ⟨vs,e,hs⟩:=hv;exact ⟨vs,e,Vr h cs _ hs⟩
theorem Vr {ro ro':Nat→Nat→Nat→Prop} (h:RoLe ro ro'):∀ (as:List AV) (vs:List Value),VRs ⟨[],ro,[]⟩ as vs→VRs ⟨[],ro',[]⟩ as vs
 | [],vs,hv=>by simpa only [VRs] using hv
 | a::as,vs,hv=>by
  simp only [VRs] at *;obtain ⟨v,vs',e,h1,h2⟩:=hv;exact ⟨v,vs',e,kL h a v h1,Vr h as vs' h2⟩
end
theorem Iw (w:World) (L M:List RoE):RoLe (Ng w L) (Ng w (L++M)):=by
 rintro k b d ⟨h0,e,h1,h2⟩;exact ⟨h0,e,by rw [pY (zP.1 h1).1];exact h1,h2⟩
def S7:Nat→List (Nat×Nat)→Nat→Bool
 | acc,[],tot=>acc==tot
 | acc,(o,z)::r,tot=>o==acc&&S7 (acc+z) r tot
def X1 (P:Program):Nat→TypeId→Bool
 | 0,_=>false
 | n+1,t=>
  match P.underlying t with
  | some .bool=>true
  | some (.int _)=>true
  | some .string=>true
  | some (.slice e)=>decide (0<P.cellsOf e)&&X1 P n e
  | some (.struct fs)=>S7 0 (fs.toList.map fun f=>(f.offset,P.cellsOf f.type)) (P.cellsOf t)&&fs.toList.all fun f=>X1 P n f.type
  | some (.array m e)=>m*P.cellsOf e==P.cellsOf t&&X1 P n e
  | _=>false
def T3 {H:Type} (P:Program) (L:List RoE):Nat→TypeId→List AV→DataW H→Prop
 | 0,_,_,_=>False
 | n+1,t,cs,d=>
  match P.underlying t with
  | some .bool=>∃ b,cs=[.bool b]∧d=.lit (.bool b)
  | some (.int k)=>∃ i,cs=[.int k i]∧(Lit.int k i).wf=true∧d=.lit (.int k i)
  | some .string=>∃ s,cs=[.str s]∧s.length≤maxLen∧d=.lit (.string s)
  | some (.slice e)=>(cs=[.nils]∧d=.nil)∨∃ (k:Nat) (ds sp:List (DataW H)) (en:RoE),cs=[.slice false (.ro k) 0 ds.length]∧d=.slice ds sp∧L[k]?=some en∧
    en.cells.length=ds.length*P.cellsOf e∧ds.length+sp.length≤maxLen∧∀ (i:Nat) x,ds[i]?=some x→T3 P L n e ((en.cells.drop (i*P.cellsOf e)).take (P.cellsOf e)) x
  | some (.struct fs)=>cs.length=P.cellsOf t∧∃ ds,d=.agg ds∧ds.length=fs.size∧∀ (i:Nat) f x,fs[i]?=some f→ds[i]?=some x→T3 P L n f.type ((cs.drop f.offset).take (P.cellsOf f.type)) x
  | some (.array m e)=>cs.length=P.cellsOf t∧∃ ds,d=.agg ds∧ds.length=m∧∀ (i:Nat) x,ds[i]?=some x→T3 P L n e ((cs.drop (i*P.cellsOf e)).take (P.cellsOf e)) x
  | _=>False
theorem T3.mono {H:Type} {P:Program} {L:List RoE} (M:List RoE):∀ {n:Nat} {t:TypeId} {cs:List AV} {d:DataW H},T3 P L n t cs d→T3 P (L++M) n t cs d
 | 0,_,_,_,h=>h.elim
 | n+1,t,cs,d,h=>by
  unfold T3 at h ⊢;split at h
  ·exact h
  ·exact h
  ·exact h
  ·rcases h with h | ⟨k,ds,sp,en,h1,h2,h3,h4,h5,h6⟩
   ·exact .inl h
   ·exact .inr ⟨k,ds,sp,en,h1,h2,by rw [pY (zP.1 h3).1];exact h3,h4,h5,fun i x hx=>(h6 i x hx).mono M⟩
  ·obtain ⟨h1,ds,h2,h3,h4⟩:=h;exact ⟨h1,ds,h2,h3,fun i f x h5 h6=>(h4 i f x h5 h6).mono M⟩
  ·obtain ⟨h1,ds,h2,h3,h4⟩:=h;exact ⟨h1,ds,h2,h3,fun i x h6=>(h4 i x h6).mono M⟩
  ·exact h.elim
def He (w:World) (L:List RoE):Prop:=∀ (k:Nat) e,L[k]?=some e→∀ (j:Nat) v,e.cells[j]?=some v→E8 v=true∧∃ cv,w.cell? ⟨e.b,e.d+j,none⟩=some cv∧VR ⟨[],Ng w L,[]⟩ v cv
def Bk {α:Type} (l:List (List α)):Nat:=(l.map List.length).sum
theorem Ux {α:Type}:∀ (css:List (List α)) (i:Nat) (cs:List α),css[i]?=some cs→(css.flatten.drop (Bk (css.take i))).take cs.length=cs
 | [],i,cs,h=>by simp at h
 | c::css,0,cs,h=>by
  simp at h;subst h;simp [Bk]
 | c::css,i+1,cs,h=>by
  have:=Ux css i cs (by simpa using h)
  simp only [List.flatten_cons,List.take_succ_cons,Bk,List.map_cons,List.sum_cons];rw [List.drop_append,List.drop_eq_nil_of_le (by omega),List.nil_append,show c.length+(List.map List.length (List.take i css)).sum - c.length=Bk (css.take i) by unfold Bk;omega];exact this
theorem Zm {ρ:Env}:∀ {css:List (List AV)} {vss:List (List Value)},css.length=vss.length→(∀ (i:Nat) cs vs,css[i]?=some cs→vss[i]?=some vs→VRs ρ cs vs)→VRs ρ css.flatten vss.flatten
 | [],[],_,_=>by simp [VRs]
 | c::css,v::vss,hl,h=>by
  simp only [List.flatten_cons];exact Sh (h 0 c v rfl rfl) (Zm (by simpa using hl) fun i cs vs h1 h2=>h (i+1) cs vs (by simpa using h1) (by simpa using h2))
 | [],_::_,hl,_=>by simp at hl
 | _::_,[],hl,_=>by simp at hl
theorem lV {α:Type} {vs:List α} {tot:Nat} (hv:vs.length=tot):∀ {os:List (Nat×Nat)} {acc:Nat},S7 acc os tot=true→acc≤tot→(os.map fun p=>(vs.drop p.1).take p.2).flatten=vs.drop acc
 | [],acc,h,_=>by simp [S7] at h;simp;omega
 | (o,z)::os,acc,h,ha=>by
  simp only [S7,zO,beq_iff_eq] at h;obtain ⟨rfl,h⟩:=h
  have le:∀ {os:List (Nat×Nat)} {a:Nat},S7 a os tot=true→a≤tot:=by
   intro os
   induction os with
   | nil=>intro a h;simp [S7] at h;omega
   | cons p os ih=>intro a h;obtain ⟨x,y⟩:=p;simp only [S7,zO] at h;have:=ih h.2;omega
  have ih:=lV (vs:=vs) hv h (le h);simp only [List.map_cons,List.flatten_cons,ih];rw [←List.drop_drop];exact List.take_append_drop _ _
theorem rC {tot:Nat}:∀ {os:List (Nat×Nat)} {acc:Nat},S7 acc os tot=true→∀ (i:Nat) p,os[i]?=some p→p.1=acc+((os.take i).map (·.2)).sum
 | [],acc,_,i,p,h=>by simp at h
 | (o,z)::os,acc,h,i,p,hp=>by
  simp only [S7,zO,beq_iff_eq] at h;cases i with
  | zero=>simp at hp;subst hp;simp;exact h.1
  | succ i=>
   have:=rC h.2 i p (by simpa using hp)
   simp only [List.take_succ_cons,List.map_cons,List.sum_cons];omega
theorem rD {α:Type} {vs:List α} {tot:Nat} (hv:vs.length=tot):∀ {os:List (Nat×Nat)} {acc:Nat},S7 acc os tot=true→∀ p∈os,((vs.drop p.1).take p.2).length=p.2
 | [],acc,_,p,h=>by simp at h
 | (o,z)::os,acc,h,p,hp=>by
  simp only [S7,zO,beq_iff_eq] at h
  have le:∀ {os:List (Nat×Nat)} {a:Nat},S7 a os tot=true→a≤tot:=by
   intro os
   induction os with
   | nil=>intro a h;simp [S7] at h;omega
   | cons p os ih=>intro a h;obtain ⟨x,y⟩:=p;simp only [S7,zO] at h;have:=ih h.2;omega
  rcases List.mem_cons.1 hp with rfl | hp
  ·have:=le h.2
   simp;omega
  ·exact rD hv h.2 p hp
theorem Xz (z:Nat):∀ (m a:Nat),S7 (a*z) ((List.range' a m).map fun i=>(i*z,z)) ((a+m)*z)=true
 | 0,a=>by simp [S7]
 | m+1,a=>by
  simp only [List.range'_succ,List.map_cons,S7,beq_self_eq_true,Bool.true_and]
  have:=Xz z m (a+1)
  rw [show a*z+z=(a+1)*z by rw [Nat.add_mul,Nat.one_mul],show a+(m+1)=a+1+m by omega];exact this
section
variable {H:Type} {enc:TypeId×Value→H} {P:Program} {w:World}
abbrev Rd (enc:TypeId×Value→H) (P:Program) (w:World) (fuel:Nat) (t:TypeId) (vs:List Value):Option (DataW H×List MemPlace):=DataW.trod enc P w 0 (fun _=>true) true fuel t vs
def pB (enc:TypeId×Value→H) (P:Program) (w:World) (n:Nat):Prop:=
 ∀ (fuel:Nat) (t:TypeId) (vs:List Value) (x:DataW H×List MemPlace) (L:List RoE),X1 P n t=true→He w L→Rd enc P w fuel t vs=some x→
  ∃ M cs,He w (L++M)∧VRs ⟨[],Ng w (L++M),[]⟩ cs vs∧T3 P (L++M) n t cs x.1∧J0 cs=true
theorem Tx {n:Nat} (ih:pB enc P w n):∀ (jobs:List (TypeId×List Value×DataW H)) (L:List RoE),(∀ j∈jobs,X1 P n j.1=true∧∃ fuel ps,Rd enc P w fuel j.1 j.2.1=some (j.2.2,ps))→He w L→
  ∃ (M:List RoE) (css:List (List AV)),He w (L++M)∧css.length=jobs.length∧∀ (i:Nat) j cs,jobs[i]?=some j→css[i]?=some cs→VRs ⟨[],Ng w (L++M),[]⟩ cs j.2.1∧T3 P (L++M) n j.1 cs j.2.2∧J0 cs=true
 | [],L,_,hL=>⟨[],[],by simpa using hL,rfl,fun i j cs h=>by simp at h⟩
 | j::jobs,L,hj,hL=>by
  obtain ⟨h1,fuel,ps,h2⟩:=hj j (by simp);obtain ⟨M,cs,g1,g2,g3,g4⟩:=ih fuel j.1 j.2.1 _ L h1 hL h2;obtain ⟨M',css,q1,q2,q3⟩:=Tx ih jobs (L++M) (fun x hx=>hj x (by simp [hx])) g1;refine ⟨M++M',cs::css,by rw [←List.append_assoc];exact q1,by simp [q2],fun i x c hx hc=>?_⟩;rw [←List.append_assoc];cases i with
  | zero=>
   simp at hx hc;subst hx hc;exact ⟨Vr (Iw _ _ _) _ _ g2,g3.mono M',g4⟩
  | succ i=>exact q3 i x c (by simpa using hx) (by simpa using hc)
theorem bO {css:List (List AV)} (h:∀ cs∈css,J0 cs=true):J0 css.flatten=true:=by
 rw [Rg,qD];intro v hv;obtain ⟨cs,h1,h2⟩:=List.mem_flatten.1 hv
 have:=h cs h1
 rw [Rg,qD] at this;exact this v h2
theorem mO {n:Nat} (ih:pB enc P w n) {vs:List Value} {tot:Nat} (hv:vs.length=tot) (items:List (TypeId×Nat×DataW H)) (hrow:S7 0 (items.map fun x=>(x.2.1,P.cellsOf x.1)) tot=true) (L:List RoE)
  (hi:∀ x∈items,X1 P n x.1=true∧∃ fuel ps,Rd enc P w fuel x.1 ((vs.drop x.2.1).take (P.cellsOf x.1))=some (x.2.2,ps)) (hL:He w L) :
  ∃ M cs,He w (L++M)∧VRs ⟨[],Ng w (L++M),[]⟩ cs vs∧J0 cs=true∧∀ (i:Nat) x,items[i]?=some x→T3 P (L++M) n x.1 ((cs.drop x.2.1).take (P.cellsOf x.1)) x.2.2:=by
 obtain ⟨M,css,h1,h2,h3⟩:=Tx ih (items.map fun x=>(x.1,(vs.drop x.2.1).take (P.cellsOf x.1),x.2.2)) L (fun j hj=>by
  obtain ⟨x,hx,rfl⟩:=List.mem_map.1 hj
  exact hi x hx) hL
 simp only [List.length_map] at h2
 have key:∀ (i:Nat) x cs,items[i]?=some x→css[i]?=some cs→VRs ⟨[],Ng w (L++M),[]⟩ cs ((vs.drop x.2.1).take (P.cellsOf x.1))∧T3 P (L++M) n x.1 cs x.2.2∧J0 cs=true:=fun i x cs hx hc=>
  h3 i (x.1,(vs.drop x.2.1).take (P.cellsOf x.1),x.2.2) cs (by simp only [zA0,hx,Option.map_some]) hc
 have hlen:∀ (i:Nat) x cs,items[i]?=some x→css[i]?=some cs→cs.length=P.cellsOf x.1:=fun i x cs hx hc=>by
  have:=E6 (key i x cs hx hc).1
  rw [←this];have hm:(x.2.1,P.cellsOf x.1)∈items.map fun x=>(x.2.1,P.cellsOf x.1):=List.mem_map.2 ⟨x,zA1 hx,rfl⟩;exact rD hv hrow _ hm
 refine ⟨M,css.flatten,h1,?_,bO fun cs hcs=>?_,fun i x hx=>?_⟩
 rotate_left
 ·obtain ⟨i,hi⟩:=List.getElem?_of_mem hcs;have hil:i<items.length:=by rw [←h2];exact (zP.1 hi).1
  exact (key i _ cs (xW hil) hi).2.2
 rotate_left
 ·have:=Zm (ρ:=⟨[],Ng w (L++M),[]⟩) (css:=css) (vss:=items.map fun x=>(vs.drop x.2.1).take (P.cellsOf x.1)) (by simp [h2]) fun i cs v hc hv'=>by
   simp only [zA0,Option.map_eq_some_iff] at hv';obtain ⟨x,hx,rfl⟩:=hv';exact (key i x cs hx hc).1
  have hf:=lV (vs:=vs) hv hrow (zA8 _);rw [List.map_map] at hf;simp only [List.drop_zero] at hf;rw [←hf];exact this
 ·have hil:i<css.length:=by rw [h2];exact (zP.1 hx).1
  obtain ⟨cs,hc⟩:∃ cs,css[i]?=some cs:=⟨_,xW hil⟩;have e1:=Ux css i cs hc
  have e2:Bk (css.take i)=x.2.1:=by
   have ho:=rC hrow i (x.2.1,P.cellsOf x.1) (by simp only [zA0,hx,Option.map_some]);simp only [Nat.zero_add] at ho;rw [ho];unfold Bk;congr 1;rw [List.map_take,List.map_take,List.map_map];apply List.ext_getElem?;intro k;simp only [zA4,zA0];split
   ·have hk:k<css.length:=by omega
    have hk2:k<items.length:=by omega
    have a1:css[k]?=some css[k]:=xW hk;have a2:items[k]?=some items[k]:=xW hk2;rw [a1,a2];simp only [Option.map_some,Function.comp];rw [hlen k _ _ a2 a1]
   ·rfl
  rw [e2,hlen i x cs hx hc] at e1;rw [e1];exact (key i x cs hx hc).2.1
theorem cells?_get {a:Addr} {n:Nat} {cs:List Value} (h:w.cells? 0 a n=some cs):cs.length=n∧∀ (j:Nat) v,cs[j]?=some v→w.cell? (a.add j)=some v:=by
 unfold World.cells? at h;rw [if_pos (zA8 _)] at h;have hl:=mapM_some_length h;simp only [List.length_range] at hl;refine ⟨hl,fun j v hv=>?_⟩;have hj:j<n:=by rw [←hl];exact (zP.1 hv).1
 have:=mapM_some_get h j j (by simp [hj])
 rw [this];exact hv
theorem aC3 {b o:Nat} {sp:Option Nat} {v:Value} (h:w.cell? ⟨b,o,sp⟩=some v):sp=none:=by
 unfold World.cell? at h;split at h
 ·split at h
  ·simp at h
  ·rename_i hs;simpa using hs
 ·simp at h
theorem aQ0 {a:Addr} {x y:Nat} {v:Value} (h:w.cell? ((a.add x).add y)=some v):w.cell? ⟨a.block,a.off+(x+y),none⟩=some v:=by
 obtain ⟨b,o,s⟩:=a;by_cases hx:x=0<;>by_cases hy:y=0<;>simp only [Addr.add,hx,hy,if_true,if_false] at h ⊢
 ·have:=aC3 h
  subst this;simpa using h
 ·simpa using h
 ·simpa using h
 ·simpa [Nat.add_assoc] using h
theorem rN:∀ n,pB enc P w n
  | 0=>fun fuel t vs x L hp=>by simp [X1] at hp
  | n+1=>by
    have ih:=rN n;intro fuel t vs x L hp hL hd;unfold X1 at hp;unfold T3;split at hp
    · rename_i hu;cases fuel with
      | zero => simp [Rd, DataW.trod] at hd
      | succ fuel=>
        simp only [Rd] at hd;unfold DataW.trod at hd;rw [hu] at hd;split at hd<;>first | (simp_all;done) | skip;rename_i b _;simp only [zN] at hd;subst hd;refine ⟨[],[.bool b],by simpa using hL,?_,⟨b,rfl,rfl⟩,by simp [J0,E8]⟩;simp only [VRs,VR];exact ⟨_,_,rfl,rfl,rfl⟩
    · rename_i k hu;obtain ⟨i,rfl,rfl,hw⟩:=DataW.trod_int hu hd;refine ⟨[],[.int k i],by simpa using hL,?_,?_,by simp [J0,E8]⟩
      · simp only [VRs,VR];exact ⟨_,_,rfl,rfl,rfl⟩
      · exact ⟨i,rfl,hw,rfl⟩
    · rename_i hu;obtain ⟨s,rfl,rfl,hw⟩:=DataW.trod_string hu hd;refine ⟨[],[.str s.data.toList],by simpa using hL,?_,?_,by simp [J0,E8]⟩
      · simp only [VRs,VR];exact ⟨_,_,rfl,by simp,rfl⟩
      · exact ⟨_,rfl,by rw [Array.length_toList];exact hw,rfl⟩
    · rename_i e hu;simp only [zO,qC] at hp;rcases DataW.trod_slice hu hd with ⟨rfl,rfl⟩ | ⟨a,len,cap,elems,rest,m,rfl,rfl,rfl,hb,hl,hm,hlen,hel,hsp,hns⟩
      · refine ⟨[],[.nils],by simpa using hL,?_,?_,by simp [J0,E8]⟩
        · simp only [VRs,VR];exact ⟨_,_,rfl,rfl,rfl⟩
        · exact .inl ⟨rfl,rfl⟩
      · -- the elements
        have hcell:∀ i,i<len→∃ cs y,w.cells? 0 (a.add (i*P.cellsOf e)) (P.cellsOf e)=some cs∧Rd enc P w m e cs=some y∧elems[i]?=some y:=fun i hi=>by
          have h1:=hel i hi
          have:i<elems.length:=by omega
          rw [xW this] at h1;obtain ⟨cs,h2,h3⟩:=Option.bind_eq_some_iff.1 h1;exact ⟨cs,_,h2,h3,xW this⟩
        let vsAt:Nat→List Value:=fun i=>(w.cells? 0 (a.add (i*P.cellsOf e)) (P.cellsOf e)).getD []
        obtain ⟨M,css,h1,h2,h3⟩:=Tx ih ((List.range len).map fun i=>(e,vsAt i,((elems[i]?).map (·.1)).getD .nil)) L (by
          intro j hj;simp only [List.mem_map,List.mem_range] at hj;obtain ⟨i,hi,rfl⟩:=hj;obtain ⟨cs,y,q1,q2,q3⟩:=hcell i hi;refine ⟨hp.2,m,y.2,?_⟩;simp only [vsAt,q1,q3,Option.getD_some,Option.map_some]
          exact q2) hL
        simp only [List.length_map,List.length_range] at h2
        have key:∀ (i:Nat) cs,i<len→css[i]?=some cs→VRs ⟨[],Ng w (L++M),[]⟩ cs (vsAt i)∧T3 P (L++M) n e cs (((elems[i]?).map (·.1)).getD .nil)∧J0 cs=true:=fun i cs hi hc=>
          h3 i _ cs (by rw [zA0,List.getElem?_range hi];rfl) hc
        have vlen:∀ i,i<len→(vsAt i).length=P.cellsOf e:=fun i hi=>by
          obtain ⟨cs,y,q1,_,_⟩:=hcell i hi;simp only [vsAt,q1,Option.getD_some];exact (cells?_get q1).1
        have clen:∀ (i:Nat) cs,css[i]?=some cs→cs.length=P.cellsOf e:=fun i cs hc=>by
          have hi:i<len:=by rw [←h2];exact (zP.1 hc).1
          rw [← E6         (key i cs hi hc).1, vlen i hi]
        have hsum:∀ (i:Nat),i≤css.length→Bk (css.take i)=i*P.cellsOf e:=by
          intro i
          induction i with
          | zero=>intro _;simp [Bk]
          | succ i ihi=>
            intro hi;have hil:i<css.length:=by omega
            have:css.take (i+1)=css.take i++[css[i]]:=by simp
            rw [this];have e1:Bk (css.take i++[css[i]])=Bk (css.take i)+css[i].length:=by unfold Bk;rw [List.map_append,List.sum_append];simp only [List.map_cons,List.map_nil,List.sum_cons,List.sum_nil,Nat.add_zero]
            rw [e1,ihi (by omega),clen i _ (xW hil),Nat.add_mul,Nat.one_mul]
        have flen:css.flatten.length=len*P.cellsOf e:=by
          have:=hsum css.length (zA7 _)
          rw [List.take_length,h2] at this;rw [List.length_flatten];exact this
        let en:RoE:=⟨a.block,a.off,css.flatten⟩
        have hvf:VRs ⟨[],Ng w (L++M),[]⟩ css.flatten ((List.range len).map vsAt).flatten:=Zm (by simp [h2]) fun i cs v hc hv=>by
          have hi:i<len:=by rw [←h2];exact (zP.1 hc).1
          rw [zA0,List.getElem?_range hi] at hv;simp at hv;subst hv;exact (key i cs hi hc).1
        have hcells:∀ (vss:List (List Value)) (k:Nat),(∀ (i:Nat) vs,vss[i]?=some vs→vs.length=P.cellsOf e∧∀ (r:Nat) v,vs[r]?=some v→w.cell? ⟨a.block,a.off+(k+(i*P.cellsOf e+r)),none⟩=some v)→
            ∀ (j:Nat) v,vss.flatten[j]?=some v→w.cell? ⟨a.block,a.off+(k+j),none⟩=some v:=by
          intro vss
          induction vss with
          | nil=>intro k _ j v hv;simp at hv
          | cons vs vss ihv=>
            intro k hk j v hv;obtain ⟨hl0,hr0⟩:=hk 0 vs rfl;simp only [List.flatten_cons] at hv;by_cases hj:j<vs.length
            · rw [pY hj] at hv
              have:=hr0 j v hv
              simpa using this
            · rw [qP (by omega)] at hv
              have:=ihv (k+P.cellsOf e) (fun i vs' hvs=>by
                obtain ⟨g1,g2⟩:=hk (i+1) vs' (by simpa using hvs);refine ⟨g1,fun r v hr=>?_⟩
                have:=g2 r v hr
                rw [Nat.add_mul,Nat.one_mul] at this;rw [show k+P.cellsOf e+(i*P.cellsOf e+r)=k+(i*P.cellsOf e+P.cellsOf e+r) by omega]
                exact this) _ v hv
              rw [show k+P.cellsOf e+(j - vs.length)=k+j by omega] at this;exact this
        have hmem:=hcells ((List.range len).map vsAt) 0 (fun i vs hvs=>by
          have hi:i<len:=by have:=(zP.1 hvs).1;simpa using this
          rw [zA0,List.getElem?_range hi] at hvs;simp at hvs;subst hvs;refine ⟨vlen i hi,fun r v hr=>?_⟩;obtain ⟨cs,y,q1,_,_⟩:=hcell i hi;simp only [vsAt,q1,Option.getD_some] at hr;rw [Nat.zero_add]
          exact aQ0 ((cells?_get q1).2 r v hr))
        have hL':He w (L++M++[en]):=by
          intro k e' hk j v hv;by_cases hkl:k<(L++M).length
          · rw [pY hkl] at hk;obtain ⟨g0,cv,g1,g2⟩:=h1 k e' hk j v hv;exact ⟨g0,cv,g1,kL (Iw _ _ _) _ _ g2⟩
          · rw [qP (by omega)] at hk
            have:e'=en:=by
              cases hkk:k - (L++M).length with
              | zero=>rw [hkk] at hk;simp at hk;exact hk.symm
              | succ q=>rw [hkk] at hk;simp at hk
            subst this;obtain ⟨cv,g1,g2⟩:=U0 hvf j v hv
            have hnw:J0 css.flatten=true:=bO fun cs hcs=>by
              obtain ⟨i,hi⟩:=List.getElem?_of_mem hcs;exact (key i cs (by rw [←h2];exact (zP.1 hi).1) hi).2.2
            rw [Rg,qD] at hnw;refine ⟨hnw v (zA1 hv),cv,?_,kL (Iw _ _ _) _ _ g2⟩
            have:=hmem j cv g1
            simpa using this
        refine ⟨M++[en],[.slice false (.ro (L++M).length) 0 len],by rw [←List.append_assoc];exact hL',?_,?_,by simp [J0,E8]⟩
        · simp only [VRs,VR];refine ⟨_,_,rfl,⟨some a,cap,rfl,hl,?_⟩,rfl⟩;by_cases hc0:cap=0
          · exact .inr (.inl ⟨⟨a,rfl⟩,hc0⟩)
          · refine .inr (.inr ?_)
            have hspot:∃ v,w.cell? a=some v:=by
              have pos:=hp.1;by_cases hl0:len=0
              · obtain ⟨hr1,hr2⟩:=hsp rfl;have h0:=hr2 0 (by omega);have hr0:0<rest.length:=by omega
                rw [xW hr0] at h0;obtain ⟨cs,q1,_⟩:=Option.bind_eq_some_iff.1 h0;obtain ⟨g1,g2⟩:=cells?_get q1;have hcs:0<cs.length:=by omega
                have:=g2 0 cs[0] (xW hcs)
                refine ⟨cs[0],?_⟩;simpa [hl0,Addr.add] using this
              · obtain ⟨cs,y,q1,_,_⟩:=hcell 0 (by omega);obtain ⟨g1,g2⟩:=cells?_get q1;have hcs:0<cs.length:=by omega
                have:=g2 0 cs[0] (xW hcs)
                refine ⟨cs[0],?_⟩;simpa [Addr.add] using this
            obtain ⟨v,hv⟩:=hspot
            have hs:a.spot=none:=by
              unfold World.cell? at hv;split at hv
              · split at hv
                · simp at hv
                · rename_i hs;simpa using hs
              · simp at hv
            have hlt:a.block<w.heap.size:=by
              unfold World.cell? at hv;split at hv
              · rename_i hc;exact (Array.getElem?_eq_some_iff.1 hc).1
              · simp at hv
            refine ⟨a.block,a.off,⟨hlt,en,by rw [←List.append_assoc];simp,rfl,rfl⟩,?_⟩;obtain ⟨ab,ao,as⟩:=a;simp only at hs;subst hs;rfl
        · refine .inr ⟨(L++M).length,elems.map (·.1),rest.map (·.1),en,by simp [hlen],rfl,by rw [←List.append_assoc];simp,?_,?_,fun i x hx=>?_⟩
          · show css.flatten.length=_;rw [flen];simp [hlen]
          · have:=(hsp rfl).1
            simp;omega
          · have hi:i<len:=by have:=(zP.1 hx).1;simpa [hlen] using this
            have hil:i<css.length:=by omega
            have hc:css[i]?=some css[i]:=xW hil;have e1:=Ux css i _ hc;rw [hsum i (by omega),clen i _ hc] at e1;show T3 P _ n e ((css.flatten.drop (i*P.cellsOf e)).take (P.cellsOf e)) x;rw [e1,←List.append_assoc];refine T3.mono [en] ?_
            have:=(key i _ hi hc).2.1
            rw [zA0] at hx;obtain ⟨y,q1,q2⟩:=Option.map_eq_some_iff.1 hx;rw [q1] at this;simp only [Option.map_some,Option.getD_some] at this;rw [q2] at this;exact this
    · rename_i fs hu;simp only [zO,qD] at hp;obtain ⟨xs,m,rfl,rfl,hl,hlen,hf⟩:=DataW.trod_struct hu hd
      have hget:∀ (i:Nat) f,fs[i]?=some f→∃ y,xs[i]?=some y∧Rd enc P w m f.type ((vs.drop f.offset).take (P.cellsOf f.type))=some y:=fun i f h=>by
        have hi:i<xs.length:=by rw [hlen];exact (Array.getElem?_eq_some_iff.1 h).1
        refine ⟨xs[i],xW hi,?_⟩;rw [←xW hi];exact hf i f h
      let items:List (TypeId×Nat×DataW H):=(List.range fs.size).map fun i=>(((fs[i]?).map (·.type)).getD 0,((fs[i]?).map (·.offset)).getD 0,((xs[i]?).map (·.1)).getD .nil)
      have hitem:∀ (i:Nat) f y,fs[i]?=some f→xs[i]?=some y→items[i]?=some (f.type,f.offset,y.1):=fun i f y h1 h2=>by
        have hi:i<fs.size:=(Array.getElem?_eq_some_iff.1 h1).1;simp only [items,zA0,List.getElem?_range hi,Option.map_some,h1,h2,Option.getD_some]
      have hrow:S7 0 (items.map fun x=>(x.2.1,P.cellsOf x.1)) (P.cellsOf t)=true:=by
        have:(items.map fun x=>(x.2.1,P.cellsOf x.1))=fs.toList.map fun f=>(f.offset,P.cellsOf f.type):=by
          apply List.ext_getElem?;intro i;simp only [zA0];by_cases hi:i<fs.size
          · have h1:fs[i]?=some fs[i]:=Array.getElem?_eq_getElem hi;obtain ⟨y,h2,_⟩:=hget i _ h1;rw [hitem i _ y h1 h2];simp [hi]
          · have:items.length=fs.size:=by simp [items]
            rw [zA3 (by omega),zA3 (by simp;omega)];rfl
        rw [this];exact hp.1
      obtain ⟨M,cs,h1,h2,hnw,h3⟩:=mO ih hl items hrow L (fun x hx=>by
        obtain ⟨i,hi⟩:=List.getElem?_of_mem hx;have hil:i<fs.size:=by have:=(zP.1 hi).1;simpa [items] using this
        have q1:fs[i]?=some fs[i]:=Array.getElem?_eq_getElem hil;obtain ⟨y,q2,q3⟩:=hget i _ q1;rw [hitem i _ y q1 q2] at hi;simp at hi;subst hi
        exact ⟨hp.2 _ (by simp),m,y.2,q3⟩) hL
      refine ⟨M,cs,h1,h2,?_,hnw⟩;refine ⟨by rw [←E6 h2,hl],xs.map (·.1),rfl,by simp [hlen],fun i f x hi hx=>?_⟩;rw [zA0] at hx;obtain ⟨y,q1,q2⟩:=Option.map_eq_some_iff.1 hx
      have:=h3 i _ (hitem i f y hi q1)
      rw [q2] at this;exact this
    · rename_i k e hu;simp only [zO,beq_iff_eq] at hp;obtain ⟨xs,m,rfl,rfl,hl,hlen,hf⟩:=DataW.trod_array hu hd
      let items:List (TypeId×Nat×DataW H):=(List.range k).map fun i=>(e,i*P.cellsOf e,((xs[i]?).map (·.1)).getD .nil)
      have hitem:∀ (i:Nat) y,xs[i]?=some y→items[i]?=some (e,i*P.cellsOf e,y.1):=fun i y h2=>by
        have hi:i<k:=by rw [←hlen];exact (zP.1 h2).1
        simp only [items,zA0,List.getElem?_range hi,Option.map_some,h2,Option.getD_some]
      have hrow:S7 0 (items.map fun x=>(x.2.1,P.cellsOf x.1)) (P.cellsOf t)=true:=by
        have:=Xz (P.cellsOf e) k 0
        rw [Nat.zero_mul,Nat.zero_add,hp.1] at this;simp only [items,List.map_map,List.range_eq_range'];exact this
      obtain ⟨M,cs,h1,h2,hnw,h3⟩:=mO ih hl items hrow L (fun x hx=>by
        obtain ⟨i,hi⟩:=List.getElem?_of_mem hx;have hil:i<k:=by have:=(zP.1 hi).1;simpa [items] using this
        have q2:xs[i]?=some xs[i]:=xW (by omega);rw [hitem i _ q2] at hi;simp at hi;subst hi;refine ⟨hp.2,m,(xs[i]).2,?_⟩
        have:=hf i hil
        rw [q2] at this
        exact this) hL
      refine ⟨M,cs,h1,h2,?_,hnw⟩;refine ⟨by rw [←E6 h2,hl],xs.map (·.1),rfl,by simp [hlen],fun i x hx=>?_⟩;rw [zA0] at hx;obtain ⟨y,q1,q2⟩:=Option.map_eq_some_iff.1 hx
      have:=h3 i _ (hitem i y q1)
      rw [q2] at this;exact this
    · simp at hp
end
def T1 (cs:List AV) (off n:Nat):List Int:=(List.range n).map fun j=>A2 cs (off+j)
def Dx (k:IntKind) (cs:List AV) (off n:Nat):Bool:=(List.range n).all fun j=>isI k cs (off+j)
theorem Lg {k:IntKind} {cs:List AV} {off n j:Nat} (h:Dx k cs off n=true) (hj:j<n):isI k cs (off+j)=true:=by
 simp only [Dx,qD,List.mem_range] at h;exact h j hj
theorem mQ {k:IntKind} {cs:List AV} {off n:Nat} (h:∀ j,j<n→isI k cs (off+j)=true):Dx k cs off n=true:=by
 simp only [Dx,qD,List.mem_range];exact h
theorem iI (cs:List AV) (off n:Nat):T1 cs off (n+1)=T1 cs off n++[A2 cs (off+n)]:=by simp [T1,List.range_succ]
theorem iH (cs:List AV) (off:Nat):T1 cs off 0=[]:=rfl
theorem In {c:Bool} {K:Prop}:chk c K↔c=true∧K:=by cases c<;>simp [chk]
theorem Wb {c:Bool} {A B:Prop}:tst c A B↔(c=true→A)∧(c=false→B):=by cases c<;>simp [tst]
theorem xF {c:Bool} {A B:Prop} (h:c=true→A) (k:c=false→B):tst c A B:=Wb.2 ⟨h,k⟩
theorem B5 {n:Int} (h:-9223372036854775808≤n∧n≤9223372036854775807):IntKind.i64.wrap n=n:=IntWalk.i64_in n h
def vK (v:AV):Bool:=B0 0 v&&M1 v
mutual
theorem Uy:∀ v,B0 0 v=true→E8 v=true
 | .undef,_=>by simp [E8]
 | .bool _,_=>by simp [E8]
 | .int _ _,_=>by simp [E8]
 | .str _,_=>by simp [E8]
 | .nilp,_=>by simp [E8]
 | .nils,_=>by simp [E8]
 | .nilf,_=>by simp [E8]
 | .ptr (.rw _) _,h=>by simp [B0] at h
 | .ptr (.ro _) _,_=>by simp [E8]
 | .slice _ (.rw _) _ _,h=>by simp [B0] at h
 | .slice _ (.ro _) _ _,_=>by simp [E8]
 | .func _ c,h=>by simp only [B0] at h;simp only [E8];exact Du c h
 | .agg c,h=>by simp only [B0] at h;simp only [E8];exact Du c h
 | .tup c,h=>by simp only [B0] at h;simp only [E8];exact Du c h
 | .yld _,h=>by simp [B0] at h
 | .rcd ..,_=>by simp [E8]
theorem Du:∀ l,A6 0 l=true→J0 l=true
 | [],_=>by simp [J0]
 | x::xs,h=>by simp only [A6,zO] at h;simp only [J0,zO];exact ⟨Uy x h.1,Du xs h.2⟩
end
def sig1 (r:Ref) (o:Nat):Sig:=fun _=>(r,o)
def G1 (cs:List AV):Nat→List AV:=fun k=>match k with | 0=>cs | _=>[]
theorem sees1 {C:A1} {H:Hp} {r:Ref} {cs:List AV} (hc:E5 C H r=some cs) (off n:Nat) (hf:((cs.drop off).take n).all vK=true):Sees C H (sig1 r off) (G1 ((cs.drop off).take n)):=by
 intro k;cases k with
 | succ k=>exact .inl rfl
 | zero=>
  refine .inr ⟨cs,hc,fun j v hv=>?_⟩;have hm:v∈(cs.drop off).take n:=zA1 hv
  have:=qD.1 hf v hm
  simp only [vK,zO] at this;refine ⟨Uy v this.1,?_⟩;rw [Wi v this.2];simp only [G1,zA4,List.getElem?_drop] at hv;split at hv
  ·exact hv
  ·simp at hv
theorem aA1 (cs:List AV) (off n:Nat):T1 ((cs.drop off).take n) 0 n=T1 cs off n:=by
 unfold T1;apply List.map_congr_left;intro j hj
 have:=List.mem_range.1 hj
 simp only [A2,Nat.zero_add,zA4,this,if_true,List.getElem?_drop]
theorem aL6 {k:IntKind} {cs:List AV} {off n:Nat} (h:Dx k cs off n=true):Dx k ((cs.drop off).take n) 0 n=true:=by
 refine mQ fun j hj=>?_
 have:=Lg h hj
 simp only [isI,Nat.zero_add,zA4,hj,if_true,List.getElem?_drop] at this ⊢;exact this
theorem aL7 {k:IntKind} {cs:List AV} {off n:Nat} (h:Dx k cs off n=true):((cs.drop off).take n).all vK=true:=by
 rw [qD];intro v hv;obtain ⟨j,hj⟩:=List.getElem?_of_mem hv;simp only [zA4,List.getElem?_drop] at hj;split at hj
 ·rename_i hjn
  have:=Lg h hjn
  simp only [isI,hj] at this;split at this
  ·rename_i e;simp at e;subst e;simp [vK,B0,M1]
  ·simp at this
 ·simp at hj
theorem Uz {C:A1} {f:FuncId} {args:List AV} {v0:AV} (hf:B0 0 v0=true∧M1 v0=true) (ha:J0 args=true∧N1 args=true) (h:∀ G B,ACalls ⟨C.P,G,B⟩ f args [] fun v _=>v=v0) (H:Hp):ACalls C f args H fun v H'=>v=v0∧H'=H:=by
 have e:args=sbs (fun _=>(.rw 0,0)) 0 args:=(Ma args ha.2).symm;exact Pl (σ:=fun _=>(.rw 0,0)) (G:=fun _=>[]) (fun k=>.inl rfl) (fun B=>h _ B) ha.1 e (fun v hv=>by subst hv;exact hf)
theorem Sx:∀ {a b:List AV},wk a b→a.length=b.length
 | [],[],_=>rfl
 | [],_::_,h=>by simp [wk] at h
 | x::a,[],h=>by cases x<;>simp [wk] at h
 | x::a,y::b,h=>by
  have:wk a b:=by cases x<;>simp only [wk] at h<;>first | exact h | exact h.2
  simp [Sx this]
def Vm (θ:List Nat) (H':Hp) (n:Nat):List Nat→Hp→Prop
 | [],[]=>True
 | j::js,none::H=>j<H'.length∧Vm θ H' n js H
 | j::js,some b::H=>(A6 n b.cells=true∧H'[j]?=some (some ⟨b.esz,rens θ b.cells⟩))∧Vm θ H' n js H
 | _,_=>False
theorem Sd {θ:List Nat} {H':Hp} {n:Nat}:∀ {js:List Nat} {H:Hp},Vm θ H' n js H→js.length=H.length
 | [],[],_=>rfl
 | [],_::_,h=>h.elim
 | _::_,[],h=>by simp [Vm] at h
 | j::js,none::H,h=>by simp [Sd h.2]
 | j::js,some b::H,h=>by simp [Sd h.2]
theorem Se {θ:List Nat} {H':Hp} {n:Nat}:∀ {js:List Nat} {H:Hp},Vm θ H' n js H→∀ (i:Nat),i<js.length→js.getD i 0<H'.length∧∀ b,H[i]?=some (some b)→A6 n b.cells=true∧H'[js.getD i 0]?=some (some ⟨b.esz,rens θ b.cells⟩)
 | [],[],_,i,hi=>by simp at hi
 | [],_::_,h,_,_=>h.elim
 | _::_,[],h,_,_=>by simp [Vm] at h
 | j::js,none::H,h,i,hi=>by
  cases i with
  | zero=>exact ⟨h.1,fun b hb=>by simp at hb⟩
  | succ i=>simpa using Se h.2 i (by simpa using hi)
 | j::js,some b::H,h,i,hi=>by
  cases i with
  | zero=>exact ⟨(zP.1 h.1.2).1,fun b' hb=>by simp at hb;subst hb;exact h.1⟩
  | succ i=>simpa using Se h.2 i (by simpa using hi)
theorem C5.ren {θ:List Nat} {F F':Fr} {H H':Hp} (hnd:θ.Nodup) (hb:Vm θ H' H.length θ H) (hF:A6 H.length F=true) (hF':wk (rens θ F) F'):C5 0 F H F' H':=by
 have hl:=Sd hb;have hg:=Se hb;refine ⟨θ,hl,zA8 _,fun i hi=>by omega,fun i hi=>(hg i hi).1,fun i j b b' h1 h2 he=>?_,fun i b h=>?_,by rw [←Sx hF',I9];simp,fun k v hk=>?_⟩
 ·have hi:i<θ.length:=by rw [hl];exact (zP.1 h1).1
  have hj:j<θ.length:=by rw [hl];exact (zP.1 h2).1
  simp only [List.getD,xW hi,xW hj,Option.getD_some] at he;exact (List.getElem_inj hnd).1 he
 ·have hi:i<θ.length:=by rw [hl];exact (zP.1 h).1
  obtain ⟨g1,g2⟩:=(hg i hi).2 b h;refine ⟨_,g2,by rw [I9];simp,rfl,fun k v hk=>?_,fun _=>⟨by rw [I9];simp,by rw [I9];simp⟩⟩;rw [O1,qD] at g1;refine ⟨by rw [hl];exact g1 v (zA1 hk),.inr ?_⟩;rw [I9];simp [hk]
 ·rw [O1,qD] at hF;refine ⟨by rw [hl];exact hF v (zA1 hk),?_⟩;rcases Sy hF' k (Go.Am.C2 θ v) (by rw [I9];simp [hk]) with h | h
  ·left;cases v with
   | undef=>rfl
   | ptr r o=>cases r<;>simp [Go.Am.C2] at h
   | slice m r o n=>cases r<;>simp [Go.Am.C2] at h
   | _=>simp [Go.Am.C2] at h
  ·exact .inr h
abbrev Sum1:=List AV→Hp→Option (Bool×AV×List Hop)
def sums:List (FuncId×Sum1)→Sums
 | [],_,_,_=>none
 | (g,s)::l,f,args,H=>match Nat.beq f g with
  | true=>s args H
  | false=>sums l f args H
def Xu (C:A1) (f:FuncId) (s:Sum1):Prop:=∀ args H v hs,s args H=some (true,v,hs)→ACalls C f args H fun v' H'=>v'=v∧H'=acts H hs
theorem Yo (C:A1):El C (sums []):=fun _ _ _ _ _ h=>by simp [sums] at h
theorem Tg {C:A1} {g:FuncId} {s:Sum1} {l:List (FuncId×Sum1)} (h1:Xu C g s) (h2:El C (sums l)):El C (sums ((g,s)::l)):=by
 intro f args H v hs h;simp only [sums] at h;split at h
 ·rename_i hf;rw [rG hf];exact h1 args H v hs h
 ·exact h2 f args H v hs h
def Vw (C:A1) (c:Code) (l:Loops):Prop:=∀ F H e F' H',l c F H=some (true,e,F',H')→AWp C 0 (.loop c) F H fun e' F'' H''=>e'=e∧F''=F'∧H''=H'
theorem P7.nil {C:A1} {l:Loops}:P7 C [] l:=fun c F H e F' H' h=>by simp at h
theorem P7.cons {C:A1} {c:Code} {cs:List Code} {l:Loops} (h1:Vw C c l) (h2:P7 C cs l):P7 C (c::cs) l:=by
 intro c' F H e F' H' h h';rcases List.mem_cons.1 h with rfl | h
 ·exact h1 F H e F' H' h'
 ·exact h2 c' F H e F' H' h h'
theorem P7.cast {C:A1} {cs ds:List Code} {l:Loops} (h:P7 C ds l) (e:cs=ds):P7 C cs l:=by rw [e];exact h
theorem uZ {C:A1} {c:Code} {N:Nat} {live:List Nat} {S:List AV→Hp→Option (Bool×Ex×List AV×Hp)}
  (hS:∀ vs H e vs' H',S vs H=some (true,e,vs',H')→AWp C 0 (.loop c) (fl N live vs) H (lv N live fun e' vs'' H''=>e'=e∧wk vs' vs''∧H''=H')):Vw C c (fun _ F H=>Ug N live S F H):=
 fun _ _ _ _ _ h=>bG hS h
def Hg {H:Type} (P:Program) (L:List RoE) (n:Nat) (t:TypeId) (a:AV) (d:DataW H):Prop:=
 match P.underlying t with
 | some (.struct _)=>∃ cs,a=.agg cs∧T3 P L n t cs d
 | some (.array _ _)=>∃ cs,a=.agg cs∧T3 P L n t cs d
 | _=>T3 P L n t [a] d
def Je {H:Type} (P:Program) (L:List RoE) (n:Nat):List TypeId→List AV→List (DataW H)→Prop
 | [],[],[]=>True
 | t::ts,a::as,d::ds=>Hg P L n t a d∧Je P L n ts as ds
 | _,_,_=>False
theorem Hg.mono {H:Type} {P:Program} {L:List RoE} (M:List RoE) {n:Nat} {t:TypeId} {a:AV} {d:DataW H} (h:Hg P L n t a d):Hg P (L++M) n t a d:=by
 unfold Hg at h ⊢;split at h
 ·obtain ⟨cs,h1,h2⟩:=h;exact ⟨cs,h1,h2.mono M⟩
 ·obtain ⟨cs,h1,h2⟩:=h;exact ⟨cs,h1,h2.mono M⟩
 ·exact T3.mono M h
section
variable {H:Type} {enc:TypeId×Value→H} {P:Program} {w:World}
theorem aL4 {n:Nat} {t:TypeId} {d:DataW H} {L:List RoE} {cs:List AV} (h:T3 P L n t cs d) (hs:∀ fs,P.underlying t≠some (.struct fs)) (ha:∀ m e,P.underlying t≠some (.array m e)):∃ a,cs=[a]:=by
 cases n with
 | zero=>exact h.elim
 | succ n=>
  unfold T3 at h;split at h
  ·obtain ⟨b,h,_⟩:=h;exact ⟨_,h⟩
  ·obtain ⟨b,h,_⟩:=h;exact ⟨_,h⟩
  ·obtain ⟨b,h,_⟩:=h;exact ⟨_,h⟩
  ·rcases h with ⟨h,_⟩ | ⟨_,_,_,_,h,_⟩
   ·exact ⟨_,h⟩
   ·exact ⟨_,h⟩
  ·rename_i hu;exact absurd hu (hs _)
  ·rename_i hu;exact absurd hu (ha _ _)
  ·exact h.elim
theorem wE {t:TypeId} {v:Value} {r:Reach} {b0 n:Nat} (hp:X1 P n t=true) (hval:Value.okWide P w r b0 t v) (hs:∀ fs,P.underlying t≠some (.struct fs)) (ha:∀ m e,P.underlying t≠some (.array m e)):v.cells.toList=[v]:=by
 cases n with
 | zero=>simp [X1] at hp
 | succ n=>
  unfold X1 at hp;unfold Value.okWide at hval;split at hp
  all_goals first
   | (rename_i hu;rw [hu] at hval;simp only [Cell.okWide,hu,Cell.ok] at hval;cases v<;>first | (simp at hval;done) | rfl)
   | (rename_i hu;exact absurd hu (hs _))
   | (rename_i hu;exact absurd hu (ha _ _))
   | simp at hp
theorem aL3 {n:Nat} {t:TypeId} {v:Value} {r:Reach} {b0:Nat} {d:DataW H} {ps:List MemPlace} (L:List RoE) (hp:X1 P n t=true) (hval:Value.okWide P w r b0 t v) (hL:He w L) (hd:DataW.Trod enc P w 0 (fun _=>true) true t v d ps) :
  ∃ M a,He w (L++M)∧VR ⟨[],Ng w (L++M),[]⟩ a v∧Hg P (L++M) n t a d:=by
 obtain ⟨fuel,hd⟩:=hd;obtain ⟨M,cs,h1,h2,h3,_⟩:=rN n fuel t _ _ L hp hL hd
 have agg:∀ ca,v=.agg ca→VR ⟨[],Ng w (L++M),[]⟩ (.agg cs) v:=fun ca hca=>by
  subst hca;simp only [VR];exact ⟨ca,rfl,by simpa [Value.cells] using h2⟩
 by_cases hs:∃ fs,P.underlying t=some (.struct fs)
 ·obtain ⟨fs,hu⟩:=hs;unfold Value.okWide at hval;rw [hu] at hval;obtain ⟨ca,hca,_⟩:=hval;refine ⟨M,.agg cs,h1,agg ca hca,?_⟩;unfold Hg;rw [hu];exact ⟨cs,rfl,h3⟩
 by_cases ha:∃ m e,P.underlying t=some (.array m e)
 ·obtain ⟨m,e,hu⟩:=ha;unfold Value.okWide at hval;rw [hu] at hval;obtain ⟨ca,hca,_⟩:=hval;refine ⟨M,.agg cs,h1,agg ca hca,?_⟩;unfold Hg;rw [hu];exact ⟨cs,rfl,h3⟩
 have hs':∀ fs,P.underlying t≠some (.struct fs):=fun fs h=>hs ⟨fs,h⟩;have ha':∀ m e,P.underlying t≠some (.array m e):=fun m e h=>ha ⟨m,e,h⟩;obtain ⟨a,rfl⟩:=aL4 h3 hs' ha';rw [wE hp hval hs' ha'] at h2;simp only [VRs] at h2;obtain ⟨x,xs,e,g1,g2⟩:=h2;simp at e;obtain ⟨rfl,_⟩:=e;refine ⟨M,a,h1,g1,?_⟩;unfold Hg;split
 ·rename_i hu;exact absurd hu (hs' _)
 ·rename_i hu;exact absurd hu (ha' _ _)
 ·exact h3
theorem hU {n:Nat} {r:Reach} {b0:Nat}:∀ (ts:List TypeId) (vs:List Value) (ds:List (DataW H)) (ps:List MemPlace) (L:List RoE),(∀ t∈ts,X1 P n t=true)→(∀ (j:Nat) t v,ts[j]?=some t→vs[j]?=some v→Value.okWide P w r b0 t v)→
  He w L→DataW.TrodAll enc P w 0 (fun _=>true) true ts vs ds ps→∃ M as,He w (L++M)∧VRs ⟨[],Ng w (L++M),[]⟩ as vs∧Je P (L++M) n ts as ds
 | [],vs,ds,ps,L,_,_,hL,h=>by
  obtain ⟨rfl,rfl,rfl⟩:=trodAll_nil h;exact ⟨[],[],by simpa using hL,by simp [VRs],trivial⟩
 | t::ts,vs,ds,ps,L,hp,hv,hL,h=>by
  obtain ⟨v,vs,d,ds,p,q,rfl,rfl,rfl,h1,h2⟩:=trodAll_cons h;obtain ⟨M,a,g1,g2,g3⟩:=aL3 L (hp t (by simp)) (hv 0 t v rfl rfl) hL h1;obtain ⟨M',as,q1,q2,q3⟩:=hU ts vs ds q (L++M) (fun x hx=>hp x (by simp [hx])) (fun j x y hx hy=>hv (j+1) x y (by simpa using hx) (by simpa using hy)) g1 h2;refine ⟨M++M',a::as,by rw [←List.append_assoc];exact q1,?_,?_⟩
  ·rw [←List.append_assoc];simp only [VRs];exact ⟨v,vs,rfl,kL (Iw _ _ _) _ _ g2,q2⟩
  ·rw [←List.append_assoc];exact ⟨g3.mono M',q3⟩
theorem aE (hl:laidOutB P=true) {W W':World} (hb:Below W.heap.size W W') {sp:Nat→Bool}:∀ (ts:List TypeId) (vs:List Value) (ds:List (DataW H)) (ps:List MemPlace),(∀ t∈ts,P.readableRec t=true∧t<P.types.size)→(∀ p∈ps,p.block<W.heap.size∧sp p.block=true)→
  DataW.TrodAll enc P W 0 (fun _=>true) true ts vs ds ps→DataW.TrodAll enc P W' 0 sp true ts vs ds ps
 | [],vs,ds,ps,_,_,h=>by
  obtain ⟨rfl,rfl,rfl⟩:=trodAll_nil h;exact trodAll_mk0
 | t::ts,vs,ds,ps,hp,hq,h=>by
  obtain ⟨v,vs,d,ds,p,q,rfl,rfl,rfl,h1,h2⟩:=trodAll_cons h;obtain ⟨r1,r2⟩:=hp t (by simp);refine trodAll_cons_mk (WideElems.Trod_stays hl r1 r2 h1 (fun x hx=>hb.same (hq x (by simp [hx])).1) fun x hx=>(hq x (by simp [hx])).2) ?_;exact aE hl hb ts vs ds q (fun x hx=>hp x (by simp [hx])) (fun x hx=>hq x (by simp [hx])) h2
theorem jF {f:FuncId} {fn:Func} {s:ChangeSpec} {fresh handsOn:Bool} {n:Nat} {tb:TypeId} (hl:laidOutB P=true) (hts:∀ t∈fn.params.toList,X1 P n t=true∧P.readableRec t=true∧t<P.types.size) (hr:fn.resultTypes=#[tb]) (hb:P.underlying tb=some .bool)
  (hvars:s.vars=[]) {W:World} {base:Nat} {args:Array Value} {ds gs:List (DataW H)} {before:List MemPlace} (hval:∀ (j:Nat) t v,fn.params[j]?=some t→args[j]?=some v→Value.okWide P W .any base t v)
  (hW:DataW.Whole enc P fn.params.toList s.vars false W args.toList ds gs before) (hfn:s.fn H ds={ results:=[.lit (.bool true)],args:=ds })
  (main:∀ (L:List RoE) (B:Nat) (as:List AV),(∀ k,(GL L k).all E8=true)→Je P L n fn.params.toList as ds→∃ G,(∀ k,k<L.length→G k=GL L k)∧ACalls ⟨P,G,B⟩ f as [] fun v _=>v=.bool true) :
  Calls P f args W fun e W'=>∃ v,e=.returned v∧s.post enc P fn false fresh handsOn false W args v W':=by
 have hlt:=hW.lt;have hW':=hW;obtain ⟨p,q,hA,hV,rfl,hfz,hnd⟩:=hW;rw [hvars] at hV;obtain ⟨rfl,rfl⟩:=trodVars_none hV;obtain ⟨M,as,g1,g2,g3⟩:=hU (n:=n) fn.params.toList args.toList ds p [] (fun t ht=>(hts t ht).1) (fun j t v h1 h2=>hval j t v (by simpa using h1) (by simpa using h2)) (fun k e h=>by simp at h) hA;simp only [List.nil_append] at g1 g2 g3
 have hnw:∀ k,(GL M k).all E8=true:=fun k=>by
  unfold GL;split
  ·rename_i e he;rw [qD];intro v hv;obtain ⟨j,hj⟩:=List.getElem?_of_mem hv;exact (g1 k e he j v hj).1
  ·rfl
 obtain ⟨G,hG,hcall⟩:=main M W.heap.size as hnw g3
 have:=aN4 (C:=⟨P,G,W.heap.size⟩) (ro:=Ng W M) (W:=W) (cargs:=args) rfl (fun i b d hr=>⟨hr.1,fun k v hv=>by
  obtain ⟨_,e,he,rfl,rfl⟩:=hr;simp only at hv;rw [hG i (zP.1 he).1] at hv;simp only [GL,he] at hv;obtain ⟨_,cv,h1,h2⟩:=g1 i e he k v hv
  exact ⟨cv,h1,h2⟩⟩) g2 hcall
 refine this.mono fun e W' ⟨he,hbl⟩=>⟨.bool true,he,?_⟩;have hfn':s.fn H (ds++[])={ results:=[.lit (.bool true)],args:=ds }:=by rw [List.append_nil];exact hfn
 simp only [List.append_nil] at hlt;refine ⟨ds,[],p++[],[],p,[],hW',?_,?_,?_,hbl.frame _,fun h=>by cases h⟩
 ·rw [hfn',hr];exact trodAll_cons_mk (shut_bool hb true) trodAll_mk0
 ·rw [hfn'];exact aE hl hbl _ _ _ _ (fun t ht=>(hts t ht).2) (fun x hx=>⟨hlt x hx,by simpa using hlt x hx⟩) hA
 ·rw [hfn',hvars];rfl
theorem nD {f:FuncId} {fn:Func} {s:ChangeSpec} {fresh handsOn:Bool} {n:Nat} {tb:TypeId} (hl:laidOutB P=true) (hts:∀ t∈fn.params.toList,X1 P n t=true∧P.readableRec t=true∧t<P.types.size) (hr:fn.resultTypes=#[tb]) (hb:P.underlying tb=some .bool)
  (hvars:s.vars=[]) {W:World} {base:Nat} {args:Array Value} {ds gs:List (DataW H)} {before:List MemPlace} (hval:∀ (j:Nat) t v,fn.params[j]?=some t→args[j]?=some v→Value.okWide P W .any base t v)
  (hW:DataW.Whole enc P fn.params.toList s.vars false W args.toList ds gs before) (hfn:s.fn H ds={ results:=[.lit (.bool true)],args:=ds })
  (main:∀ (L:List RoE) (B:Nat) (as:List AV),(∀ k,(GL L k).all E8=true)→Je P L n fn.params.toList as ds→ACalls ⟨P,GL L,B⟩ f as [] fun v _=>v=.bool true) :
  Calls P f args W fun e W'=>∃ v,e=.returned v∧s.post enc P fn false fresh handsOn false W args v W':=
 jF hl hts hr hb hvars hval hW hfn fun L B as h1 h2=>⟨GL L,fun _ _=>rfl,main L B as h1 h2⟩
end
abbrev Kc (C:A1):Cfg:={ C:=C,inl:=fun _=>true,strict:=.full,unr:=true,sum:=noSum,loop:=noLoop,M:=0,cmp:=true }
def isT:AV→Bool
 | .bool b=>b
 | _=>false
theorem goodc {C:A1} (hm:C.P.follows .mixedOrders=true):Ee (Kc C) []:=⟨hm,Id C,fun m c F H e F' H' _ h=>by simp at h⟩
theorem closed_run {C : A1} (hm : C.P.follows .mixedOrders = true) {f : FuncId} {fn : Func} (hf : C.P.funcs[f]? = some fn) (hb : fn.body.isSome = true) (hn : (fn.name == "runtime.NumGoroutine") = false) (n : Nat) {args : List AV}
  (h:vc (Kc C) n 0 (.code (C3 fn)) (K7 fn args) [] (L1 C fn fun v _=>chk (isT v) True)=True):ACalls C f args [] fun v _=>v=.bool true:=by
 obtain ⟨c,hc⟩:=Option.isSome_iff_exists.1 hb;have e:C3 fn=c:=by simp [C3,hc]
 rw [e] at h
 have:=call_of_vc (K:=Kc C) (H:=[]) (goodc hm) (fun h=>by cases h) n hf hc hn (fun h=>by cases h) (of_eq_true h)
 refine ⟨this.1,fun ρ w cargs hH hv=>(this.2 ρ w cargs hH hv).mono ?_⟩;rintro e w' ⟨v,cv,ρ',H',h1,h2,h3⟩;refine ⟨v,cv,ρ',H',h1,?_,h3⟩;obtain ⟨h4,_⟩:=U6 h2;cases v with
 | bool b=>simp only [isT] at h4;rw [h4]
 | _=>simp [isT] at h4
def nM (l:List Nat) (f:Nat):Bool:=match l with
 | []=>false
 | x::l=>match Nat.beq x f with
  | true=>true
  | false=>nM l f
theorem sB:∀ {l:List Nat} {f:Nat},nM l f=true→f∈l
 | [],f,h=>by simp [nM] at h
 | x::l,f,h=>by
  simp only [nM] at h;split at h
  ·rename_i hx;rw [rG hx];simp
  ·exact List.mem_cons.2 (.inr (sB h))
def Pr (P:Program) (l:List Nat):Bool:=l.all fun f=>match P.funcs[f]? with
 | some fn=>(loopsOf (C3 fn)).isEmpty
 | none=>true
theorem hJ {P:Program} {l:List Nat} {lps:List Code} (h:Pr P l=true):∀ f fn c,nM l f=true→P.funcs[f]?=some fn→fn.body=some c→∀ b∈loopsOf c,b∈lps:=by
 intro f fn c hf hfn hc b hb;simp only [Pr,qD] at h
 have:=h f (sB hf)
 simp only [hfn] at this;have e:C3 fn=c:=by simp [C3,hc]
 rw [e,List.isEmpty_iff] at this;rw [this] at hb;simp at hb
def true_sum:Sum1:=fun args _=>match args with
 | []=>some (true,.bool true,[])
 | _=>none
theorem pK {C:A1} {f:FuncId} (h:∀ G B,ACalls ⟨C.P,G,B⟩ f [] [] fun v _=>v=.bool true):Xu C f true_sum:=by
 intro args H v hs h';unfold true_sum at h';split at h'
 ·simp only [zN,xH,true_and] at h';obtain ⟨rfl,rfl⟩:=h';exact Uz ⟨rfl,rfl⟩ ⟨rfl,rfl⟩ h H
 ·simp at h'
theorem ACalls.monoK {C:A1} {f:FuncId} {args:List AV} {H:Hp} {K K':AV→Hp→Prop} (h:ACalls C f args H K) (hk:∀ v H',K v H'→K' v H'):ACalls C f args H K':=
 ⟨h.1,fun ρ w cargs hH hv=>(h.2 ρ w cargs hH hv).mono fun e w' ⟨v,cv,ρ',H',h1,h2,h3⟩=>⟨v,cv,ρ',H',h1,hk v H' h2,h3⟩⟩
theorem ACalls.weaken {C:A1} {f:FuncId} {args args':List AV} {H:Hp} {K:AV→Hp→Prop} (h:ACalls C f args' H K) (hw:∀ ρ vs,VRs ρ args vs→VRs ρ args' vs):ACalls C f args H K:=
 ⟨h.1,fun ρ w cargs hH hv=>h.2 ρ w cargs hH (hw ρ cargs hv)⟩
end Go.Am
