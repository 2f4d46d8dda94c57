/-
  The abstract machine's relation to the model's worlds. The pure operations of the abstract machine, against the model's.
-/
import Derived.Test.YthejjolnlngahaaAmCore
import Derived.WalkKit
import Derived.Laws.StructEq
import Derived.ChangeKeysEq
import Derived.Laws.BytesArg
import Derived.Laws.IdiomCopy
import Derived.RangeFuncRecord
import Derived.Lib.AppendZeros
namespace Go.Am
open Go.RowKit
structure Q3 where
 blk:Nat
 size:Nat
 esz:Nat
structure Env where
 rw:List (Option Q3)
 /-- where the read-only contents stand: index,block,offset -/
 ro:Nat→Nat→Nat→Prop
 /-- the blocks for the rounds' deferred calls,all empty -/
 dfs:List Nat
def S5 (ρ:Env) (r:Ref) (off:Nat) (v:Value):Prop:=
 match r with
 | .rw i=>∃ e,ρ.rw[i]?=some (some e)∧v=.pointer (some ⟨e.blk,off,none⟩)
 | .ro i=>∃ b d,ρ.ro i b d∧v=.pointer (some ⟨b,d+off,none⟩)
def Aq (ρ:Env) (mb:Bool) (r:Ref) (off len:Nat) (v:Value):Prop:=
 ∃ ca cap,v=.slice ca len cap∧len≤cap∧
  ((ca=none∧cap=0∧mb=true)∨((∃ x,ca=some x)∧cap=0)∨
   (match r with
    | .rw i=>∃ e,ρ.rw[i]?=some (some e)∧ca=some ⟨e.blk,off,none⟩∧(off=0→cap*e.esz≤e.size)
    | .ro i=>∃ b d,ρ.ro i b d∧ca=some ⟨b,d+off,none⟩))
mutual
def VR (ρ:Env):AV→Value→Prop
 | .undef,_=>True
 | .bool b,v=>v=.bool b
 | .int k n,v=>v=.int k n
 | .str s,v=>v=.string ⟨s.toArray⟩
 | .nilp,v=>v=.pointer none
 | .ptr r off,v=>S5 ρ r off v
 | .nils,v=>v=.slice none 0 0
 | .slice mb r off len,v=>Aq ρ mb r off len v
 | .nilf,v=>v=.nilFunc
 | .func f cap,v=>∃ cs:Array Value,v=.func (.func f) #[] cs∧VRs ρ cap cs.toList
 | .agg cs,v=>∃ vs:Array Value,v=.agg vs∧VRs ρ cs vs.toList
 | .tup cs,v=>∃ vs:Array Value,v=.tuple vs∧VRs ρ cs vs.toList
 | .yld i,v=>∃ e,ρ.rw[i]?=some (some e)∧v=.func (.yield e.blk) #[] #[]
 | .rcd ..,_=>False
def VRs (ρ:Env):List AV→List Value→Prop
 | [],vs=>vs=[]
 | a::as,vs=>∃ v vs',vs=v::vs'∧VR ρ a v∧VRs ρ as vs'
end
structure Env.le (ρ ρ':Env):Prop where
 left:∀ (i:Nat) x,ρ.rw[i]?=some x→ρ'.rw[i]?=some x
 right:∀ i b d,ρ.ro i b d→ρ'.ro i b d
 dl:∀ D∈ρ.dfs,D∈ρ'.dfs
theorem Env.le_refl (ρ:Env):ρ.le ρ:=⟨fun _ _ h=>h,fun _ _ _ h=>h,fun _ h=>h⟩
theorem Env.le_trans {a b c:Env} (h:a.le b) (k:b.le c):a.le c:=⟨fun i x hx=>k.1 i x (h.1 i x hx),fun i b d hx=>k.2 i b d (h.2 i b d hx),fun D hD=>k.3 D (h.3 D hD)⟩
def Env.sub (ρ ρ':Env):Prop:=(∀ (i:Nat) x,ρ.rw[i]?=some x→ρ'.rw[i]?=some x)∧∀ i b d,ρ.ro i b d→ρ'.ro i b d
def Env.own (ρ:Env) (b:Nat):Prop:=∃ (i:Nat) (e:Q3),ρ.rw[i]?=some (some e)∧e.blk=b
theorem Env.le.sub {ρ ρ':Env} (h:ρ.le ρ'):ρ.sub ρ':=⟨h.1,h.2⟩
theorem Env.sub_dfs (ρ:Env) (d:List Nat):ρ.sub ⟨ρ.rw,ρ.ro,d⟩:=⟨fun _ _ h=>h,fun _ _ _ h=>h⟩
theorem S5.sub {ρ ρ':Env} (h:ρ.sub ρ') {r:Ref} {off:Nat} {v:Value} (p:S5 ρ r off v):S5 ρ' r off v:=by
 cases r with
 | rw i=>obtain ⟨e,he,hv⟩:=p;exact ⟨e,h.1 _ _ he,hv⟩
 | ro i=>obtain ⟨b,d,he,hv⟩:=p;exact ⟨b,d,h.2 _ _ _ he,hv⟩
theorem Aq.sub {ρ ρ':Env} (h:ρ.sub ρ') {mb:Bool} {r:Ref} {off len:Nat} {v:Value} (p:Aq ρ mb r off len v):Aq ρ' mb r off len v:=by
 obtain ⟨ca,cap,hv,hl,hc⟩:=p;refine ⟨ca,cap,hv,hl,?_⟩;rcases hc with hc | hc | hc
 ·exact .inl hc
 ·exact .inr (.inl hc)
 ·refine .inr (.inr ?_);cases r with
  | rw i=>obtain ⟨e,he,h2⟩:=hc;exact ⟨e,h.1 _ _ he,h2⟩
  | ro i=>obtain ⟨b,d,he,h2⟩:=hc;exact ⟨b,d,h.2 _ _ _ he,h2⟩
mutual
theorem VR.sub {ρ ρ':Env} (h:ρ.sub ρ'):∀ (a:AV) (v:Value),VR ρ a v→VR ρ' a v
 | .undef,v,hv=>by simp only [VR] at *
 | .bool b,v,hv=>by simpa only [VR] using hv
 | .int k n,v,hv=>by simpa only [VR] using hv
 | .str s,v,hv=>by simpa only [VR] using hv
 | .nilp,v,hv=>by simpa only [VR] using hv
 | .ptr r off,v,hv=>by simp only [VR] at *;exact hv.sub h
 | .nils,v,hv=>by simpa only [VR] using hv
 | .slice mb r off len,v,hv=>by simp only [VR] at *;exact hv.sub h
 | .nilf,v,hv=>by simpa only [VR] using hv
 | .func f cap,v,hv=>by
  simp only [VR] at *;obtain ⟨cs,e,hs⟩:=hv;exact ⟨cs,e,VRs.sub h cap _ hs⟩
 | .agg cs,v,hv=>by
  simp only [VR] at *;obtain ⟨vs,e,hs⟩:=hv;exact ⟨vs,e,VRs.sub h cs _ hs⟩
 | .tup cs,v,hv=>by
  simp only [VR] at *;obtain ⟨vs,e,hs⟩:=hv;exact ⟨vs,e,VRs.sub h cs _ hs⟩
 | .yld i,v,hv=>by
  simp only [VR] at *;obtain ⟨e,he,hs⟩:=hv;exact ⟨e,h.1 _ _ he,hs⟩
 | .rcd ..,v,hv=>by simp only [VR] at hv
theorem VRs.sub {ρ ρ':Env} (h:ρ.sub ρ'):∀ (as:List AV) (vs:List Value),VRs ρ as vs→VRs ρ' as vs
 | [],vs,hv=>by simpa only [VRs] using hv
 | a::as,vs,hv=>by
  simp only [VRs] at *;obtain ⟨v,vs',e,h1,h2⟩:=hv;exact ⟨v,vs',e,VR.sub h a v h1,VRs.sub h as vs' h2⟩
end
theorem VR.mono {ρ ρ':Env} (h:ρ.le ρ') (a:AV) (v:Value) (p:VR ρ a v):VR ρ' a v:=VR.sub h.sub a v p
theorem E6 {ρ:Env}:∀ {as:List AV} {vs:List Value},VRs ρ as vs→vs.length=as.length
 | [],vs,h=>by simp only [VRs] at h;simp [h]
 | a::as,vs,h=>by
  simp only [VRs] at h;obtain ⟨v,vs',e,_,h2⟩:=h;simp [e,E6 h2]
theorem U0 {ρ:Env}:∀ {as:List AV} {vs:List Value},VRs ρ as vs→∀ (i:Nat) (a:AV),as[i]?=some a→∃ v,vs[i]?=some v∧VR ρ a v
 | [],vs,h,i,a,ha=>by simp at ha
 | x::as,vs,h,i,a,ha=>by
  simp only [VRs] at h;obtain ⟨v,vs',e,h1,h2⟩:=h;subst e;cases i with
  | zero=>simp at ha;subst ha;exact ⟨v,rfl,h1⟩
  | succ i=>simpa using U0 h2 i a (by simpa using ha)
theorem Jw {ρ:Env}:∀ {as:List AV} {vs:List Value},vs.length=as.length→(∀ (i:Nat) (a:AV),as[i]?=some a→∃ v,vs[i]?=some v∧VR ρ a v)→VRs ρ as vs
 | [],vs,hl,h=>by simp only [VRs];exact List.eq_nil_of_length_eq_zero (by simpa using hl)
 | x::as,vs,hl,h=>by
  cases vs with
  | nil=>simp at hl
  | cons v vs=>
   simp only [VRs];obtain ⟨v',hv',h1⟩:=h 0 x rfl;simp at hv';subst hv';exact ⟨_,vs,rfl,h1,Jw (by simpa using hl) fun i a ha=>by simpa using h (i+1) a (by simpa using ha)⟩
theorem Sh {ρ:Env} {as bs:List AV} {vs ws:List Value} (h:VRs ρ as vs) (k:VRs ρ bs ws):VRs ρ (as++bs) (vs++ws):=by
 have h1:=E6 h;have h2:=E6 k;refine Jw (by simp [h1,h2]) fun i a ha=>?_;by_cases hi:i<as.length
 ·rw [pY hi] at ha;rw [pY (by omega)];exact U0 h i a ha
 ·rw [qP (by omega)] at ha;rw [qP (by omega),h1];exact U0 k _ a ha
theorem aQ9 {ρ:Env} {as:List AV} {vs:List Value} (h:VRs ρ as vs) (n:Nat):VRs ρ (as.take n) (vs.take n):=by
 have h1:=E6 h;refine Jw (by simp [h1]) fun i a ha=>?_;rw [zA4] at ha ⊢;split at ha
 ·rename_i hi;rw [if_pos hi];exact U0 h i a ha
 ·simp at ha
theorem aR0 {ρ:Env} {as:List AV} {vs:List Value} (h:VRs ρ as vs) (n:Nat):VRs ρ (as.drop n) (vs.drop n):=by
 have h1:=E6 h;refine Jw (by simp [h1]) fun i a ha=>?_;rw [List.getElem?_drop] at ha ⊢;exact U0 h _ a ha
theorem Xt {ρ:Env} {α:Type} (l:List α) (f:α→AV) (g:α→Value) (h:∀ x∈l,VR ρ (f x) (g x)):VRs ρ (l.map f) (l.map g):=by
 induction l with
 | nil=>simp [VRs]
 | cons x l ih=>
  simp only [List.map_cons,VRs];exact ⟨_,_,rfl,h x (by simp),ih fun y hy=>h y (by simp [hy])⟩
def StR (p:Nat) (st:LoopState) (pe:Option Code):Prop:=
 match p with
 | 0=>st=.ready∧pe=none
 | 1=>st=.busy∧pe=none
 | 2=>st=.done∧pe=some .ret
 | n+3=>st=.done∧pe=some (.exit n)
def Mz (ρ:Env) (cells:List AV) (r:Loop):Prop:=
 ∃ p ps a b F,cells=.rcd p ps a b::F∧StR p r.state r.pending∧r.params=ps∧r.assign=a∧r.body=b∧F.length=r.tmps.size∧∀ (i:Nat) v,F[i]?=some v→VR ρ v (r.tmps.getD i undef)
def V8 (ρ:Env) (b:Blk) (x:Option (Option Q3)) (w:World):Prop:=
 match x with
 | some (some e)=>e.esz=b.esz∧match isRec b with
  | false=>∃ (cs:Array Value) (ty:TypeId) (fz:Nat×Nat),w.heap[e.blk]?=some (.cells cs ty fz)∧cs.size=e.size∧b.cells.length≤cs.size∧
   (∀ (k:Nat) v,b.cells[k]?=some v→∃ cv,cs[k]?=some cv∧VR ρ v cv)∧(fz.1=fz.2∨cs.size≤fz.1)
  | true=>∃ r,w.heap[e.blk]?=some (.loop r)∧Mz ρ b.cells r
 | some none=>b.cells=[]
 | none=>False
theorem V8.cs {ρ:Env} {b:Blk} {e:Q3} {w:World} (h:V8 ρ b (some (some e)) w) (hr:isRec b=false):e.esz=b.esz∧∃ (cs:Array Value) (ty:TypeId) (fz:Nat×Nat),w.heap[e.blk]?=some (.cells cs ty fz)∧cs.size=e.size∧b.cells.length≤cs.size∧
   (∀ (k:Nat) v,b.cells[k]?=some v→∃ cv,cs[k]?=some cv∧VR ρ v cv)∧(fz.1=fz.2∨cs.size≤fz.1):=by
 simp only [V8,hr] at h;exact h
theorem V8.of {ρ:Env} {b:Blk} {e:Q3} {w:World} (hr:isRec b=false) (h:e.esz=b.esz∧∃ (cs:Array Value) (ty:TypeId) (fz:Nat×Nat),w.heap[e.blk]?=some (.cells cs ty fz)∧cs.size=e.size∧b.cells.length≤cs.size∧
   (∀ (k:Nat) v,b.cells[k]?=some v→∃ cv,cs[k]?=some cv∧VR ρ v cv)∧(fz.1=fz.2∨cs.size≤fz.1)):V8 ρ b (some (some e)) w:=by
 simp only [V8,hr];exact h
theorem V8.rec {ρ:Env} {b:Blk} {e:Q3} {w:World} (h:V8 ρ b (some (some e)) w) (hr:isRec b=true):e.esz=b.esz∧∃ r,w.heap[e.blk]?=some (.loop r)∧Mz ρ b.cells r:=by
 simp only [V8,hr] at h;exact h
theorem V8.ofRec {ρ:Env} {b:Blk} {e:Q3} {w:World} (hr:isRec b=true) (h:e.esz=b.esz∧∃ r,w.heap[e.blk]?=some (.loop r)∧Mz ρ b.cells r):V8 ρ b (some (some e)) w:=by
 simp only [V8,hr];exact h
theorem V8.esz {ρ:Env} {b:Blk} {e:Q3} {w:World} (h:V8 ρ b (some (some e)) w):e.esz=b.esz:=h.1
theorem Mz.sub {ρ ρ':Env} (hl:ρ.sub ρ') {cs:List AV} {r:Loop} (h:Mz ρ cs r):Mz ρ' cs r:=by
 obtain ⟨p,ps,a,b,F,h1,h2,h3,h4,h5,h6,h7⟩:=h;exact ⟨p,ps,a,b,F,h1,h2,h3,h4,h5,h6,fun i v hv=>VR.sub hl v _ (h7 i v hv)⟩
structure B2 (C:A1) (ρ:Env) (H:Hp) (w:World):Prop where
 len:ρ.rw.length=H.length
 base:C.B≤w.heap.size
 ents:∀ (i:Nat) e,ρ.rw[i]?=some (some e)→C.B≤e.blk∧e.blk<w.heap.size
 live:∀ (i:Nat) b,H[i]?=some (some b)→V8 ρ b (ρ.rw[i]?) w
 inj:∀ (i j:Nat) b b' e e',H[i]?=some (some b)→H[j]?=some (some b')→ρ.rw[i]?=some (some e)→ρ.rw[j]?=some (some e')→e.blk=e'.blk→i=j
 ro:∀ (i b d:Nat),ρ.ro i b d→b<w.heap.size∧(∀ (j:Nat) x e,H[j]?=some (some x)→ρ.rw[j]?=some (some e)→e.blk≠b)∧∀ (k:Nat) v,(C.G i)[k]?=some v→∃ cv,w.cell? ⟨b,d+k,none⟩=some cv∧VR ⟨[],ρ.ro,[]⟩ v cv
 df:∀ D∈ρ.dfs,w.heap[D]?=some (.deferred (some []))∧(∀ (i:Nat) e,ρ.rw[i]?=some (some e)→e.blk≠D)∧∀ i d,¬ρ.ro i D d
structure D0 (ρ:Env) (F:Fr) (a:Act):Prop where
 nod:∃ ds:List Nat,a.defers=ds.map (fun D=>{ target:=.collected D,args:=#[] })∧ds.Nodup∧∀ D∈ds,D∈ρ.dfs
 len:F.length=a.tmps.size
 val:∀ (i:Nat) v,F[i]?=some v→VR ρ v (a.tmps.getD i undef)
structure Frm (ρ:Env) (w:World) (ρ':Env) (w':World):Prop where
 os:w'.os=w.os
 tape:w'.tape=w.tape
 output:w'.output=w.output
 size:w.heap.size≤w'.heap.size
 keep:∀ b,b<w.heap.size→((∃ i d,ρ.ro i b d)∨∀ (i:Nat) e,ρ.rw[i]?=some (some e)→e.blk≠b)→w'.heap[b]?=w.heap[b]?
 news:∀ (i:Nat) e,ρ'.rw[i]?=some (some e)→(∃ (j:Nat) (e':Q3),ρ.rw[j]?=some (some e')∧e'.blk=e.blk)∨w.heap.size≤e.blk
 ro:∀ i b d,ρ.ro i b d→ρ'.ro i b d
 newro:∀ i b d,ρ'.ro i b d→ρ.ro i b d∨ρ.own b∨w.heap.size≤b
 mkn:∀ D∈ρ'.dfs,D∈ρ.dfs∨w.heap.size≤D
theorem Frm.refl (ρ:Env) (w:World):Frm ρ w ρ w:=⟨rfl,rfl,rfl,zA7 _,fun _ _ _=>rfl,fun i e h=>.inl ⟨i,e,h,rfl⟩,fun _ _ _ h=>h,fun _ _ _ h=>.inl h,fun _ h=>.inl h⟩
theorem Frm.trans {ρ ρ' ρ'':Env} {w w' w'':World} (h:Frm ρ w ρ' w') (k:Frm ρ' w' ρ'' w''):Frm ρ w ρ'' w'' where
 os:=k.os.trans h.os
 tape:=k.tape.trans h.tape
 output:=k.output.trans h.output
 size:=Nat.le_trans h.size k.size
 keep b hb hn:=(k.keep b (Nat.lt_of_lt_of_le hb h.size) (by
  rcases hn with ⟨i,d,hr⟩ | hn
  ·exact .inl ⟨i,d,h.ro i b d hr⟩
  ·refine .inr fun i e he hbe=>?_;rcases h.news i e he with ⟨j,e',hj,hje⟩ | hge
   ·exact hn j e' hj (hje.trans hbe)
   ·omega)).trans (h.keep b hb hn)
 news i e he:=by
  rcases k.news i e he with ⟨j,e',hj,hje⟩ | hge
  ·rcases h.news j e' hj with ⟨l,e2,hl,hle⟩ | hge
   ·exact .inl ⟨l,e2,hl,hle.trans hje⟩
   ·exact .inr (by omega)
  ·exact .inr (Nat.le_trans h.size hge)
 ro i b d hr:=k.ro i b d (h.ro i b d hr)
 newro i b d hr:=by
  rcases k.newro i b d hr with h1 | ⟨j,e,he,heb⟩ | h1
  ·exact h.newro i b d h1
  ·rcases h.news j e he with ⟨l,e',hl,hle⟩ | hge
   ·exact .inr (.inl ⟨l,e',hl,hle.trans heb⟩)
   ·exact .inr (.inr (by omega))
  ·exact .inr (.inr (Nat.le_trans h.size h1))
 mkn D hD:=by
  rcases k.mkn D hD with h1 | h1
  ·exact h.mkn D h1
  ·exact .inr (Nat.le_trans h.size h1)
theorem Frm.drew {ρ ρ':Env} {w w':World} (h:Frm ρ w ρ' w'):Frm ρ w ρ' w'.drew:=⟨h.os,h.tape,h.output,h.size,h.keep,h.news,h.ro,h.newro,h.mkn⟩
theorem B2.drew {C:A1} {ρ:Env} {H:Hp} {w:World} (h:B2 C ρ H w):B2 C ρ H w.drew:=⟨h.len,h.base,h.ents,h.live,h.inj,h.ro,h.df⟩
theorem D0.mono {ρ ρ':Env} {F:Fr} {a:Act} (h:D0 ρ F a) (hl:ρ.le ρ'):D0 ρ' F a:=⟨(let ⟨ds,h1,h2,h3⟩:=h.nod;⟨ds,h1,h2,fun D hD=>hl.dl D (h3 D hD)⟩),h.len,fun i v hv=>VR.mono hl v _ (h.val i v hv)⟩
theorem D0.put {ρ:Env} {F:Fr} {a:Act} (h:D0 ρ F a) (d:Option Tmp) (v:AV) (cv:Value) (hv:VR ρ v cv):D0 ρ (put F d v) (a.put d cv):=by
 cases d with
 | none=>exact h
 | some d=>
  refine ⟨h.nod,by simp [Am.put,Act.put,h.len],fun i x hx=>?_⟩;simp only [Am.put,zA5] at hx;simp only [Act.put,Array.getD_eq_getD_getElem?,Array.getElem?_setIfInBounds];by_cases hi:d=i
  ·subst hi;simp only [if_true] at hx ⊢;split at hx
   ·rename_i hlt;rw [if_pos (by rw [←h.len];exact hlt)];simp at hx;subst hx;simpa using hv
   ·simp at hx
  ·simp only [hi,if_false] at hx ⊢
   have:=h.val i x hx
   simpa [Array.getD_eq_getD_getElem?] using this
theorem D0.at {ρ:Env} {F:Fr} {a:Act} (h:D0 ρ F a) (t:Tmp):VR ρ (F.getD t .undef) (a.tmps.getD t Go.undef):=by
 by_cases ht:t<F.length
 ·have:=h.val t (F[t]) (by simp [ht])
  simpa [List.getD,ht] using this
 ·simp [List.getD,ht,VR]
theorem Vt (ρ:Env) (v:Value):VR ρ (Y8 v) v:=by
 unfold Y8
 split<;>simp [VR]
theorem pX (ρ:Env) (l:List Value):VRs ρ (l.map Y8) l:=by
 induction l with
 | nil=>simp [VRs]
 | cons v l ih=>simp only [List.map_cons,VRs];exact ⟨v,l,rfl,Vt ρ v,ih⟩
theorem Hd (ρ:Env) (v:Value):VR ρ (D7 v) v:=by
 unfold D7;split
 ·rename_i cs;simp only [VR];exact ⟨cs,rfl,pX ρ _⟩
 ·exact Vt ρ _
theorem Ij {ρ:Env} {F:Fr} {a:Act} (h:D0 ρ F a) (x:Operand):VR ρ (ev F x) (a.eval x):=by
 cases x with
 | tmp t=>exact h.at t
 | const v=>exact Hd ρ v
 | global g=>simp [ev,VR]
 | func f=>simp only [ev,VR,Act.eval];exact ⟨#[],rfl,by simp [VRs]⟩
theorem J8 {c:Bool} {K:Prop} (h:chk c K):c=true∧K:=by
 cases c with
 | true=>exact ⟨rfl,h⟩
 | false=>exact h.elim
theorem aF2 {b:Bool} {A B:Prop} (h:tst b A B):(b=true∧A)∨(b=false∧B):=by
 cases b with
 | true=>exact .inl ⟨rfl,h⟩
 | false=>exact .inr ⟨rfl,h⟩
theorem cU {h:Option Bool} {b:Bool} {A B:Prop} (k:cV h b A B):(b=true∧A∧∀ A' B':Prop,A'→cV h b A' B')∨(b=false∧B∧∀ A' B':Prop,B'→cV h b A' B'):=by
 cases h with
 | none=>cases b with
  | true=>exact .inl ⟨rfl,k,fun _ _ h=>h⟩
  | false=>exact .inr ⟨rfl,k,fun _ _ h=>h⟩
 | some c=>cases c with
  | true=>cases b with
   | true=>exact .inl ⟨rfl,k,fun _ _ h=>h⟩
   | false=>exact k.elim
  | false=>cases b with
   | true=>exact k.elim
   | false=>exact .inr ⟨rfl,k,fun _ _ h=>h⟩
theorem xG {h:Option Bool} {b:Bool} {A B:Prop} (k:cV h b A B):(b=true∧A)∨(b=false∧B):=by
 rcases cU k with ⟨h1,h2,_⟩ | ⟨h1,h2,_⟩
 ·exact .inl ⟨h1,h2⟩
 ·exact .inr ⟨h1,h2⟩
theorem S3 {o:Option (Bool×AV)} {K:AV→Prop} (h:Sp o K):∃ v,o=some (true,v)∧K v:=by
 unfold Sp at h;split at h
 ·rename_i c v;obtain ⟨rfl,hk⟩:=J8 h;exact ⟨v,rfl,hk⟩
 ·exact h.elim
theorem Ql {o:Option (Bool×AV×Hop)} {K:AV→Hop→Prop} (h:wrc o K):∃ v x,o=some (true,v,x)∧K v x:=by
 unfold wrc at h;split at h
 ·rename_i c v x;obtain ⟨rfl,hk⟩:=J8 h;exact ⟨v,x,rfl,hk⟩
 ·exact h.elim
theorem Qs {o:Option (Bool×AV×List Hop)} {K:AV→List Hop→Prop} (h:smc o K):∃ v x,o=some (true,v,x)∧K v x:=by
 unfold smc at h;split at h
 ·rename_i c v x;obtain ⟨rfl,hk⟩:=J8 h;exact ⟨v,x,rfl,hk⟩
 ·exact h.elim
theorem nA {o:Option (Bool×Ex×Fr×Hp)} {K:Ex→Fr→Hp→Prop} (h:lpc o K):∃ e F H,o=some (true,e,F,H)∧K e F H:=by
 unfold lpc at h;split at h
 ·rename_i c e F H;obtain ⟨rfl,hk⟩:=J8 h;exact ⟨e,F,H,rfl,hk⟩
 ·exact h.elim
theorem Gb {n:Nat} {k:Nat→Prop} (h:Kf n k):k n:=by unfold Kf at h;split at h<;>exact h
theorem aA7 {n:Int} {k:Int→Prop} (h:nQ n k):k n:=by
 unfold nQ at h;split at h<;>exact Gb h
theorem iK {n:Ref} {k:Ref→Prop} (h:eR n k):k n:=by
 unfold eR at h;split at h<;>exact Gb h
theorem iM {v:AV} {k:AV→Prop} (h:eY v k):k v:=by
 unfold eY at h;split at h
 all_goals first
  | exact h
  | (split at h<;>exact h)
  | exact aA7 h
  | exact Gb h
  | exact Gb (iK h)
  | exact Gb (Gb (iK h))
theorem Jq:∀ {l:List AV} {k:List AV→Prop},Rs l k→k l
 | [],_,h=>h
 | x::xs,k,h=>Jq (l:=xs) (k:=fun ys=>k (x::ys)) (iM (v:=x) (k:=fun x=>Rs xs fun ys=>k (x::ys)) h)
theorem aA5 {v:AV} {k:AV→Prop} (h:nO v k):k v:=by
 unfold nO at h;split at h
 ·exact Jq h
 ·exact Jq h
 ·exact Jq h
 ·exact iM h
theorem Cs {α:Type}:∀ {F:List α} {d:Nat} {v:α} {k:List α→Prop},Og F d v k→k (F.set d v)
 | [],_,_,_,h=>h
 | _::_,0,_,_,h=>h
 | x::xs,d+1,v,k,h=>Cs (F:=xs) (k:=fun ys=>k (x::ys)) h
theorem Gn {α:Type}:∀ {F:List α} {v:α} {k:List α→Prop},Nl F v k→k (F++[v])
 | [],_,_,h=>h
 | x::xs,v,k,h=>Gn (F:=xs) (k:=fun ys=>k (x::ys)) h
theorem iL {v:AV} {k:AV→Prop} (h:nS v k):k v:=by
 unfold nS at h;split at h<;>exact h
theorem bM:∀ {l:List AV} {k:List AV→Prop},Xd l k→k l
 | [],_,h=>h
 | x::xs,k,h=>bM (l:=xs) (k:=fun ys=>k (x::ys)) (iL (v:=x) (k:=fun x=>Xd xs fun ys=>k (x::ys)) h)
theorem aA6 {v:AV} {k:AV→Prop} (h:nP v k):k v:=by
 unfold nP at h;split at h
 ·exact bM h
 ·exact iL h
theorem J4 {s:Md} {F:Fr} {d:Option Tmp} {v:AV} {k:Fr→Prop} (h:S0 s F d v k):k (put F d v):=by
 unfold S0 at h;split at h
 ·exact h
 ·split at h
  ·exact Cs (aA6 h)
  ·exact h
 ·split at h
  ·exact Cs (aA5 h)
  ·exact h
theorem Uv {b:Blk} {k:Blk→Prop} (h:Zl b k):k b:=by
 unfold Zl at h;exact Jq h
theorem N4:∀ {args:List AV} {k:List AV→Prop},dY args k→k args
 | [],k,h=>h
 | .int t e::l,k,h=>N4 (args:=l) (k:=fun l'=>k (.int t e::l')) (h e rfl)
 | .undef::l,k,h=>N4 (args:=l) (k:=fun l'=>k (.undef::l')) h
 | .bool b::l,k,h=>N4 (args:=l) (k:=fun l'=>k (.bool b::l')) h
 | .str b::l,k,h=>N4 (args:=l) (k:=fun l'=>k (.str b::l')) h
 | .nilp::l,k,h=>N4 (args:=l) (k:=fun l'=>k (.nilp::l')) h
 | .ptr a b::l,k,h=>N4 (args:=l) (k:=fun l'=>k (.ptr a b::l')) h
 | .nils::l,k,h=>N4 (args:=l) (k:=fun l'=>k (.nils::l')) h
 | .slice a b c d::l,k,h=>N4 (args:=l) (k:=fun l'=>k (.slice a b c d::l')) h
 | .nilf::l,k,h=>N4 (args:=l) (k:=fun l'=>k (.nilf::l')) h
 | .func a b::l,k,h=>N4 (args:=l) (k:=fun l'=>k (.func a b::l')) h
 | .agg a::l,k,h=>N4 (args:=l) (k:=fun l'=>k (.agg a::l')) h
 | .tup a::l,k,h=>N4 (args:=l) (k:=fun l'=>k (.tup a::l')) h
 | .yld a::l,k,h=>N4 (args:=l) (k:=fun l'=>k (.yld a::l')) h
 | .rcd p ps a b::l,k,h=>N4 (args:=l) (k:=fun l'=>k (.rcd p ps a b::l')) h
theorem Ue {nm:Bool} {args:List AV} {k:List AV→Prop} (h:namL nm args k):k args:=by
 cases nm
 ·exact h
 ·exact N4 h
theorem gW {nm:Bool} {s:Md} {F:Fr} {d:Option Tmp} {v:AV} {k:Fr→Prop} (h:dL nm s F d v k):k (put F d v):=by
 unfold dL at h;split at h
 ·exact J4 h
 ·split at h
  ·exact J4 (h _ rfl)
  ·exact J4 h
theorem gV {sp nm:Bool} {s:Md} {F:Fr} {d:Option Tmp} {v:AV} {k:Fr→Prop} (h:dJ sp nm s F d v k):k (put F d v):=by
 unfold dJ at h;split at h
 ·exact gW h
 ·split at h
  ·rcases aF2 h with ⟨rfl,h⟩ | ⟨rfl,h⟩<;>exact J4 h
  ·exact gW h
theorem Um {s:Md} {H:Hp} {o:Hop} {k:Hp→Prop} (h:Un s H o k):k (o.act H):=by
 unfold Un at h;split at h
 ·exact h
 ·split at h
  ·exact Cs h
  ·exact Gn h
  ·exact Gn (Cs h)
 ·split at h
  ·exact Cs (Uv h)
  ·exact Gn (Uv h)
  ·exact Gn (Cs (Uv h))
theorem Rp:∀ {s:Md} {o:List Hop} {H:Hp} {k:Hp→Prop},Rq s H o k→k (acts H o)
 | _,[],_,_,h=>h
 | s,o::hs,H,k,h=>Rp (s:=s) (o:=hs) (H:=o.act H) (Um (k:=fun H=>Rq s H hs k) h)
theorem Z2 {op:BinOp} {c b:Bool} {v:AV} (h:Fa op c b=some (true,v)):c=true∧((op=.eql∧v=.bool b)∨(op=.neq∧v=.bool (!b))):=by
 unfold Fa at h;split at h
 ·simp at h;exact ⟨h.1,.inl ⟨rfl,h.2.symm⟩⟩
 ·simp at h;exact ⟨h.1,.inr ⟨rfl,h.2.symm⟩⟩
 ·simp at h
theorem On {d:Option TypeDesc} (h:Jo d=true):∃ e,d=some (.pointer e):=by
 unfold Jo at h;split at h
 ·exact ⟨_,rfl⟩
 ·simp at h
theorem Sr {d:Option TypeDesc} (h:Ih d=true):∃ e,d=some (.slice e):=by
 unfold Ih at h;split at h
 ·exact ⟨_,rfl⟩
 ·simp at h
theorem Ui {d:Option TypeDesc} (h:Li d=true):∃ a b c,d=some (.func a b c):=by
 unfold Li at h;split at h
 ·exact ⟨_,_,_,rfl⟩
 ·simp at h
theorem nH {d:Option TypeDesc} (h:Xb d=true):d=some .bool:=by
 unfold Xb at h;split at h
 ·rfl
 ·simp at h
theorem Z8 {P:Program} {w:World} {op:BinOp} {t:TypeId} {x y:Value} {b:Bool} {v:AV} {ρ:Env}
  (he:binOp .eql t x y=(do pure (.bool (←Op.equal t x y)))) (hn:binOp .neq t x y=(do pure (.bool (!(←Op.equal t x y)))))
  (hb:(Op.equal t x y).run P w=.ok b w) (hv:(op=.eql∧v=.bool b)∨(op=.neq∧v=.bool (!b))) :
  ∃ cv,(binOp op t x y).run P w=.ok cv w∧VR ρ v cv:=by
 rcases hv with ⟨rfl,rfl⟩ | ⟨rfl,rfl⟩
 ·exact ⟨.bool b,by rw [he];simp [hb],by simp [VR]⟩
 ·exact ⟨.bool (!b),by rw [hn];simp [hb],by simp [VR]⟩
def O2:AV→Value
 | .int k n=>.int k n
 | .bool b=>.bool b
 | _=>.tuple #[]
theorem oT {P:Program} {w:World} {ρ:Env} {op:BinOp} {k:IntKind} {a b:Int} {v:AV} (t:TypeId) (hs:op≠.shl∧op≠.shr) (h:Vp op k a b=some (true,v)) :
  ∃ cv,(binOp op t (.int k a) (.int k b)).run P w=.ok cv w∧VR ρ v cv:=by
 cases op<;>simp only [Vp,zN,xH,true_and,Bool.not_eq_true',reduceCtorEq] at h<;>first
  | (subst h;refine ⟨O2 (.int _ _),?_,by simp only [VR,O2];rfl⟩;simp [binOp,O2,Op.intArith,Op.intBits,P1,Kh,Gw,eJ];done)
  | (subst h;refine ⟨O2 (.bool _),?_,by simp only [VR,O2];rfl⟩;simp [binOp,O2,Op.intCmp];done)
  | (obtain ⟨h0,rfl⟩:=h;refine ⟨O2 (.int _ _),?_,by simp only [VR,O2];rfl⟩;simp [binOp,O2,Op.intDiv,(beq_eq_false_iff_ne.1 h0)];done)
theorem Qf {P:Program} {w:World} {ρ:Env} {op:BinOp} {k k':IntKind} {a b:Int} {v:AV} (t:TypeId) (h:Mt op k a b=some (true,v)) :
  ∃ cv,(binOp op t (.int k a) (.int k' b)).run P w=.ok cv w∧VR ρ v cv:=by
 cases op<;>simp only [Mt,zN,xH,reduceCtorEq] at h
 ·obtain ⟨h0,rfl⟩:=h;have h0:¬b<0:=by have:=zR h0;omega
  refine ⟨O2 (.int _ _),?_,by simp only [VR,O2];rfl⟩;simp [binOp,O2,Op.shift,h0,V7,S4]
 ·obtain ⟨h0,rfl⟩:=h;have h0:¬b<0:=by have:=zR h0;omega
  refine ⟨O2 (.int _ _),?_,by simp only [VR,O2];rfl⟩;simp [binOp,O2,Op.shift,h0,V7,S4]
theorem Nb (s:List UInt8):(ByteArray.mk s.toArray).toList=s:=by rw [ByteArray.toList_eq]
theorem oS {P:Program} {w:World} {ρ:Env} {op:BinOp} {a b:List UInt8} {v:AV} (t:TypeId) (h:Vn op a b=some (true,v)) :
  ∃ cv,(binOp op t (.string ⟨a.toArray⟩) (.string ⟨b.toArray⟩)).run P w=.ok cv w∧VR ρ v cv:=by
 cases op<;>simp only [Vn,zN,xH,true_and,reduceCtorEq] at h
 ·obtain ⟨h0,rfl⟩:=h;have h0:=zR h0;refine ⟨.string ⟨(a++b).toArray⟩,?_,by simp [VR]⟩;have e1:(ByteArray.mk a.toArray).size=a.length:=by simp [ByteArray.size]
  have e2:(ByteArray.mk b.toArray).size=b.length:=by simp [ByteArray.size]
  have e3:(ByteArray.mk a.toArray)++(ByteArray.mk b.toArray)=⟨(a++b).toArray⟩:=by
   apply ByteArray.ext;rw [ByteArray.data_append];simp
  have hm:¬(((ByteArray.mk a.toArray).size+(ByteArray.mk b.toArray).size:Nat):Int)>IntKind.i64.max:=by
   rw [e1,e2];simp [IntKind.max,IntKind.bits,IntKind.signed];omega
  simp only [binOp,Op.stringOp];rw [if_neg hm,e3];rfl
 ·subst h;refine ⟨O2 (.bool _),?_,by simp only [VR,O2];rfl⟩;simp [binOp,O2,Op.stringOp,Nb]
 ·subst h;refine ⟨O2 (.bool _),?_,by simp only [VR,O2];rfl⟩;simp [binOp,O2,Op.stringOp,Nb]
theorem Ka {P:Program} {t:TypeId} {i:TypeInfo} (h:P.info? t=some i) (w:World):(typeInfo t).run P w=.ok i w:=by simp [typeInfo,h]
theorem aF {P:Program} {t:TypeId} {z:Nat} (h:I0 P t=some z):∃ i,P.info? t=some i∧i.size=z:=by
 unfold I0 at h;cases hi:P.info? t with
 | none=>simp [hi] at h
 | some i=>simp [hi] at h;exact ⟨i,rfl,h⟩
theorem K4 {P:Program} {t:TypeId} {z:Nat} (h:I0 P t=some z) (w:World):(sizeOf t).run P w=.ok z w:=by
 obtain ⟨i,hi,rfl⟩:=aF h;simp [sizeOf,Ka hi]
def Zv:TypeDesc→Bool
 | .struct _ | .array _ _=>true
 | _=>false
theorem Ii {k:IntKind} {cs:List AV} {off:Nat} (h:isI k cs off=true):cs[off]?=some (.int k (A2 cs off)):=by
 unfold isI at h;split at h
 ·rename_i k' n hc;simp at h;subst h;simp [A2,hc]
 ·simp at h
theorem Zg {cs:List AV} {off:Nat} (h:isB cs off=true):cs[off]?=some (.bool (G8 cs off)):=by
 unfold isB at h;split at h
 ·rename_i b hc;simp [G8,hc]
 ·simp at h
theorem Ez {P:Program} {t:TypeId} {d:TypeDesc} (ht:P.underlying t=some d) (w:World) :
  (isAgg t).run P w=.ok (Zv d) w:=by
 unfold isAgg;simp only [Sem.run_bind,run_underlying ht,Result.andThen_ok];cases d<;>rfl
theorem Dn {P:Program} {ρ:Env} {w:World} {cs:List AV} {vs:Array Value} (hv:VRs ρ cs vs.toList) {off:Nat} {t:TypeId} {v:AV} (h:V4 P t cs off=some (true,v)) :
  ∃ cv,(part t vs off).run P w=.ok cv w∧VR ρ v cv:=by
 have one:∀ {d v},P.underlying t=some d→Zv d=false→cs[off]?=some v→∃ cv,(part t vs off).run P w=.ok cv w∧VR ρ v cv:=by
  intro d v hd hb hx;obtain ⟨cv,h1,h2⟩:=U0 hv off v hx;refine ⟨cv,?_,h2⟩
  have:vs[off]?=some cv:=by simpa using h1
  unfold part;simp only [Sem.run_bind,Ez hd,Result.andThen_ok,hb,Bool.false_eq_true,if_false,this,Sem.run_pure]
 have many:∀ {d z},P.underlying t=some d→Zv d=true→I0 P t=some z→off+z≤cs.length→
   ∃ cv,(part t vs off).run P w=.ok cv w∧VR ρ (.agg ((cs.drop off).take z)) cv:=by
  intro d z hd hb hz hl;refine ⟨.agg (vs.extract off (off+z)),?_,?_⟩
  ·unfold part;simp only [Sem.run_bind,Ez hd,Result.andThen_ok,hb,if_true,K4 hz,Sem.run_pure]
  ·simp only [VR];refine ⟨_,rfl,?_⟩
   have:=aQ9 (aR0 hv off) z
   simpa [List.extract_eq_take_drop] using this
 unfold V4 at h;split at h
 ·rename_i k hd;simp only [zN,xH] at h;obtain ⟨h1,rfl⟩:=h;exact one hd rfl (Ii h1)
 ·rename_i hd;simp only [zN,xH] at h;obtain ⟨h1,rfl⟩:=h;exact one hd rfl (Zg h1)
 ·rename_i fs hd;split at h
  ·rename_i z hz;simp only [zN,xH,qC] at h;obtain ⟨h1,rfl⟩:=h;exact many hd rfl hz h1
  ·simp at h
 ·rename_i n e hd;split at h
  ·rename_i z hz;simp only [zN,xH,qC] at h;obtain ⟨h1,rfl⟩:=h;exact many hd rfl hz h1
  ·simp at h
 ·rename_i d h1 h2 h3 h4 hd;split at h
  ·rename_i v' hv';simp only [zN,xH,true_and] at h;subst h;refine one hd ?_ hv';cases d<;>first | rfl | exact absurd rfl (h3 _) | exact absurd rfl (h4 _ _)
  ·simp at h
 ·simp at h
theorem Rv {P:Program} {ρ:Env} {w:World} {d:Nat} {rec:TypeId→AV→AV→Option (Bool×Bool)} (hrec:∀ t x y cx cy b,VR ρ x cx→VR ρ y cy→rec t x y=some (true,b)→(Op.equalIn d t cx cy).run P w=.ok b w)
  {xs ys:List AV} {cxs cys:Array Value} (hx:VRs ρ xs cxs.toList) (hy:VRs ρ ys cys.toList):∀ (fs:List Field) (b:Bool),Rw P rec xs ys fs=some (true,b)→(Op.eqFields d cxs cys fs).run P w=.ok b w
 | [],b,h=>by simp [Rw] at h;subst h;simp [Op.eqFields]
 | f::fs,b,h=>by
  unfold Rw at h;split at h
  ·rename_i hn;split at h
   ·rename_i c1 a c2 b' h1 h2;split at h
    ·rename_i c3 r c4 s h3 h4;simp only [zN,xH,zO] at h;obtain ⟨⟨rfl,rfl,rfl,rfl⟩,rfl⟩:=h;obtain ⟨ca,g1,g2⟩:=Dn (w:=w) hx h1;obtain ⟨cb,g3,g4⟩:=Dn (w:=w) hy h2;have g5:=hrec _ _ _ _ _ _ g2 g4 h3;have ih:=Rv hrec hx hy fs s h4;simp only [Op.eqFields,if_pos hn,Sem.run_bind,g1,g3,g5,Result.andThen_ok];cases r
     ·simp
     ·simpa using ih
    ·simp at h
   ·simp at h
  ·rename_i hn;have ih:=Rv hrec hx hy fs b h;simp only [Op.eqFields,if_neg hn];exact ih
theorem bT {P:Program} {ρ:Env} {w:World} {d:Nat} {rec:TypeId→AV→AV→Option (Bool×Bool)} (hrec:∀ t x y cx cy b,VR ρ x cx→VR ρ y cy→rec t x y=some (true,b)→(Op.equalIn d t cx cy).run P w=.ok b w)
  {e:TypeId} {z:Nat} {xs ys:List AV} {cxs cys:Array Value} (hx:VRs ρ xs cxs.toList) (hy:VRs ρ ys cys.toList):∀ (is:List Nat) (b:Bool),Ve P rec e z xs ys is=some (true,b)→(Op.eqItems d e z cxs cys is).run P w=.ok b w
 | [],b,h=>by simp [Ve] at h;subst h;simp [Op.eqItems]
 | i::is,b,h=>by
  unfold Ve at h;split at h
  ·rename_i c1 a c2 b' h1 h2;split at h
   ·rename_i c3 r c4 s h3 h4;simp only [zN,xH,zO] at h;obtain ⟨⟨rfl,rfl,rfl,rfl⟩,rfl⟩:=h;obtain ⟨ca,g1,g2⟩:=Dn (w:=w) hx h1;obtain ⟨cb,g3,g4⟩:=Dn (w:=w) hy h2;have g5:=hrec _ _ _ _ _ _ g2 g4 h3;have ih:=bT hrec hx hy is s h4;simp only [Op.eqItems,Sem.run_bind,g1,g3,g5,Result.andThen_ok];cases r
    ·simp
    ·simpa using ih
   ·simp at h
  ·simp at h
theorem iN {P:Program} {ρ:Env} {w:World}:∀ (n d:Nat) (t:TypeId) (x y:AV) (cx cy:Value) (b:Bool),n≤d→VR ρ x cx→VR ρ y cy→Su P n t x y=some (true,b)→(Op.equalIn d t cx cy).run P w=.ok b w
 | 0,d,t,x,y,cx,cy,b,_,_,_,h=>by simp [Su] at h
 | n+1,d,t,x,y,cx,cy,b,hd,hx,hy,h=>by
  obtain ⟨d,rfl⟩:∃ d',d=d'+1:=⟨d - 1,by omega⟩;have hrec:∀ t x y cx cy b,VR ρ x cx→VR ρ y cy→Su P n t x y=some (true,b)→(Op.equalIn d t cx cy).run P w=.ok b w:=fun t x y cx cy b h1 h2 h3=>iN n d t x y cx cy b (by omega) h1 h2 h3;unfold Su at h;split at h
  ·rename_i k hu;split at h
   ·simp only [zN,xH,qC] at h;obtain ⟨rfl,rfl⟩:=h;simp only [VR] at hx hy;subst hx hy;exact run_equalIn_int w d t _ k _ _ hu
   ·simp at h
  ·rename_i hu;split at h
   ·simp only [zN,xH,true_and] at h;subst h;simp only [VR] at hx hy;subst hx hy;exact run_equalIn_bool' w d t _ _ hu
   ·simp at h
  ·rename_i hu;split at h
   ·simp only [zN,xH,true_and] at h;subst h;simp only [VR] at hx hy;subst hx hy;rw [run_equalIn_string w d t _ _ hu,Nb,Nb]
   ·simp at h
  ·rename_i fs hu;split at h
   ·split at h
    ·simp at h
    ·rename_i hs;simp only [VR] at hx hy;obtain ⟨cxs,rfl,hx⟩:=hx;obtain ⟨cys,rfl,hy⟩:=hy;have hf:P.fieldsOf t=fs:=by simp [Program.fieldsOf,hu]
     rw [run_equalIn_struct w d t cxs cys (by rw [hf];exact hu) hs,hf];exact Rv hrec hx hy _ _ h
   ·simp at h
  ·rename_i m e hu;split at h
   ·split at h
    ·rename_i z hz;simp only [VR] at hx hy;obtain ⟨cxs,rfl,hx⟩:=hx;obtain ⟨cys,rfl,hy⟩:=hy;obtain ⟨i,hi,hsz⟩:=aF hz;rw [run_equalIn_array w d cxs cys hu hi];have hc:P.cellsOf e=z:=by simp [Program.cellsOf,hi,hsz]
     rw [hc];exact bT hrec hx hy _ _ h
    ·simp at h
   ·simp at h
  ·simp at h
theorem Do {P:Program} {w:World} {t:TypeId} {x y:Value} {r:Result Bool} (h:∀ d,(Op.equalIn (d+1) t x y).run P w=r):(Op.equal t x y).run P w=r:=h 9999
theorem vW {P:Program} {w:World} {t:TypeId} (ht:P.underlying t=some .bool) (a b:Bool):(Op.equal t (.bool a) (.bool b)).run P w=.ok (a==b) w:=by
 exact Do fun d=>by simp [Op.equalIn,run_underlying ht]
theorem Ss {P:Program} {w:World} {t e:TypeId} (ht:P.underlying t=some (.pointer e)) (a:Addr):(Op.equal t (.pointer (some a)) (.pointer none)).run P w=.ok false w:=by
 exact Do fun d=>by simp [Op.equalIn,run_underlying ht]
theorem Kg {P:Program} {w:World} {t e:TypeId} (ht:P.underlying t=some (.pointer e)) (a:Option Addr):(Op.equal t (.pointer none) (.pointer a)).run P w=.ok a.isNone w:=by
 exact Do fun d=>by simp [Op.equalIn,run_underlying ht]
theorem Nz {P:Program} {w:World} {t e:TypeId} (ht:P.underlying t=some (.slice e)) (a:Option Addr) (n c:Nat):(Op.equal t (.slice a n c) (.slice none 0 0)).run P w=.ok a.isNone w:=by
 exact Do fun d=>by cases a<;>simp [Op.equalIn,run_underlying ht]
theorem fI {P:Program} {w:World} {t:TypeId} {x y:Array TypeId} {z:Bool} (ht:P.underlying t=some (.func x y z)) (f:Fn) (a b:Array Value):(Op.equal t (.func f a b) .nilFunc).run P w=.ok false w:=by
 exact Do fun d=>by simp [Op.equalIn,run_underlying ht]
theorem fG {P:Program} {w:World} {t:TypeId} {x y:Array TypeId} {z:Bool} (ht:P.underlying t=some (.func x y z)):(Op.equal t .nilFunc .nilFunc).run P w=.ok true w:=by
 exact Do fun d=>by simp [Op.equalIn,run_underlying ht]
theorem pU {P:Program} {w:World} {ρ:Env} {op:BinOp} {t:TypeId} {x y v:AV} {cx cy:Value} (hx:VR ρ x cx) (hy:VR ρ y cy)
  (h:T9 P op t x y=some (true,v)):∃ cv,(binOp op t cx cy).run P w=.ok cv w∧VR ρ v cv:=by
 unfold T9 at h;split at h
 ·rename_i k a k' b;simp only [VR] at hx hy;subst hx hy;split at h
  ·exact Qf t h
  ·exact Qf t h
  ·rename_i h1 h2;split at h
   ·rename_i hk;subst hk;exact oT t ⟨h1,h2⟩ h
   ·simp at h
 ·simp only [VR] at hx hy;subst hx hy;exact oS t h
 ·simp only [VR] at hx hy;subst hx hy;obtain ⟨hc,hv⟩:=Z2 h;exact Z8 rfl rfl (vW (nH hc) _ _) hv
 ·rename_i r off;simp only [VR] at hx hy;subst hy;obtain ⟨hc,hv⟩:=Z2 h;obtain ⟨e,he⟩:=On hc;cases r with
  | rw i=>obtain ⟨_,_,rfl⟩:=hx;exact Z8 rfl rfl (Ss he _) hv
  | ro i=>obtain ⟨_,_,_,rfl⟩:=hx;exact Z8 rfl rfl (Ss he _) hv
 ·rename_i r off;simp only [VR] at hx hy;subst hx;obtain ⟨hc,hv⟩:=Z2 h;obtain ⟨e,he⟩:=On hc;cases r with
  | rw i=>obtain ⟨_,_,rfl⟩:=hy;exact Z8 rfl rfl (Kg he _) hv
  | ro i=>obtain ⟨_,_,_,rfl⟩:=hy;exact Z8 rfl rfl (Kg he _) hv
 ·simp only [VR] at hx hy;subst hx hy;obtain ⟨hc,hv⟩:=Z2 h;obtain ⟨e,he⟩:=On hc;exact Z8 rfl rfl (Kg he _) hv
 ·rename_i r off len;simp only [VR] at hx hy;subst hy;obtain ⟨hc,hv⟩:=Z2 h;obtain ⟨e,he⟩:=Sr hc;obtain ⟨ca,cap,rfl,hl,hca⟩:=hx
  have hs:∃ y,ca=some y:=by
   rcases hca with ⟨_,_,h⟩ | ⟨h,_⟩ | h
   ·simp at h
   ·exact h
   ·cases r with
    | rw i=>obtain ⟨_,_,h,_⟩:=h;exact ⟨_,h⟩
    | ro i=>obtain ⟨_,_,_,h⟩:=h;exact ⟨_,h⟩
  obtain ⟨y,rfl⟩:=hs;exact Z8 rfl rfl (Nz he _ _ _) hv
 ·simp only [VR] at hx hy;subst hx hy;obtain ⟨hc,hv⟩:=Z2 h;obtain ⟨e,he⟩:=Sr hc;exact Z8 rfl rfl (Nz he _ _ _) hv
 ·simp only [VR] at hx hy;subst hy;obtain ⟨hc,hv⟩:=Z2 h;obtain ⟨_,_,_,he⟩:=Ui hc;obtain ⟨cs,rfl,_⟩:=hx;exact Z8 rfl rfl (fI he _ _ _) hv
 ·simp only [VR] at hx hy;subst hx hy;obtain ⟨hc,hv⟩:=Z2 h;obtain ⟨_,_,_,he⟩:=Ui hc;exact Z8 rfl rfl (fG he) hv
 ·rename_i xs ys;split at h
  ·simp at h
  ·split at h
   ·rename_i c b he;obtain ⟨hc,hv⟩:=Z2 h;subst hc
    have:=iN (P:=P) (ρ:=ρ) (w:=w) 10 10000 t _ _ cx cy b (by omega) hx hy he
    simp only [VR] at hx hy;obtain ⟨cxs,rfl,hx⟩:=hx;obtain ⟨cys,rfl,hy⟩:=hy;rcases hv with ⟨rfl,rfl⟩ | ⟨rfl,rfl⟩
    ·exact ⟨.bool b,by rw [run_eql_struct,this];rfl,by simp [VR]⟩
    ·exact ⟨.bool (!b),by rw [run_neq_struct,this];rfl,by simp [VR]⟩
   ·simp at h
 ·simp at h
def aR:Value→Bool
 | .agg _ | .nilIface=>false
 | _=>true
def aS:AV→Bool
 | .undef | .agg _=>false
 | _=>true
theorem aK6 {ρ:Env} {x:AV} {cx:Value} (h:aS x=true) (hx:VR ρ x cx):aR cx=true:=by
 cases x with
 | undef=>simp [aS] at h
 | agg _=>simp [aS] at h
 | ptr r off=>
  simp only [VR] at hx;cases r with
  | rw i=>obtain ⟨_,_,rfl⟩:=hx;rfl
  | ro i=>obtain ⟨_,_,_,rfl⟩:=hx;rfl
 | slice mb r off len=>simp only [VR] at hx;obtain ⟨_,_,rfl,_⟩:=hx;rfl
 | func f c=>simp only [VR] at hx;obtain ⟨_,rfl,_⟩:=hx;rfl
 | tup c=>simp only [VR] at hx;obtain ⟨_,rfl,_⟩:=hx;rfl
 | bool b=>simp only [VR] at hx;subst hx;rfl
 | int k n=>simp only [VR] at hx;subst hx;rfl
 | str s=>simp only [VR] at hx;subst hx;rfl
 | nilp=>simp only [VR] at hx;subst hx;rfl
 | nils=>simp only [VR] at hx;subst hx;rfl
 | nilf=>simp only [VR] at hx;subst hx;rfl
 | yld i=>simp only [VR] at hx;obtain ⟨_,_,rfl⟩:=hx;rfl
 | rcd=>simp only [VR] at hx
theorem jJ {P:Program} {w:World} (op:BinOp) (t:TypeId) (x y:Operand) (a b:Value) (h:aR a=true):(eqGuard op t x y a b).run P w=.ok () w:=by
 unfold eqGuard
 cases a<;>first
  | (simp [aR] at h;done)
  | (cases op<;>rfl)
theorem pV {P:Program} {op:BinOp} {t:TypeId} {x y:AV} {r:Bool×AV} (h:T9 P op t x y=some r):aS x=true∨(∃ xs ys,x=.agg xs∧y=.agg ys∧P.eqGuardType P.depth t=false):=by
 unfold T9 at h;split at h<;>first | exact .inl rfl | (simp at h;done) | skip;rename_i xs ys;split at h
 ·simp at h
 ·rename_i hg;exact .inr ⟨xs,ys,rfl,rfl,hg⟩
theorem pW {P:Program} {w:World} {ρ:Env} {op:BinOp} {t:TypeId} {x y:AV} {ox oy:Operand} {cx cy:Value} {r:Bool×AV} (hx:VR ρ x cx) (hy:VR ρ y cy) (h:T9 P op t x y=some r):(eqGuard op t ox oy cx cy).run P w=.ok () w:=by
 rcases pV h with h | ⟨xs,ys,rfl,rfl,hg⟩
 ·exact jJ _ _ _ _ _ _ (aK6 h hx)
 ·simp only [VR] at hx hy;obtain ⟨cxs,rfl,hx⟩:=hx;obtain ⟨cys,rfl,hy⟩:=hy;exact run_eqGuard_agg w op t ox oy _ _ hg
theorem tK {P:Program} {w:World} {ρ:Env} {op:UnOp} {x v:AV} {cx:Value} (hx:VR ρ x cx) (h:lA op x=some (true,v)) :
  ∃ cv,(Op.unary op cx).run P w=.ok cv w∧VR ρ v cv:=by
 unfold lA at h;split at h
 ·simp only [VR] at hx;subst hx;simp only [zN,xH,true_and] at h;subst h;exact ⟨_,rfl,by simp only [VR]⟩
 ·simp only [VR] at hx;subst hx;simp only [zN,xH,true_and] at h;subst h;exact ⟨_,rfl,by simp only [VR,Zd]⟩
 ·simp only [VR] at hx;subst hx;simp only [zN,xH,true_and] at h;subst h;exact ⟨_,rfl,by simp only [VR]⟩
 ·simp at h
theorem oO {P:Program} {w:World} {ρ:Env} {s d:TypeId} {x v:AV} {cx:Value} (hx:VR ρ x cx) (h:Qe P s d x=some (true,v)) :
  ∃ cv,(convert s d cx).run P w=.ok cv w∧VR ρ v cv:=by
 unfold Qe at h;split at h
 ·rename_i ds k k' n hs hd;simp only [VR] at hx;subst hx;simp at h;subst h;refine ⟨O2 (.int _ _),?_,by simp only [VR,O2];rfl⟩;unfold convert;simp only [Sem.run_bind,run_underlying hs,run_underlying hd,Result.andThen_ok];simp [Conv.intToInt,O2]
 ·rename_i ds st hs hd;simp only [VR] at hx;subst hx;simp at h;subst h;refine ⟨.string ⟨st.toArray⟩,?_,by simp only [VR]⟩;unfold convert;simp only [Sem.run_bind,run_underlying hs,run_underlying hd,Result.andThen_ok];rfl
 ·simp at h
theorem Hc (b o n:Nat):(Addr.add ⟨b,o,none⟩ n)=⟨b,o+n,none⟩:=by
 unfold Addr.add;split
 ·rename_i h;subst h;rfl
 ·rfl
theorem S5.add {ρ:Env} {r:Ref} {off:Nat} {v:Value} (h:S5 ρ r off v):∃ a:Addr,v=.pointer (some a)∧∀ n,S5 ρ r (off+n) (.pointer (some (a.add n))):=by
 cases r with
 | rw i=>obtain ⟨e,he,rfl⟩:=h;exact ⟨_,rfl,fun n=>⟨e,he,by rw [Hc]⟩⟩
 | ro i=>obtain ⟨b,d,he,rfl⟩:=h;exact ⟨_,rfl,fun n=>⟨b,d,he,by rw [Hc,Nat.add_assoc]⟩⟩
theorem jI {P:Program} {w:World} {ρ:Env} {s:TypeId} {f:Nat} {x v:AV} {cx:Value} (hx:VR ρ x cx) (h:Qb P s x f=some (true,v)) :
  ∃ cv,(Instr.fieldAt s cx f).run P w=.ok cv w∧VR ρ v cv:=by
 unfold Qb at h;split at h
 ·rename_i fs r off hs;split at h
  ·rename_i fd hf;split at h
   ·simp at h
   ·rename_i z hz hsz;simp at h;subst h;simp only [VR] at hx;obtain ⟨a,rfl,ha⟩:=hx.add;refine ⟨.pointer (some (a.add fd.offset)),?_,by simp only [VR];exact ha _⟩;unfold Instr.fieldAt;simp only [Sem.run_bind,run_underlying hs,Result.andThen_ok,hf,Instr.sureAddr,Sem.run_pure,fieldPlace,K4 hsz,Sem.run_ite];rw [if_neg (by simpa using hz)];rfl
   ·simp at h
  ·simp at h
 ·simp at h
theorem Wv (i z:Nat):Uf i z=i*z:=by
 unfold Uf;split<;>simp
theorem jH {P:Program} {w:World} {ρ:Env} {t:TypeId} {x i v:AV} {cx ci:Value} (hx:VR ρ x cx) (hi:VR ρ i ci) (h:Lj P t x i=some (true,v)) :
  ∃ cv,(Instr.indexAt t cx ci).run P w=.ok cv w∧VR ρ v cv:=by
 unfold Lj at h;split at h
 ·rename_i k n;simp only [VR] at hi;subst hi;split at h
  ·rename_i len e r off ht;split at h
   ·rename_i z hz;simp only [zN,xH,zO,qC] at h;obtain ⟨⟨h0,h1⟩,rfl⟩:=h;simp only [VR] at hx;obtain ⟨a,rfl,ha⟩:=hx.add;refine ⟨.pointer (some (a.add (n.toNat*z))),?_,by simp only [VR];rw [Wv,Nat.add_comm];exact ha _⟩;unfold Instr.indexAt;simp only [Sem.run_bind,asIntOf,Sem.run_pure,run_underlying ht,Result.andThen_ok,Instr.sureAddr,Sem.run_ite,K4 hz];rw [if_pos ⟨h0,h1⟩]
   ·simp at h
  ·rename_i e mb r off len ht;split at h
   ·rename_i z hz;simp only [zN,xH,zO,qC] at h;obtain ⟨⟨h0,h1⟩,rfl⟩:=h;simp only [VR] at hx;obtain ⟨ca,cap,rfl,hl,hc⟩:=hx
    have hp:∃ a,ca=some a∧∀ n,S5 ρ r (off+n) (.pointer (some (a.add n))):=by
     rcases hc with ⟨_,h0,_⟩ | ⟨_,h0⟩ | hc
     ·omega
     ·omega
     ·cases r with
      | rw i=>obtain ⟨e,he,rfl,_⟩:=hc;exact ⟨_,rfl,fun n=>⟨e,he,by rw [Hc]⟩⟩
      | ro i=>obtain ⟨b,d,he,rfl⟩:=hc;exact ⟨_,rfl,fun n=>⟨b,d,he,by rw [Hc,Nat.add_assoc]⟩⟩
    obtain ⟨a,rfl,ha⟩:=hp;refine ⟨.pointer (some (a.add (n.toNat*z))),?_,by simp only [VR];rw [Wv,Nat.add_comm];exact ha _⟩;unfold Instr.indexAt;simp only [Sem.run_bind,asIntOf,Sem.run_pure,run_underlying ht,Result.andThen_ok,Sem.run_ite,K4 hz];rw [if_pos ⟨h0,h1⟩]
   ·simp at h
  ·simp at h
 ·simp at h
theorem pQ {P:Program} {w:World} {ρ:Env} {t ty:TypeId} {x v:AV} {cx:Value} (hx:VR ρ x cx) (h:Nu P t x=some (true,v)) :
  ∃ cv,(Builtin.len_ #[t] ty #[cx]).run P w=.ok cv w∧VR ρ v cv:=by
 unfold Nu at h;split at h
 ·rename_i s ht;simp only [VR] at hx;subst hx;simp at h;subst h;refine ⟨O2 (.int _ _),?_,by simp only [VR,O2];rfl⟩;have e:(ByteArray.mk s.toArray).size=s.length:=by show s.toArray.size=_;simp
  simp [Builtin.len_,run_underlying ht,goInt,O2,e]
 ·rename_i n e ht;simp at h;subst h;refine ⟨O2 (.int _ _),?_,by simp only [VR,O2];rfl⟩;simp [Builtin.len_,run_underlying ht,goInt,O2]
 ·rename_i e mb r off n ht;simp only [VR] at hx;obtain ⟨ca,cap,rfl,_⟩:=hx;simp at h;subst h;refine ⟨O2 (.int _ _),?_,by simp only [VR,O2];rfl⟩;simp [Builtin.len_,run_underlying ht,goInt,O2]
 ·rename_i e ht;simp only [VR] at hx;subst hx;simp at h;subst h;refine ⟨O2 (.int _ _),?_,by simp only [VR,O2];rfl⟩;simp [Builtin.len_,run_underlying ht,goInt,O2]
 ·simp at h
theorem pT {P:Program} {w:World} {ρ:Env} {t ty:TypeId} {x v:AV} {cx:Value} (hx:VR ρ x cx) (h:cE P t x=some (true,v)) :
  ∃ cv,(Builtin.cap_ #[t] ty #[cx]).run P w=.ok cv w∧VR ρ v cv:=by
 unfold cE at h;split at h
 ·rename_i e ht;simp only [VR] at hx;subst hx;simp at h;subst h;refine ⟨O2 (.int _ _),?_,by simp only [VR,O2];rfl⟩;simp [Builtin.cap_,run_underlying ht,goInt,O2]
 ·simp at h
theorem pP {P:Program} {w:World} {ρ:Env} {x y v:AV} {cx cy:Value} (ts:Array TypeId) (ty:TypeId) (hx:VR ρ x cx) (hy:VR ρ y cy) (h:bD x y=some (true,v)) :
  ∃ cv,(Builtin.max_ ts ty #[cx,cy]).run P w=.ok cv w∧VR ρ v cv:=by
 unfold bD at h;split at h
 ·split at h
  ·rename_i hk;subst hk;simp only [VR] at hx hy;subst hx hy;simp at h;subst h;refine ⟨O2 (.int _ _),?_,by simp only [VR,O2];rfl⟩;simp [Builtin.max_,Builtin.max2,O2]
  ·simp at h
 ·simp at h
theorem pO {P:Program} {w:World} {ρ:Env} {x y v:AV} {cx cy:Value} (ts:Array TypeId) (ty:TypeId) (hx:VR ρ x cx) (hy:VR ρ y cy) (h:bB x y=some (true,v)) :
  ∃ cv,(Builtin.min_ ts ty #[cx,cy]).run P w=.ok cv w∧VR ρ v cv:=by
 unfold bB at h;split at h
 ·split at h
  ·rename_i hk;subst hk;simp only [VR] at hx hy;subst hx hy;simp at h;subst h;refine ⟨O2 (.int _ _),?_,by simp only [VR,O2];rfl⟩;simp [Builtin.min_,Builtin.min2,O2]
  ·simp at h
 ·simp at h
theorem Sv {P:Program} {w:World} {ρ:Env} {x:Option AV} {cx:Option Value} {d i:Int} (hx:∀ v,x=some v→∃ c,cx=some c∧VR ρ v c) (hn:x=none→cx=none)
  (h:Y3 x d=some i) (y:Nat) (code:BoundsCode) (h0:0≤i) (h1:i≤y) :
  (cx=none∧i=d)∨∃ c,cx=some c∧(Instr.sliceBound c y code).run P w=.ok i.toNat w:=by
 unfold Y3 at h;split at h
 ·simp at h;exact .inl ⟨hn rfl,h.symm⟩
 ·rename_i k n;simp at h;subst h;obtain ⟨c,rfl,hc⟩:=hx _ rfl;simp only [VR] at hc;subst hc;refine .inr ⟨_,rfl,?_⟩;unfold Instr.sliceBound;simp only [asIntOf,Sem.run_bind,Sem.run_pure,Result.andThen_ok,Sem.run_ite];rw [if_pos ⟨h0,h1⟩]
 ·simp at h
theorem Dy {P:Program} {w:World} {ρ:Env} {lo hi:Option AV} {clo chi:Option Value} {len cap:Nat} {l h:Int} (b:Bool)
  (hlo:∀ v,lo=some v→∃ c,clo=some c∧VR ρ v c) (hlo':lo=none→clo=none) (hhi:∀ v,hi=some v→∃ c,chi=some c∧VR ρ v c) (hhi':hi=none→chi=none)
  (el:Y3 lo 0=some l) (eh:Y3 hi len=some h) (h0:0≤l) (h1:l≤h) (h2:h≤len) (hc:len≤cap) :
  (Instr.sliceBounds b len cap clo chi none).run P w=.ok (l.toNat,h.toNat,cap) w:=by
 unfold Instr.sliceBounds;have hh:=Sv (P:=P) (w:=w) hhi hhi' eh cap (if b then .sliceAcap else .sliceAlen) (by omega) (by omega);have hl:=Sv (P:=P) (w:=w) hlo hlo' el h.toNat .sliceB h0 (by omega);rcases hh with ⟨rfl,rfl⟩ | ⟨c,rfl,hrun⟩
 ·rcases hl with ⟨rfl,rfl⟩ | ⟨c',rfl,hrun'⟩
  ·simp
  ·simp only [Int.toNat_natCast] at hrun';simp [hrun']
 ·rcases hl with ⟨rfl,rfl⟩ | ⟨c',rfl,hrun'⟩
  ·simp [hrun]
  ·simp [hrun,hrun']
theorem jC {P:Program} {w:World} {ρ:Env} {t:TypeId} {x v:AV} {cx:Value} {lo hi:Option AV} {clo chi:Option Value} (hx:VR ρ x cx)
  (hlo:∀ v,lo=some v→∃ c,clo=some c∧VR ρ v c) (hlo':lo=none→clo=none) (hhi:∀ v,hi=some v→∃ c,chi=some c∧VR ρ v c) (hhi':hi=none→chi=none)
  (h:Hs P t x lo hi=some (true,v)) :
  ∃ cv,(Instr.sliceAt t cx clo chi none).run P w=.ok cv w∧VR ρ v cv:=by
 unfold Hs at h;split at h
 ·rename_i e mb r off len ht;split at h
  ·rename_i z l hh hz el eh;simp only [zN,xH,zO,qC] at h;obtain ⟨⟨h0,h1,h2⟩,rfl⟩:=h;rw [Wv];simp only [VR] at hx;obtain ⟨ca,cap,rfl,hl,hc⟩:=hx;refine ⟨.slice (if cap=l.toNat then ca else ca.map (·.add (l.toNat*z))) (hh.toNat - l.toNat) (cap - l.toNat),?_,?_⟩
   ·unfold Instr.sliceAt;simp only [Sem.run_bind,run_underlying ht,Result.andThen_ok];unfold Instr.slice;simp only [Sem.run_bind,run_underlying ht,Result.andThen_ok,Dy (P:=P) (w:=w) true hlo hlo' hhi hhi' el eh h0 h1 h2 hl,K4 hz,Sem.run_pure]
   ·simp only [VR];refine ⟨_,_,rfl,by omega,?_⟩;rcases hc with ⟨rfl,rfl,hm⟩ | ⟨⟨y,rfl⟩,rfl⟩ | hc
    ·exact .inl ⟨by simp,by omega,hm⟩
    ·refine .inr (.inl ⟨?_,by omega⟩)
     split<;>simp
    ·by_cases hcl:cap=l.toNat
     ·refine .inr (.inl ⟨?_,by omega⟩);rw [if_pos hcl];cases r with
      | rw i=>obtain ⟨_,_,rfl,_⟩:=hc;exact ⟨_,rfl⟩
      | ro i=>obtain ⟨_,_,_,rfl⟩:=hc;exact ⟨_,rfl⟩
     ·refine .inr (.inr ?_);rw [if_neg hcl];cases r with
      | rw i=>
       obtain ⟨e,he,rfl,hb⟩:=hc;refine ⟨e,he,by simp [Hc,Nat.add_comm],fun h0=>?_⟩
       have:cap*e.esz≤e.size:=hb (by omega)
       exact Nat.le_trans (Nat.mul_le_mul_right _ (by omega)) this
      | ro i=>
       obtain ⟨b,d,he,rfl⟩:=hc;exact ⟨b,d,he,by simp only [Option.map_some,Hc];congr 2;omega⟩
  ·simp at h
 ·rename_i e ht;split at h
  ·rename_i z l hh hz el eh;simp only [zN,xH,zO,qC] at h;obtain ⟨⟨h0,h1,h2⟩,rfl⟩:=h;simp only [VR] at hx;subst hx;obtain rfl:l=0:=by omega
   obtain rfl:hh=0:=by omega
   refine ⟨.slice none 0 0,?_,by simp only [VR]⟩;unfold Instr.sliceAt;simp only [Sem.run_bind,run_underlying ht,Result.andThen_ok];unfold Instr.slice;have hb:=Dy (P:=P) (w:=w) (len:=0) (cap:=0) true hlo hlo' hhi hhi' el eh (by omega) (by omega) (by omega) (by omega);simp only [Sem.run_bind,run_underlying ht,Result.andThen_ok,hb,K4 hz,Sem.run_pure];rfl
  ·simp at h
 ·rename_i s ht;split at h
  ·rename_i l hh el eh;simp only [zN,xH,zO,qC] at h;obtain ⟨⟨h0,h1,h2⟩,rfl⟩:=h;simp only [VR] at hx;subst hx;have es:(ByteArray.mk s.toArray).size=s.length:=by show s.toArray.size=_;simp
   refine ⟨.string ((ByteArray.mk s.toArray).extract l.toNat hh.toNat),?_,?_⟩
   ·unfold Instr.sliceAt;simp only [Sem.run_bind,run_underlying ht,Result.andThen_ok];unfold Instr.slice;have hb:=Dy (P:=P) (w:=w) (len:=s.length) (cap:=s.length) false hlo hlo' hhi hhi' el eh h0 h1 h2 (zA7 _);simp only [Sem.run_bind,run_underlying ht,Result.andThen_ok,es,Option.isSome_none,Bool.false_eq_true,if_false,hb,Sem.run_pure]
   ·simp only [VR];congr 1;apply ByteArray.ext;rw [ByteArray.data_extract];apply Array.ext';simp [List.extract_eq_take_drop,List.drop_take]
  ·simp at h
 ·simp at h
theorem Ef (v:AV):O3 v=(C1 v).length:=by cases v<;>rfl
theorem Fd {ρ:Env} {v:AV} {cv:Value} (hk:Gv v=true) (h:VR ρ v cv):VRs ρ (C1 v) cv.cells.toList:=by
 by_cases ha:∃ cs,v=.agg cs
 ·obtain ⟨cs,rfl⟩:=ha;simp only [VR] at h;obtain ⟨vs,rfl,hs⟩:=h;exact hs
 ·have e:C1 v=[v]:=by cases v<;>first | rfl | exact absurd ⟨_,rfl⟩ ha
  have e2:cv.cells=#[cv]:=by
   have hp:aR cv=true∨True:=.inr trivial;cases v with
   | undef=>simp [Gv] at hk
   | agg _=>exact absurd ⟨_,rfl⟩ ha
   | ptr r off=>
    simp only [VR] at h;cases r with
    | rw i=>obtain ⟨_,_,rfl⟩:=h;rfl
    | ro i=>obtain ⟨_,_,_,rfl⟩:=h;rfl
   | slice mb r off len=>simp only [VR] at h;obtain ⟨_,_,rfl,_⟩:=h;rfl
   | func f c=>simp only [VR] at h;obtain ⟨_,rfl,_⟩:=h;rfl
   | tup c=>simp only [VR] at h;obtain ⟨_,rfl,_⟩:=h;rfl
   | bool b=>simp only [VR] at h;subst h;rfl
   | int k n=>simp only [VR] at h;subst h;rfl
   | str s=>simp only [VR] at h;subst h;rfl
   | nilp=>simp only [VR] at h;subst h;rfl
   | nils=>simp only [VR] at h;subst h;rfl
   | nilf=>simp only [VR] at h;subst h;rfl
   | yld i=>simp only [VR] at h;obtain ⟨_,_,rfl⟩:=h;rfl
   | rcd=>simp only [VR] at h
  rw [e,e2];simp only [VRs];exact ⟨cv,[],rfl,h,rfl⟩
theorem Oo (cells:List AV) (off:Nat) (v:AV) (h:off+O3 v≤cells.length) (i:Nat) :
  (G3 cells off v)[i]?=if off≤i∧i<off+O3 v then (C1 v)[i - off]? else cells[i]?:=by
 generalize hn:O3 v=n at h ⊢;by_cases ha:∃ cs,v=.agg cs
 ·obtain ⟨cs,rfl⟩:=ha;have hn:cs.length=n:=hn;show (cells.take off++(cs++cells.drop (off+cs.length)))[i]?=if off≤i∧i<off+n then cs[i - off]? else cells[i]?
  have ht:(cells.take off).length=off:=by simp;omega
  by_cases h1:i<off
  ·rw [pY (by omega),zA4,if_pos h1,if_neg (by omega)]
  ·rw [qP (by omega),ht];by_cases h2:i<off+n
   ·rw [pY (by omega),if_pos (by omega)]
   ·rw [qP (by omega),if_neg (by omega),List.getElem?_drop];congr 1;omega
 ·have e:C1 v=[v]:=by cases v<;>first | rfl | exact absurd ⟨_,rfl⟩ ha
  have e1:n=1:=by rw [←hn,Ef,e];rfl
  have e2:G3 cells off v=cells.set off v:=by cases v<;>first | rfl | exact absurd ⟨_,rfl⟩ ha
  rw [e2,e,e1,zA5];rw [e1] at h;by_cases hi:off=i
  ·subst hi;rw [if_pos rfl,if_pos (by omega),if_pos (by omega)];simp
  ·rw [if_neg hi,if_neg (by omega)]
theorem Dt (cells:List AV) (off:Nat) (v:AV) (h:off+O3 v≤cells.length):(G3 cells off v).length=cells.length:=by
 by_cases ha:∃ cs,v=.agg cs
 ·obtain ⟨cs,rfl⟩:=ha;simp only [G3,gJ,O3] at *
  simp;omega
 ·have e2:G3 cells off v=cells.set off v:=by cases v<;>first | rfl | exact absurd ⟨_,rfl⟩ ha
  rw [e2];simp
theorem nT (off:Nat):∀ (vs:List Value) (k:Nat) (cs:Array Value),off+k+vs.length≤cs.size→
  ((vs.zipIdx k).foldl (fun cs (p:Value×Nat)=>cs.setIfInBounds (off+p.2) p.1) cs).size=cs.size∧
  ∀ i,((vs.zipIdx k).foldl (fun cs (p:Value×Nat)=>cs.setIfInBounds (off+p.2) p.1) cs)[i]?=if off+k≤i∧i<off+k+vs.length then vs[i - (off+k)]? else cs[i]?
 | [],k,cs,_=>by simp;intro i h1 h2;omega
 | v::vs,k,cs,h=>by
  simp only [List.zipIdx_cons,List.foldl_cons,List.length_cons] at *;obtain ⟨h1,h2⟩:=nT off vs (k+1) (cs.setIfInBounds (off+k) v) (by simp;omega);refine ⟨by simpa using h1,fun i=>?_⟩;rw [h2 i,Array.getElem?_setIfInBounds];by_cases hi:off+k=i
  ·subst hi;rw [if_neg (by omega),if_pos rfl,if_pos (by omega),if_pos (by omega)];simp
  ·by_cases hr:off+k≤i∧i<off+k+(vs.length+1)
   ·rw [if_pos (by omega),if_pos hr];rw [show i - (off+k)=(i - (off+(k+1)))+1 by omega];simp
   ·rw [if_neg (by omega),if_neg hi,if_neg hr]
theorem vH {ρ:Env} {cells:List AV} {cs:Array Value} {v:AV} {cv:Value} {off:Nat} (hk:Gv v=true) (hv:VR ρ v cv) (hc:VRs ρ cells cs.toList) (h:off+O3 v≤cells.length) :
  VRs ρ (G3 cells off v) ((cv.cells.zipIdx.foldl (fun cs (p:Value×Nat)=>cs.setIfInBounds (off+p.2) p.1) cs)).toList:=by
 have hl:=E6 hc;have hcv:=Fd hk hv;have hlv:=E6 hcv;rw [←Ef] at hlv;simp only [Array.length_toList] at hl hlv;have hf:=nT off cv.cells.toList 0 cs (by simp;omega);rw [←Array.foldl_toList,Array.toList_zipIdx];refine Jw (by simp only [Array.length_toList];rw [hf.1,Dt _ _ _ h,hl]) fun i a ha=>?_;rw [Oo _ _ _ h] at ha;rw [Array.getElem?_toList,hf.2 i];simp only [Nat.add_zero,Array.length_toList,hlv];split at ha
 ·rename_i hr;rw [if_pos hr];exact U0 hcv _ a ha
 ·rename_i hr;rw [if_neg hr]
  have:=U0 hc i a ha
  simpa using this
theorem Gz {ρ:Env} (place:Nat→Option (Nat×Nat)):∀ (parts:List (Nat×AV)) (cparts:List (Nat×Value)) (cells:List AV) (cs:Array Value) (r:List AV),
  Dg place cells parts=some (true,r)→VRs ρ cells cs.toList→cparts.length=parts.length→
  (∀ (j:Nat) i v,parts[j]?=some (i,v)→∃ cv,cparts[j]?=some (i,cv)∧VR ρ v cv)→∃ cr,Instr.fill place cs cparts=some cr∧VRs ρ r cr.toList∧cr.size=cs.size
 | [],cparts,cells,cs,r,h,hc,hl,hp=>by
  obtain rfl:cparts=[]:=List.eq_nil_of_length_eq_zero (by simpa using hl);simp [Dg] at h;subst h;exact ⟨cs,rfl,hc,rfl⟩
 | (i,v)::parts,cparts,cells,cs,r,h,hc,hl,hp=>by
  obtain ⟨cv,hcv,hv⟩:=hp 0 i v rfl;cases cparts with
  | nil=>simp at hcv
  | cons p cparts=>
   simp at hcv;subst hcv;simp only [Dg] at h;split at h
   ·simp at h
   ·rename_i off size hpl;split at h
    ·simp at h
    ·rename_i c r' hr;simp only [zN,xH,zO,qC,beq_iff_eq] at h;obtain ⟨⟨hk,hsz,hoff,rfl⟩,rfl⟩:=h;have hlc:=E6 hc;have hcl:=E6 (Fd hk hv);rw [←Ef] at hcl;simp only [Array.length_toList] at hlc hcl;have hcs:=vH (off:=off) hk hv hc (by omega);obtain ⟨cr,h1,h2,h3⟩:=Gz place parts cparts _ _ _ hr hcs (by simpa using hl) fun j i' v' hj=>by simpa using hp (j+1) i' v' (by simpa using hj)
     refine ⟨cr,?_,h2,h3.trans ?_⟩
     ·simp only [Instr.fill,hpl];rw [if_neg (by simp;omega)];exact h1
     ·have:=E6 hcs
      rw [Dt _ _ _ (by omega)] at this;simp only [Array.length_toList] at this;omega
theorem V9 {P:Program} {t:TypeId} {z:AV} (h:Y4 P t=some z):∃ i v,P.info? t=some i∧i.zero=some v∧z=D7 v:=by
 unfold Y4 at h;split at h
 ·rename_i i hi;split at h
  ·rename_i v hv;simp at h;exact ⟨i,v,hi,hv,h.symm⟩
  ·simp at h
 ·simp at h
theorem W2 {P:Program} {t:TypeId} {i:TypeInfo} {v:Value} (hi:P.info? t=some i) (hv:i.zero=some v) (w:World):(zeroValue t).run P w=.ok v w:=by
 simp [zeroValue,Ka hi,hv]
theorem aK {P:Program} {w:World}:∀ (fs:List Field) (ps:List (Nat×Nat)),Ia P fs=some ps→
  (fs.mapM (m:=Sem) fun f=>do pure (f.offset,←sizeOf f.type)).run P w=.ok ps w
 | [],ps,h=>by simp [Ia] at h;subst h;rfl
 | f::fs,ps,h=>by
  simp only [Ia] at h;split at h
  ·rename_i z r hz hr;simp at h;subst h;have ih:=aK (w:=w) fs r hr;simp only [List.mapM_cons,Sem.run_bind,K4 hz,Result.andThen_ok,Sem.run_pure,ih]
  ·simp at h
theorem jM {P:Program} {w:World} {ρ:Env} {t:TypeId} {parts:List (Nat×AV)} {cparts:Array (Nat×Value)} {v:AV}
  (hl:cparts.toList.length=parts.length) (hp:∀ (j:Nat) i v,parts[j]?=some (i,v)→∃ cv,cparts.toList[j]?=some (i,cv)∧VR ρ v cv)
  (h:Lm P t parts=some (true,v)):∃ cv,(Instr.build t cparts).run P w=.ok cv w∧VR ρ v cv:=by
 unfold Lm at h;split at h
 ·rename_i fs z ht hz;split at h
  ·rename_i ps hps;split at h
   ·rename_i c cs hf;simp only [zN,xH] at h;obtain ⟨rfl,rfl⟩:=h;obtain ⟨i,zv,hi,hzv,hzz⟩:=V9 hz
    have hzr:VRs ρ z zv.cells.toList:=by
     have:=Hd ρ zv
     rw [←hzz] at this;exact Fd rfl this
    obtain ⟨cr,h1,h2,_⟩:=Gz (ρ:=ρ) _ parts cparts.toList z zv.cells cs hf hzr hl hp;refine ⟨.agg cr,?_,by simp only [VR];exact ⟨cr,rfl,h2⟩⟩;unfold Instr.build
    have hpl:(fs.mapM (m:=Sem) fun f=>do pure (f.offset,←sizeOf f.type)).run P w=.ok ps.toArray w:=by
     rw [Array.mapM_eq_mapM_toList];simp only [Sem.run_map,aK fs.toList ps hps,Result.andThen_ok]
    simp only [Sem.run_bind,W2 hi hzv,Result.andThen_ok,run_underlying ht,hpl];have e:(fun x:Nat=>ps.toArray[x]?)=fun i:Nat=>ps[i]?:=by funext x;simp
    rw [e,h1];rfl
   ·simp at h
  ·simp at h
 ·rename_i n e z ht hz;split at h
  ·rename_i n' hn;split at h
   ·rename_i c cs hf;simp only [zN,xH] at h;obtain ⟨rfl,rfl⟩:=h;obtain ⟨i,zv,hi,hzv,hzz⟩:=V9 hz
    have hzr:VRs ρ z zv.cells.toList:=by
     have:=Hd ρ zv
     rw [←hzz] at this;exact Fd rfl this
    obtain ⟨cr,h1,h2,_⟩:=Gz (ρ:=ρ) _ parts cparts.toList z zv.cells cs hf hzr hl hp;refine ⟨.agg cr,?_,by simp only [VR];exact ⟨cr,rfl,h2⟩⟩;unfold Instr.build;simp only [Sem.run_bind,W2 hi hzv,Result.andThen_ok,run_underlying ht,K4 hn,h1];rfl
   ·simp at h
  ·simp at h
 ·simp at h
theorem mM {P:Program} {w:World} {ρ:Env} {c a b v:AV} {cc ca cb:Value} (hc:VR ρ c cc) (ha:VR ρ a ca) (hb:VR ρ b cb) (h:Tw c a b=some (true,v)) :
  ∃ cv,(do pure (if ←asBool cc then ca else cb):Sem Value).run P w=.ok cv w∧VR ρ v cv:=by
 unfold Tw at h;split at h
 ·simp only [VR] at hc;subst hc;simp at h;subst h;exact ⟨ca,by simp [asBool],ha⟩
 ·simp only [VR] at hc;subst hc;simp at h;subst h;exact ⟨cb,by simp [asBool],hb⟩
 ·simp at h
theorem uN {P:Program} {w:World} {ρ:Env} {F:Fr} {a:Act} {o:Oper} {v:AV} (hF:D0 ρ F a) (h:G5 P F o.op=some (true,v)) :
  ∃ cv,(execOp a.eval o).run P w=.ok (.value cv) w∧VR ρ v cv:=by
 have E:=fun x=>Ij hF x
 have wrap:∀ {s:Sem Value} {v:AV},(∃ cv,s.run P w=.ok cv w∧VR ρ v cv)→∃ cv,(do pure (Next.value (←s)):Sem Next).run P w=.ok (.value cv) w∧VR ρ v cv:=by
  rintro s v ⟨cv,h1,h2⟩;exact ⟨cv,by simp [h1],h2⟩
 obtain ⟨dst,op,type,pos,after,guard⟩:=o;simp only at h;unfold G5 at h;unfold execOp;split at h
 ·simp at h;subst h;exact ⟨_,rfl,E _⟩
 ·simp at h;subst h;exact ⟨_,rfl,E _⟩
 ·have:=mM (P:=P) (w:=w) (E _) (E _) (E _) h
  obtain ⟨cv,h1,h2⟩:=this;refine ⟨cv,?_,h2⟩;simp only [Sem.run_bind,Sem.run_pure] at h1 ⊢;generalize Sem.run P (asBool _) w=r at h1 ⊢;cases r with
  | ok b w'=>simp only [Result.andThen_ok] at h1 ⊢;injection h1 with h1 h3;rw [h1,h3]
  | halt x w'=>simp at h1
 ·rename_i x;have hx:=E x;unfold Kr at h;split at h
  ·rename_i r off he;simp at h;subst h;rw [he] at hx;have hx':=hx;simp only [VR] at hx;obtain ⟨a',ha,_⟩:=hx.add;refine ⟨a.eval x,?_,hx'⟩;dsimp only;rw [ha];rfl
  ·rename_i f c he;simp at h;subst h;rw [he] at hx;have hx':=hx;simp only [VR] at hx;obtain ⟨cs,ha,_⟩:=hx;refine ⟨a.eval x,?_,hx'⟩;dsimp only;rw [ha];rfl
  ·rename_i m r off n he;simp at h;subst h;rw [he] at hx;have hx':=hx;simp only [VR] at hx;obtain ⟨ca,cap,ha,_⟩:=hx;refine ⟨a.eval x,?_,hx'⟩;dsimp only;rw [ha];rfl
  ·simp at h
 ·rename_i op' t x y ty;obtain ⟨cv,h1,h2⟩:=pU (w:=w) (E x) (E y) h;have hg:=pW (w:=w) (ox:=x) (oy:=y) (E x) (E y) h;exact wrap ⟨cv,by simp only [Sem.run_bind,hg,Result.andThen_ok,h1],h2⟩
 ·exact wrap (tK (E _) h)
 ·exact wrap (oO (E _) h)
 ·exact wrap (jI (E _) h)
 ·exact wrap (jH (E _) (E _) h)
 ·rename_i t x lo hi;refine wrap (jC (E x) ?_ ?_ ?_ ?_ h)
  ·intro v hv;cases lo with | none=>simp at hv | some l=>simp at hv;subst hv;exact ⟨_,rfl,E l⟩
  ·intro hv;cases lo with | none=>rfl | some l=>simp at hv
  ·intro v hv;cases hi with | none=>simp at hv | some l=>simp at hv;subst hv;exact ⟨_,rfl,E l⟩
  ·intro hv;cases hi with | none=>rfl | some l=>simp at hv
 ·rename_i t parts;refine wrap (jM (by simp) (fun j i v hj=>?_) h);simp only [zA0,Option.map_eq_some_iff,xH] at hj;obtain ⟨p,hp,rfl,rfl⟩:=hj;refine ⟨a.eval p.2,?_,E _⟩;simp only [Array.toList_map,zA0,hp,Option.map_some]
 ·rename_i x i;split at h
  ·rename_i vs he;split at h
   ·rename_i u hu;simp at h;subst h;have hx:=E x;rw [he] at hx;simp only [VR] at hx;obtain ⟨cs,hc,hr⟩:=hx;obtain ⟨cv,h1,h2⟩:=U0 hr i u hu;refine wrap ⟨cv,?_,h2⟩;rw [hc];simp only [Instr.extract]
    have:cs[i]?=some cv:=by simpa using h1
    rw [this];rfl
   ·simp at h
  ·simp at h
 ·rename_i f first cap;split at h
  ·rename_i h0;simp at h;subst h;refine wrap ⟨.func (.func f) #[] (cap.map a.eval),?_,?_⟩
   ·have:first.map a.eval=#[]:=by apply Array.ext';simp;exact Array.size_eq_zero_iff.1 h0
    simp only [Instr.makeFunc,this];rfl
   ·simp only [VR];exact ⟨_,rfl,by rw [Array.toList_map];exact Xt _ _ _ fun x _=>E x⟩
  ·simp at h
 ·rename_i args argTypes;split at h
  ·rename_i x t hx ht;obtain rfl:args=#[x]:=Array.toList_inj.1 (by simpa using hx);obtain rfl:argTypes=#[t]:=Array.toList_inj.1 (by simpa using ht);obtain ⟨cv,h1,h2⟩:=pQ (w:=w) (ty:=type) (E x) h;refine ⟨cv,?_,h2⟩;simp [resolve,invoke,builtin,h1]
  ·simp at h
 ·rename_i args argTypes;split at h
  ·rename_i x t hx ht;obtain rfl:args=#[x]:=Array.toList_inj.1 (by simpa using hx);obtain rfl:argTypes=#[t]:=Array.toList_inj.1 (by simpa using ht);obtain ⟨cv,h1,h2⟩:=pT (w:=w) (ty:=type) (E x) h;refine ⟨cv,?_,h2⟩;simp [resolve,invoke,builtin,h1]
  ·simp at h
 ·rename_i args argTypes;split at h
  ·rename_i x y hx;obtain rfl:args=#[x,y]:=Array.toList_inj.1 (by simpa using hx);obtain ⟨cv,h1,h2⟩:=pP (P:=P) (w:=w) argTypes type (E x) (E y) h;refine ⟨cv,?_,h2⟩;simp [resolve,invoke,builtin,h1]
  ·simp at h
 ·rename_i args argTypes;split at h
  ·rename_i x y hx;obtain rfl:args=#[x,y]:=Array.toList_inj.1 (by simpa using hx);obtain ⟨cv,h1,h2⟩:=pO (P:=P) (w:=w) argTypes type (E x) (E y) h;refine ⟨cv,?_,h2⟩;simp [resolve,invoke,builtin,h1]
  ·simp at h
 ·simp at h
section
variable {C:A1} {ρ:Env} {H:Hp} {w:World}
theorem Xn (hH:B2 C ρ H w) {r:Ref} {cs:List AV} (hc:E5 C H r=some cs) {off:Nat} {a:Addr} (hp:S5 ρ r off (.pointer (some a))) {k:Nat} {v:AV}
  (hv:cs[off+k]?=some v):∃ cv,w.cell? (a.add k)=some cv∧VR ρ v cv:=by
 cases r with
 | rw i=>
  simp only [E5] at hc;split at hc
  ·rename_i b hb;split at hc
   ·simp at hc
   rename_i hrec;simp at hc;subst hc;obtain ⟨e,he,ha⟩:=hp;simp at ha;subst ha;have hl:=hH.live i b hb;rw [he] at hl;obtain ⟨_,cs,ty,fz,hw,hs,hle,hcell,_⟩:=hl.cs hrec;obtain ⟨cv,h1,h2⟩:=hcell _ v hv;refine ⟨cv,?_,h2⟩;rw [Hc];simp [World.cell?,hw,h1]
  ·simp at hc
 | ro i=>
  simp only [E5,zN] at hc;subst hc;obtain ⟨b,d,hr,ha⟩:=hp;simp at ha;subst ha;obtain ⟨cv,h1,h2⟩:=(hH.ro i b d hr).2.2 _ v hv;refine ⟨cv,?_,VR.mono (ρ:=⟨[],ρ.ro,[]⟩) (ρ':=ρ) ⟨fun j x hx=>by simp at hx,fun _ _ _ h=>h,fun D hD=>by simp at hD⟩ v cv h2⟩;rw [Hc,Nat.add_assoc];exact h1
theorem Mr (hH:B2 C ρ H w) {r:Ref} {cs:List AV} (hc:E5 C H r=some cs) {off:Nat} {a:Addr} {n:Nat} (hp:n=0∨S5 ρ r off (.pointer (some a)))
  (hn:off+n≤cs.length):∃ vs:List Value,vs.length=n∧(loadCells a n).run C.P w=.ok vs.toArray w∧VRs ρ ((cs.drop off).take n) vs∧∀ j v,vs[j]?=some v→w.cell? (a.add j)=some v:=by
 have hf:∀ j,j<n→∃ cv,w.cell? (a.add j)=some cv∧VR ρ (cs.getD (off+j) .undef) cv:=fun j hj=>by
  have hlt:off+j<cs.length:=by omega
  refine Xn hH hc (hp.resolve_left (by omega)) ?_;simp [List.getD,hlt]
 refine ⟨(List.range n).map fun j=>(w.cell? (a.add j)).getD undef,by simp,?_,?_,?_⟩
 ·rw [run_loadCells w a n (fun j=>(w.cell? (a.add j)).getD undef) fun j hj=>by obtain ⟨cv,h1,_⟩:=hf j hj;simp [h1]]
 ·refine Jw (by simp;omega) fun i x hx=>?_;rw [zA4] at hx;split at hx
  ·rename_i hi;rw [List.getElem?_drop] at hx;obtain ⟨cv,h1,h2⟩:=hf i hi;refine ⟨cv,by simp [hi,h1],?_⟩;simpa [List.getD,hx] using h2
  ·simp at hx
 ·intro j v hv;by_cases hj:j<n
  ·obtain ⟨cv,h1,_⟩:=hf j hj;simp [hj,h1] at hv;rw [h1,hv]
  ·simp [hj] at hv
theorem jE (hH:B2 C ρ H w) {r:Ref} {cs:List AV} (hc:E5 C H r=some cs) {off:Nat} {a:Addr} (hp:S5 ρ r off (.pointer (some a))) {t:TypeId} {v:AV}
  (h:V4 C.P t cs off=some (true,v)):∃ cv,(loadVar t a).run C.P w=.ok cv w∧VR ρ v cv:=by
 have one:∀ {d v},C.P.underlying t=some d→Zv d=false→cs[off]?=some v→∃ cv,(loadVar t a).run C.P w=.ok cv w∧VR ρ v cv:=by
  intro d v hd hb hv;obtain ⟨cv,h1,h2⟩:=Xn hH hc hp (k:=0) (by simpa using hv);refine ⟨cv,?_,h2⟩;have e:a.add 0=a:=by simp [Addr.add]
  rw [e] at h1;unfold loadVar;simp only [Sem.run_bind,Ez hd,Result.andThen_ok,hb,Bool.false_eq_true,if_false,run_load,h1]
 have many:∀ {d z},C.P.underlying t=some d→Zv d=true→I0 C.P t=some z→off+z≤cs.length→
   ∃ cv,(loadVar t a).run C.P w=.ok cv w∧VR ρ (.agg ((cs.drop off).take z)) cv:=by
  intro d z hd hb hz hl;obtain ⟨vs,_,h1,h2,_⟩:=Mr hH hc (.inr hp) hl;refine ⟨.agg vs.toArray,?_,by simp only [VR];exact ⟨_,rfl,by simpa using h2⟩⟩;unfold loadVar;simp only [Sem.run_bind,Ez hd,Result.andThen_ok,hb,if_true,K4 hz,h1,Sem.run_pure]
 unfold V4 at h;split at h
 ·rename_i k hd;simp only [zN,xH] at h;obtain ⟨h1,rfl⟩:=h;exact one hd rfl (Ii h1)
 ·rename_i hd;simp only [zN,xH] at h;obtain ⟨h1,rfl⟩:=h;exact one hd rfl (Zg h1)
 ·rename_i fs hd;split at h
  ·rename_i z hz;simp only [zN,xH,qC] at h;obtain ⟨h1,rfl⟩:=h;exact many hd rfl hz h1
  ·simp at h
 ·rename_i n e hd;split at h
  ·rename_i z hz;simp only [zN,xH,qC] at h;obtain ⟨h1,rfl⟩:=h;exact many hd rfl hz h1
  ·simp at h
 ·rename_i d h1 h2 h3 h4 hd;split at h
  ·rename_i v' hv;simp only [zN,xH,true_and] at h;subst h;refine one hd ?_ hv;cases d<;>first | rfl | exact absurd rfl (h3 _) | exact absurd rfl (h4 _ _)
  ·simp at h
 ·simp at h
theorem rV {l:Lf} {cs:List AV} {off:Nat} (h:Ao l cs off=true):∃ v,cs[off]?=some v∧∀ cv,VR ρ v cv→VR ρ (Nv l cs off) cv:=by
 cases l with
 | int k=>exact ⟨_,Ii h,fun cv h=>h⟩
 | bool=>exact ⟨_,Zg h,fun cv h=>h⟩
 | str=>
  simp only [Ao,kD] at h;split at h
  ·rename_i s hc;exact ⟨_,hc,fun cv hv=>by simpa [Nv,bK,hc] using hv⟩
  ·simp at h
 | sl=>
  simp only [Ao,Ey] at h;split at h
  ·rename_i hc;refine ⟨_,hc,fun cv hv=>?_⟩;simp only [VR] at hv;subst hv;simp only [Nv,G0,H8,D1,hc,VR];exact ⟨none,0,rfl,zA7 _,.inl ⟨rfl,rfl,rfl⟩⟩
  ·rename_i mb k o n hc;refine ⟨_,hc,fun cv hv=>?_⟩;simp only [VR] at hv;simp only [Nv,G0,H8,D1,hc,VR];obtain ⟨ca,cap,h1,h2,h3⟩:=hv;refine ⟨ca,cap,h1,h2,?_⟩;rcases h3 with ⟨h3,h4,_⟩ | h3
   ·exact .inl ⟨h3,h4,rfl⟩
   ·exact .inr h3
  ·simp at h
theorem nB {cs:List AV}:∀ {ls:List Lf} {off:Nat},G6 cs off ls=true→(ls=[]∨off+ls.length≤cs.length)∧(An cs off ls).length=ls.length∧
  ∀ vs,VRs ρ ((cs.drop off).take ls.length) vs→VRs ρ (An cs off ls) vs
 | [],off,_=>⟨.inl rfl,rfl,fun vs h=>by simpa [An] using h⟩
 | l::ls,off,h=>by
  simp only [G6,zO] at h;obtain ⟨v,h1,h2⟩:=rV (ρ:=ρ) h.1;obtain ⟨h3,h4,h5⟩:=nB (cs:=cs) (ls:=ls) (off:=off+1) h.2;have hlt:off<cs.length:=(zP.1 h1).1;refine ⟨.inr ?_,by simp [An,h4],fun vs hv=>?_⟩
  ·rcases h3 with rfl | h3
   ·simp;omega
   ·simp;omega
  ·have e:(cs.drop off).take (l::ls).length=v::(cs.drop (off+1)).take ls.length:=by
    have:cs.drop off=v::cs.drop (off+1):=by
     rw [List.drop_eq_getElem_cons hlt]
     have:=(zP.1 h1).2
     rw [this]
    rw [this];simp
   rw [e] at hv;simp only [VRs] at hv;obtain ⟨x,xs,rfl,g1,g2⟩:=hv;simp only [An,VRs];exact ⟨x,xs,rfl,h2 x g1,h5 xs g2⟩
theorem Pu (hH:B2 C ρ H w) {r:Ref} {cs:List AV} (hc:E5 C H r=some cs) {off:Nat} {a:Addr} (hp:S5 ρ r off (.pointer (some a))) {t:TypeId} {v:AV}
  (h:Np C.P r t cs off=some (true,v)):∃ cv,(loadVar t a).run C.P w=.ok cv w∧VR ρ v cv:=by
 cases r with
 | rw i=>exact jE hH hc hp h
 | ro i=>
  have one:∀ {d l},C.P.underlying t=some d→Zv d=false→Ao l cs off=true→∃ cv,(loadVar t a).run C.P w=.ok cv w∧VR ρ (Nv l cs off) cv:=by
   intro d l hd hb hl;obtain ⟨v,hv,hw⟩:=rV (ρ:=ρ) hl;obtain ⟨cv,h1,h2⟩:=Xn hH hc hp (k:=0) (by simpa using hv);refine ⟨cv,?_,hw cv h2⟩;have e:a.add 0=a:=by simp [Addr.add]
   rw [e] at h1;unfold loadVar;simp only [Sem.run_bind,Ez hd,Result.andThen_ok,hb,Bool.false_eq_true,if_false,run_load,h1]
  have many:∀ {d z ls},C.P.underlying t=some d→Zv d=true→I0 C.P t=some z→(Nat.beq ls.length z&&G6 cs off ls)=true→
    ∃ cv,(loadVar t a).run C.P w=.ok cv w∧VR ρ (.agg (An cs off ls)) cv:=by
   intro d z ls hd hb hz hl;simp only [zO] at hl;have hz':ls.length=z:=rG hl.1;subst hz';obtain ⟨h3,h4,h5⟩:=nB (ρ:=ρ) hl.2;rcases h3 with rfl | h3
   ·refine ⟨.agg #[],?_,by simp only [VR];exact ⟨_,rfl,by simp [An,VRs]⟩⟩;unfold loadVar;simp only [Sem.run_bind,Ez hd,Result.andThen_ok,hb,if_true,K4 hz,Sem.run_pure];simp [loadCells,loadCellsFrom]
   ·obtain ⟨vs,_,h1,h2,_⟩:=Mr hH hc (.inr hp) h3;refine ⟨.agg vs.toArray,?_,by simp only [VR];exact ⟨_,rfl,by simpa using h5 vs h2⟩⟩;unfold loadVar;simp only [Sem.run_bind,Ez hd,Result.andThen_ok,hb,if_true,K4 hz,h1,Sem.run_pure]
  simp only [Np] at h;unfold jY at h;split at h
  ·rename_i k hd;simp only [zN,xH] at h;obtain ⟨h1,rfl⟩:=h;exact one (l:=.int k) hd rfl h1
  ·rename_i hd;simp only [zN,xH] at h;obtain ⟨h1,rfl⟩:=h;exact one (l:=.bool) hd rfl h1
  ·rename_i hd;simp only [zN,xH] at h;obtain ⟨h1,rfl⟩:=h;exact one (l:=.str) hd rfl h1
  ·rename_i e hd;simp only [zN,xH] at h;obtain ⟨h1,rfl⟩:=h;exact one (l:=.sl) hd rfl h1
  ·rename_i fs hd;split at h
   ·rename_i z ls hz hls;simp only [zN,xH] at h;obtain ⟨h1,rfl⟩:=h;exact many hd rfl hz h1
   ·simp at h
  ·rename_i n e hd;split at h
   ·rename_i z ls hz hls;simp only [zN,xH] at h;obtain ⟨h1,rfl⟩:=h;exact many hd rfl hz h1
   ·simp at h
  ·simp at h
theorem Gx {P:Program} {t:TypeId} (h:W3 P t=true):∃ e,P.underlying t=some (.slice e)∧P.underlying e=some (.int .u8):=by
 unfold W3 at h;split at h
 ·rename_i e he;split at h
  ·rename_i hu;exact ⟨e,he,hu⟩
  ·simp at h
 ·simp at h
theorem If {P:Program} {t:TypeId} (h:Z0 P t=true):P.underlying t=some .string:=by
 unfold Z0 at h;split at h
 ·assumption
 ·simp at h
theorem aZ9 {cs:List AV} {vs:List Value} (hv:VRs ρ cs vs) (h:cs.all Om=true):∃ ns:List Int,vs=ns.map (Value.int .u8)∧cs.map Tb=ns.map fun n=>UInt8.ofNat n.toNat:=by
 induction cs generalizing vs with
 | nil=>simp only [VRs] at hv;subst hv;exact ⟨[],rfl,rfl⟩
 | cons c cs ih=>
  simp only [VRs] at hv;obtain ⟨v,vs',rfl,h1,h2⟩:=hv;simp only [List.all_cons,zO] at h;obtain ⟨ns,rfl,hb⟩:=ih h2 h.2;have hc:=h.1;unfold Om at hc;split at hc
  ·rename_i n;simp only [VR] at h1;subst h1;exact ⟨n::ns,rfl,by simp [Tb,hb]⟩
  ·simp at hc
theorem gK {mb:Bool} {r:Ref} {off len:Nat} {v:Value} (h:Aq ρ mb r off len v):∃ ca cap,v=.slice ca len cap∧(len=0∨∃ a,ca=some a∧S5 ρ r off (.pointer (some a))):=by
 obtain ⟨ca,cap,rfl,hl,hc⟩:=h;refine ⟨ca,cap,rfl,?_⟩;rcases hc with ⟨_,h0,_⟩ | ⟨_,h0⟩ | hc
 ·exact .inl (by omega)
 ·exact .inl (by omega)
 ·refine .inr ?_;cases r with
  | rw i=>obtain ⟨e,he,rfl,_⟩:=hc;exact ⟨_,rfl,e,he,rfl⟩
  | ro i=>obtain ⟨b,d,he,rfl⟩:=hc;exact ⟨_,rfl,b,d,he,rfl⟩
theorem uJ (hH:B2 C ρ H w) {F:Fr} {a:Act} (hF:D0 ρ F a) {o:Oper} {v:AV} (h:M7 C F H o.op=some (true,v)) :
  ∃ cv,(execOp a.eval o).run C.P w=.ok (.value cv) w∧VR ρ v cv:=by
 have E:=fun x=>Ij hF x
 have wrap:∀ {s:Sem Value} {v:AV},(∃ cv,s.run C.P w=.ok cv w∧VR ρ v cv)→∃ cv,(do pure (Next.value (←s)):Sem Next).run C.P w=.ok (.value cv) w∧VR ρ v cv:=by
  rintro s v ⟨cv,h1,h2⟩;exact ⟨cv,by simp [h1],h2⟩
 obtain ⟨dst,op,type,pos,after,guard⟩:=o;simp only at h;unfold M7 at h;unfold execOp;split at h
 ·rename_i t x;split at h
  ·rename_i r off he;unfold Kt at h;split at h
   ·rename_i cs hcs;have hx:=E x;rw [he] at hx;simp only [VR] at hx;have hx2:=hx;obtain ⟨ad,ha,_⟩:=hx.add;rw [ha] at hx2;obtain ⟨cv,h1,h2⟩:=Pu hH hcs hx2 h;refine wrap ⟨cv,?_,h2⟩;rw [ha];simp only [Instr.loadAt,Instr.sureAddr,Sem.run_bind,Sem.run_pure,Result.andThen_ok,h1]
   ·simp at h
  ·simp at h
 ·rename_i t x f;split at h
  ·rename_i fs cs ht he;split at h
   ·rename_i fd hfd;have hx:=E x;rw [he] at hx;simp only [VR] at hx;obtain ⟨vs,hvs,hr⟩:=hx;obtain ⟨cv,h1,h2⟩:=Dn (w:=w) hr h;refine wrap ⟨cv,?_,h2⟩;rw [hvs];simp only [Instr.field,Sem.run_bind,run_underlying ht,Result.andThen_ok,hfd,asAgg,Sem.run_pure,h1]
   ·simp at h
  ·simp at h
 ·rename_i t x i;split at h
  ·rename_i len e cs k n ht he hi;split at h
   ·rename_i z hz;split at h
    ·rename_i c v' hp;simp only [zN,xH,zO,qC] at h;obtain ⟨⟨h0,h1,rfl⟩,rfl⟩:=h;have hx:=E x;rw [he] at hx;have hi':=E i;rw [hi] at hi';simp only [VR] at hx hi';obtain ⟨vs,hvs,hr⟩:=hx;rw [Wv] at hp;obtain ⟨cv,g1,g2⟩:=Dn (w:=w) hr hp;refine wrap ⟨cv,?_,g2⟩;rw [hvs,hi'];simp only [Instr.index,asIntOf,Sem.run_bind,Sem.run_pure,run_underlying ht,Result.andThen_ok,Sem.run_ite,K4 hz,g1];rw [if_pos ⟨h0,h1⟩]
    ·simp at h
   ·simp at h
  ·simp at h
 ·rename_i s d x;split at h
  ·rename_i hb he;simp only [zO] at hb;obtain ⟨e,hs,hu⟩:=Gx hb.1;have hd:=If hb.2;simp at h;subst h;have hx:=E x;rw [he] at hx;simp only [VR] at hx;refine wrap ⟨.string ByteArray.empty,?_,by simp only [VR];rfl⟩;rw [hx];exact run_convert_bytes_nil w s e hs hu 0 0 d hd
  ·rename_i mb r off n hb he;simp only [zO] at hb;obtain ⟨e,hs,hu⟩:=Gx hb.1;have hd:=If hb.2;split at h
   ·rename_i cs hcs;unfold tO at h;simp only [zN,xH,zO,qC] at h;obtain ⟨⟨hl,hall⟩,rfl⟩:=h;have hx:=E x;rw [he] at hx;simp only [VR] at hx;obtain ⟨ca,cap,hcx,hp⟩:=gK hx;by_cases hn:n=0
    ·subst hn;refine wrap ⟨.string ByteArray.empty,?_,by simp only [VR];simp;rfl⟩;rw [hcx];cases ca with
     | none=>exact run_convert_bytes_nil w s e hs hu 0 cap d hd
     | some ad=>
      rw [run_convert_bytes_string w s d e _ 0 cap hs hu hd,run_bytesToString w ad 0 cap [] (by simp [loadCells,loadCellsFrom])];rfl
    ·obtain ⟨ad,rfl,hpt⟩:=hp.resolve_left hn;obtain ⟨vs,hvl,h1,h2,_⟩:=Mr hH hcs (.inr hpt) hl;obtain ⟨ns,rfl,hb2⟩:=aZ9 h2 hall;refine wrap ⟨.string ⟨(ns.map fun n=>UInt8.ofNat n.toNat).toArray⟩,?_,by simp only [VR];rw [hb2]⟩;rw [hcx,run_convert_bytes_string w s d e _ n cap hs hu hd,run_bytesToString w ad n cap ns h1,foldl_push_bytes];simp [ByteArray.empty,ByteArray.emptyWithCapacity];rfl
   ·simp at h
  ·simp at h
 ·simp at h
end
section
variable {C:A1} {ρ:Env} {H:Hp} {w:World}
theorem V8.sub {ρ':Env} (hle:ρ.sub ρ') {b:Blk} {x:Option (Option Q3)} {w':World} (h:V8 ρ b x w)
  (hw:∀ e,x=some (some e)→w'.heap[e.blk]?=w.heap[e.blk]?):V8 ρ' b x w':=by
 match x,h with
 | some (some e),h=>
  cases hr:isRec b with
  | false=>
   obtain ⟨h1,cs,ty,fz,h2,h3,h4,h5,h6⟩:=h.cs hr;exact .of hr ⟨h1,cs,ty,fz,(hw e rfl).trans h2,h3,h4,fun k v hv=>by obtain ⟨cv,g1,g2⟩:=h5 k v hv;exact ⟨cv,g1,VR.sub hle v cv g2⟩,h6⟩
  | true=>
   obtain ⟨h1,r,h2,h3⟩:=h.rec hr;exact .ofRec hr ⟨h1,r,(hw e rfl).trans h2,h3.sub hle⟩
 | some none,h=>exact h
 | none,h=>exact h.elim
theorem V8.mono {ρ':Env} (hle:ρ.le ρ') {b:Blk} {x:Option (Option Q3)} {w':World} (h:V8 ρ b x w)
  (hw:∀ e,x=some (some e)→w'.heap[e.blk]?=w.heap[e.blk]?):V8 ρ' b x w':=h.sub hle.sub hw
def Env.push (ρ:Env) (e:Option Q3):Env:=⟨ρ.rw++[e],ρ.ro,ρ.dfs⟩
theorem Env.le_push (ρ:Env) (e:Option Q3):ρ.le (ρ.push e):=
 ⟨fun i x hx=>by
  show (ρ.rw++[e])[i]?=_;have hi:i<ρ.rw.length:=(zP.1 hx).1
  rw [pY hi];exact hx,fun _ _ _ h=>h,fun _ h=>h⟩
theorem X0 (ρ:Env) (e:Option Q3) (i:Nat) (x:Option Q3) (h:(ρ.push e).rw[i]?=some x):(i<ρ.rw.length∧ρ.rw[i]?=some x)∨(i=ρ.rw.length∧x=e):=by
 change (ρ.rw++[e])[i]?=_ at h;by_cases hi:i<ρ.rw.length
 ·rw [pY hi] at h;exact .inl ⟨hi,h⟩
 ·rw [qP (by omega)] at h
  have h0:i - ρ.rw.length=0:=by
   by_cases h0:i - ρ.rw.length=0
   ·exact h0
   ·rw [zA3 (by simp;omega)] at h;simp at h
  rw [h0] at h;simp at h;exact .inr ⟨by omega,h.symm⟩
theorem Uk (H:Hp) (b:Blk) (i:Nat) (x:Blk) (h:(H++[some b])[i]?=some (some x)):(i<H.length∧H[i]?=some (some x))∨(i=H.length∧x=b):=by
 by_cases hi:i<H.length
 ·rw [pY hi] at h;exact .inl ⟨hi,h⟩
 ·rw [qP (by omega)] at h
  have h0:i - H.length=0:=by
   by_cases h0:i - H.length=0
   ·exact h0
   ·rw [zA3 (by simp;omega)] at h;simp at h
  rw [h0] at h;simp at h;exact .inr ⟨by omega,h.symm⟩
theorem B2.more (hH:B2 C ρ H w) (x:Option Q3) (b:Blk) (he:∀ e,x=some e→C.B≤e.blk∧e.blk<w.heap.size) (hb:V8 (ρ.push x) b (some x) w)
  (hn:∀ e,x=some e→∀ (i:Nat) b' e',H[i]?=some (some b')→ρ.rw[i]?=some (some e')→e'.blk≠e.blk) (hd:∀ e,x=some e→∀ D∈ρ.dfs,e.blk≠D) (hro:∀ e,x=some e→∀ i d,¬ρ.ro i e.blk d):B2 C (ρ.push x) (H++[some b]) w where
 len:=by simp [Env.push,hH.len]
 base:=hH.base
 ents i e h:=by
  rcases X0 ρ x i _ h with ⟨_,h⟩ | ⟨_,h⟩
  ·exact hH.ents i e h
  ·exact he e h.symm
 live i b' h:=by
  rcases Uk H b i b' h with ⟨hi,h⟩ | ⟨rfl,rfl⟩
  ·have:(ρ.push x).rw[i]?=ρ.rw[i]?:=by show (ρ.rw++[x])[i]?=_;rw [pY (by rw [hH.len];exact hi)]
   rw [this];exact (hH.live i b' h).mono (Env.le_push ρ x) fun _ _=>rfl
  ·have:(ρ.push x).rw[H.length]?=some x:=by show (ρ.rw++[x])[H.length]?=_;rw [←hH.len];simp
   rw [this];exact hb
 inj i j b1 b2 e e' h1 h2 h3 h4 h5:=by
  have low:∀ {k:Nat} {e1:Q3},k<H.length→(ρ.push x).rw[k]?=some (some e1)→ρ.rw[k]?=some (some e1):=fun {k} {e1} hk h=>by
   rcases X0 ρ x k _ h with ⟨_,h⟩ | ⟨hk',_⟩
   ·exact h
   ·rw [hH.len] at hk';omega
  have top:∀ {e1:Q3},(ρ.push x).rw[H.length]?=some (some e1)→x=some e1:=fun {e1} h=>by
   rcases X0 ρ x _ _ h with ⟨hl,_⟩ | ⟨_,h⟩
   ·rw [hH.len] at hl;omega
   ·exact h.symm
  rcases Uk H b i b1 h1 with ⟨hi,g1⟩ | ⟨hi,_⟩
  ·rcases Uk H b j b2 h2 with ⟨hj,g2⟩ | ⟨hj,_⟩
   ·exact hH.inj i j b1 b2 e e' g1 g2 (low hi h3) (low hj h4) h5
   ·subst hj;exact absurd h5 (hn e' (top h4) i b1 e g1 (low hi h3))
  ·subst hi;rcases Uk H b j b2 h2 with ⟨hj,g2⟩ | ⟨hj,_⟩
   ·exact absurd h5.symm (hn e (top h3) j b2 e' g2 (low hj h4))
   ·exact hj.symm
 ro i b1 d hr:=by
  refine ⟨(hH.ro i b1 d hr).1,fun j y e h1 h2=>?_,(hH.ro i b1 d hr).2.2⟩;rcases Uk H b j y h1 with ⟨hj,g1⟩ | ⟨hj,_⟩
  ·rcases X0 ρ x j _ h2 with ⟨_,h⟩ | ⟨hl,_⟩
   ·exact (hH.ro i b1 d hr).2.1 j y e g1 h
   ·rw [hH.len] at hl;omega
  ·rcases X0 ρ x j _ h2 with ⟨hl,_⟩ | ⟨_,h⟩
   ·rw [hH.len] at hl;omega
   ·exact fun hb1=>hro e h.symm i d (by rw [hb1];exact hr)
 df D hD:=⟨(hH.df D hD).1,fun i e h=>by
  rcases X0 ρ x i _ h with ⟨_,h⟩ | ⟨_,h⟩
  ·exact (hH.df D hD).2.1 i e h
  ·exact hd e h.symm D hD,(hH.df D hD).2.2⟩
theorem B2.kill (hH:B2 C ρ H w) (j:Nat):B2 C ρ (H.set j none) w:=by
 have key:∀ (i:Nat) b,(H.set j none)[i]?=some (some b)→H[i]?=some (some b):=fun i b h=>by
  rw [zA5] at h;split at h
  ·split at h<;>simp at h
  ·exact h
 exact ⟨by simp [hH.len],hH.base,hH.ents,fun i b h=>hH.live i b (key i b h),fun i j b b' e e' h1 h2=>hH.inj i j b b' e e' (key _ _ h1) (key _ _ h2),fun i b d hr=>⟨(hH.ro i b d hr).1,fun j x e h=>(hH.ro i b d hr).2.1 j x e (key j x h),(hH.ro i b d hr).2.2⟩,hH.df⟩
theorem B2.df_lt (hH:B2 C ρ H w) {D:Nat} (hD:D∈ρ.dfs):D<w.heap.size:=(Array.getElem?_eq_some_iff.1 (hH.df D hD).1).1
theorem B2.alloc (hH:B2 C ρ H w) (o:Obj):B2 C ρ H (w.alloc o) where
 len:=hH.len
 base:=by have:=hH.base;simp;omega
 ents i e h:=by have:=hH.ents i e h;simp;omega
 live i b h:=(hH.live i b h).mono (Env.le_refl ρ) fun e he=>by
  have:=(hH.ents i e he).2
  exact Below.heap_alloc w o _ this
 inj:=hH.inj
 ro i b d hr:=by
  obtain ⟨h1,h2,h3⟩:=hH.ro i b d hr;refine ⟨by simp;omega,h2,fun k v hv=>?_⟩;obtain ⟨cv,h4,h5⟩:=h3 k v hv;refine ⟨cv,?_,h5⟩;rw [World.cell?_of_block (w:=w) (Below.heap_alloc w o b h1)];exact h4
 df D hD:=⟨(Below.heap_alloc w o D (hH.df_lt hD)).trans (hH.df D hD).1,(hH.df D hD).2⟩
theorem Frm.alloc {ρ':Env} {w':World} (h:Frm ρ w ρ' w') (o:Obj):Frm ρ w ρ' (w'.alloc o) where
 os:=h.os
 tape:=h.tape
 output:=h.output
 size:=by have:=h.size;simp;omega
 keep b hb hn:=(Below.heap_alloc w' o b (Nat.lt_of_lt_of_le hb h.size)).trans (h.keep b hb hn)
 news:=h.news
 ro:=h.ro
 newro:=h.newro
 mkn:=h.mkn
theorem B2.new (hH:B2 C ρ H w) (b:Blk) (hr:isRec b=false) (cs:Array Value) (ty:TypeId) (fz:Nat×Nat) (hl:b.cells.length≤cs.size) (hc:∀ (k:Nat) v,b.cells[k]?=some v→∃ cv,cs[k]?=some cv∧VR ρ v cv)
  (hz:fz.1=fz.2∨cs.size≤fz.1) :
  B2 C (ρ.push (some ⟨w.heap.size,cs.size,b.esz⟩)) (H++[some b]) (w.alloc (.cells cs ty fz))∧Frm ρ w (ρ.push (some ⟨w.heap.size,cs.size,b.esz⟩)) (w.alloc (.cells cs ty fz)):=by
 refine ⟨(hH.alloc _).more _ b ?_ ?_ ?_ ?_ ?_,?_⟩
 ·intro e he;simp at he;subst he;exact ⟨hH.base,by simp⟩
 ·refine .of hr ⟨rfl,cs,ty,fz,?_,rfl,hl,fun k v hv=>?_,hz⟩
  ·show (w.heap.push _)[w.heap.size]?=_;simp
  ·obtain ⟨cv,h1,h2⟩:=hc k v hv;exact ⟨cv,h1,VR.mono (Env.le_push ρ _) v cv h2⟩
 ·intro e he i b' e' h1 h2;simp at he;subst he
  have:=(hH.ents i e' h2).2
  show e'.blk≠w.heap.size;omega
 ·intro e he D hD;simp at he;subst he
  have:=hH.df_lt hD
  show w.heap.size≠D;omega
 ·intro e he i d hr;simp at he;subst he;exact absurd (hH.ro i _ d hr).1 (Nat.lt_irrefl _)
 ·have:=(Frm.refl ρ w).alloc (.cells cs ty fz)
  refine ⟨this.os,this.tape,this.output,this.size,this.keep,fun i e he=>?_,fun _ _ _ h=>h,fun _ _ _ h=>.inl h,fun _ h=>.inl h⟩;rcases X0 ρ _ i _ he with ⟨_,h⟩ | ⟨_,h⟩
  ·exact .inl ⟨i,e,h,rfl⟩
  ·simp at h;subst h;exact .inr (zA7 _)
theorem B2.updB (hH:B2 C ρ H w) {i:Nat} {b b':Blk} {e:Q3} (hi:H[i]?=some (some b)) (he:ρ.rw[i]?=some (some e)) {w':World} (hs:w'.heap.size=w.heap.size) (hk:∀ k,k≠e.blk→w'.heap[k]?=w.heap[k]?)
  (hos:w'.os=w.os∧w'.tape=w.tape∧w'.output=w.output) (hb:V8 ρ b' (some (some e)) w') :
  B2 C ρ (H.set i (some b')) w'∧Frm ρ w ρ w':=by
 have hlt:i<H.length:=(zP.1 hi).1
 have key:∀ (j:Nat) x,(H.set i (some b'))[j]?=some (some x)→(j=i∧x=b')∨(j≠i∧H[j]?=some (some x)):=fun j x h=>by
  rw [zA5] at h;by_cases hji:i=j
  ·subst hji;rw [if_pos rfl,if_pos hlt] at h;simp at h;exact .inl ⟨rfl,h.symm⟩
  ·rw [if_neg hji] at h;exact .inr ⟨fun h=>hji h.symm,h⟩
 refine ⟨⟨by simp [hH.len],by rw [hs];exact hH.base,fun j x h=>by rw [hs];exact hH.ents j x h,?_,?_,?_,fun D hD=>⟨(hk D fun h=>(hH.df D hD).2.1 i e he h.symm).trans (hH.df D hD).1,(hH.df D hD).2⟩⟩,?_⟩
 ·intro j x h;rcases key j x h with ⟨rfl,rfl⟩ | ⟨hj,h⟩
  ·rw [he];exact hb
  ·refine (hH.live j x h).mono (Env.le_refl ρ) fun e' he'=>hk _ fun hbb=>hj (hH.inj j i x b e' e h hi he' he hbb)
 ·intro j k x y e1 e2 h1 h2 h3 h4 h5
  have g1:∃ x',H[j]?=some (some x'):=by
   rcases key j x h1 with ⟨rfl,_⟩ | ⟨_,h⟩
   ·exact ⟨b,hi⟩
   ·exact ⟨x,h⟩
  have g2:∃ x',H[k]?=some (some x'):=by
   rcases key k y h2 with ⟨rfl,_⟩ | ⟨_,h⟩
   ·exact ⟨b,hi⟩
   ·exact ⟨y,h⟩
  obtain ⟨x',g1⟩:=g1;obtain ⟨y',g2⟩:=g2;exact hH.inj j k x' y' e1 e2 g1 g2 h3 h4 h5
 ·intro j b1 d hr;obtain ⟨h1,h2,h3⟩:=hH.ro j b1 d hr;have hne:b1≠e.blk:=fun h=>h2 i b e hi he h.symm;refine ⟨by rw [hs];exact h1,fun k x e' g1 g2=>?_,fun k v hv=>?_⟩
  ·rcases key k x g1 with ⟨rfl,_⟩ | ⟨_,g⟩
   ·exact h2 k b e' hi g2
   ·exact h2 k x e' g g2
  ·obtain ⟨cv,h4,h5⟩:=h3 k v hv;refine ⟨cv,?_,h5⟩;rw [World.cell?_of_block (w:=w) (hk b1 hne)];exact h4
 ·exact ⟨hos.1,hos.2.1,hos.2.2,by omega,fun k _ hn=>hk k fun h=>by
   rcases hn with ⟨j,d,hr⟩ | hn
   ·exact (hH.ro j k d hr).2.1 i b e hi he h.symm
   ·exact hn i e he h.symm,fun j x h=>.inl ⟨j,x,h,rfl⟩,fun _ _ _ h=>h,fun _ _ _ h=>.inl h,fun _ h=>.inl h⟩
theorem B2.upd (hH:B2 C ρ H w) {i:Nat} {b b':Blk} {e:Q3} (hi:H[i]?=some (some b)) (he:ρ.rw[i]?=some (some e)) {w':World} {cs:Array Value} {ty:TypeId} {fz:Nat×Nat}
  (hw:w'.heap[e.blk]?=some (.cells cs ty fz)) (hs:w'.heap.size=w.heap.size) (hk:∀ k,k≠e.blk→w'.heap[k]?=w.heap[k]?) (hos:w'.os=w.os∧w'.tape=w.tape∧w'.output=w.output)
  (hsz:cs.size=e.size) (hz:fz.1=fz.2∨cs.size≤fz.1) (hb:b'.esz=b.esz) (hr:isRec b'=false) (hl:b'.cells.length≤cs.size)
  (hc:∀ (k:Nat) v,b'.cells[k]?=some v→∃ cv,cs[k]?=some cv∧VR ρ v cv) :
  B2 C ρ (H.set i (some b')) w'∧Frm ρ w ρ w':=by
 have hesz:e.esz=b.esz:=by have:=hH.live i b hi;rw [he] at this;exact this.esz
 exact hH.updB hi he hs hk hos (.of hr ⟨by rw [hesz,hb],cs,ty,fz,hw,hsz,hl,hc,hz⟩)
theorem B2.updRec (hH:B2 C ρ H w) {i:Nat} {b b':Blk} {e:Q3} (hi:H[i]?=some (some b)) (he:ρ.rw[i]?=some (some e)) (hb:b'.esz=b.esz) (hr:isRec b=true) {r':Loop} (h':Mz ρ b'.cells r') :
  B2 C ρ (H.set i (some b')) (w.putObj e.blk (.loop r'))∧Frm ρ w ρ (w.putObj e.blk (.loop r')):=by
 have hlive:=hH.live i b hi;rw [he] at hlive;have hlt:=(hH.ents i e he).2;refine hH.updB hi he (by simp) (fun k hk=>World.putObj_heap_other hk) ⟨rfl,rfl,rfl⟩ (.ofRec ?_ ⟨hlive.esz.trans hb.symm,r',World.putObj_heap_same hlt,h'⟩);unfold isRec at *;rw [hb];exact hr
theorem B2.putDead (hH:B2 C ρ H w) {i:Nat} {b:Blk} {e:Q3} (hi:H[i]?=some (some b)) (he:ρ.rw[i]?=some (some e)) (o:Obj):B2 C ρ (H.set i none) (w.putObj e.blk o)∧Frm ρ w ρ (w.putObj e.blk o):=by
 have hlt:i<H.length:=(zP.1 hi).1
 have key:∀ (j:Nat) x,(H.set i none)[j]?=some (some x)→j≠i∧H[j]?=some (some x):=fun j x h=>by
  rw [zA5] at h;by_cases hji:i=j
  ·subst hji;rw [if_pos rfl,if_pos hlt] at h;simp at h
  ·rw [if_neg hji] at h;exact ⟨fun h=>hji h.symm,h⟩
 have hk:∀ k,k≠e.blk→(w.putObj e.blk o).heap[k]?=w.heap[k]?:=fun k hk=>World.putObj_heap_other hk
 refine ⟨⟨by simp [hH.len],by simpa using hH.base,fun j x h=>by simpa using hH.ents j x h,fun j x h=>?_,fun j k x y e1 e2 h1 h2 h3 h4 h5=>hH.inj j k x y e1 e2 (key j x h1).2 (key k y h2).2 h3 h4 h5,fun j b1 d hr=>?_,
  fun D hD=>⟨(hk D fun h=>(hH.df D hD).2.1 i e he h.symm).trans (hH.df D hD).1,(hH.df D hD).2⟩⟩,⟨rfl,rfl,rfl,by simp,fun k _ hn=>hk k fun h=>(by
   rcases hn with ⟨j,d,hr⟩ | hn
   ·exact (hH.ro j k d hr).2.1 i b e hi he h.symm
   ·exact hn i e he h.symm),fun j x h=>.inl ⟨j,x,h,rfl⟩,fun _ _ _ h=>h,fun _ _ _ h=>.inl h,fun _ h=>.inl h⟩⟩
 ·obtain ⟨hj,h⟩:=key j x h;exact (hH.live j x h).mono (Env.le_refl ρ) fun e' he'=>hk _ fun hbb=>hj (hH.inj j i x b e' e h hi he' he hbb)
 ·obtain ⟨h1,h2,h3⟩:=hH.ro j b1 d hr;have hne:b1≠e.blk:=fun h=>h2 i b e hi he h.symm;refine ⟨by simpa using h1,fun k x e' g1 g2=>h2 k x e' (key k x g1).2 g2,fun k v hv=>?_⟩;obtain ⟨cv,h4,h5⟩:=h3 k v hv;refine ⟨cv,?_,h5⟩;rw [World.cell?_of_block (w:=w) (hk b1 hne)];exact h4
theorem jK {cs:List AV} {vs:List Value} (hv:VRs ρ cs vs) (h:cs.all isCell=true):∀ v∈vs,v.oneCell'=true:=by
 induction cs generalizing vs with
 | nil=>simp only [VRs] at hv;subst hv;simp
 | cons c cs ih=>
  simp only [VRs] at hv;obtain ⟨v,vs',rfl,h1,h2⟩:=hv;simp only [List.all_cons,zO] at h;intro x hx;rcases List.mem_cons.1 hx with rfl | hx
  ·have hc:=h.1;cases c with
   | undef=>simp [isCell] at hc
   | agg _=>simp [isCell] at hc
   | tup _=>simp [isCell] at hc
   | ptr r off=>
    simp only [VR] at h1;cases r with
    | rw i=>obtain ⟨_,_,rfl⟩:=h1;rfl
    | ro i=>obtain ⟨_,_,_,rfl⟩:=h1;rfl
   | slice mb r off len=>simp only [VR] at h1;obtain ⟨_,_,rfl,_⟩:=h1;rfl
   | func f c=>simp only [VR] at h1;obtain ⟨_,rfl,_⟩:=h1;rfl
   | bool b=>simp only [VR] at h1;subst h1;rfl
   | int k n=>simp only [VR] at h1;subst h1;rfl
   | str s=>simp only [VR] at h1;subst h1;rfl
   | nilp=>simp only [VR] at h1;subst h1;rfl
   | nils=>simp only [VR] at h1;subst h1;rfl
   | nilf=>simp only [VR] at h1;subst h1;rfl
   | yld _=>simp only [VR] at h1;obtain ⟨_,_,rfl⟩:=h1;rfl
   | rcd _ _ _ _=>simp [isCell] at hc
  ·exact ih h2 h.2 x hx
theorem Pk (b:Nat):∀ (vs:List Value) (o:Nat) (w:World) (cs:Array Value) (ty:TypeId) (fz:Nat×Nat),w.heap[b]?=some (.cells cs ty fz)→o+vs.length≤cs.size→
  ∃ cs':Array Value,(w.setCells b o vs).heap[b]?=some (.cells cs' ty fz)∧cs'.size=cs.size∧(∀ i,cs'[i]?=if o≤i∧i<o+vs.length then vs[i - o]? else cs[i]?)∧
   (w.setCells b o vs).heap.size=w.heap.size∧(∀ k,k≠b→(w.setCells b o vs).heap[k]?=w.heap[k]?)∧(w.setCells b o vs).os=w.os∧(w.setCells b o vs).tape=w.tape∧(w.setCells b o vs).output=w.output
 | [],o,w,cs,ty,fz,h,_=>⟨cs,h,rfl,fun i=>by rw [if_neg (by simp)],rfl,fun _ _=>rfl,rfl,rfl,rfl⟩
 | v::vs,o,w,cs,ty,fz,h,hl=>by
  have h1:(w.setCell ⟨b,o,none⟩ v).heap[b]?=some (.cells (cs.setIfInBounds o v) ty fz):=by
   simp only [World.setCell,Array.getElem?_modify,if_true,h,Option.map_some];rfl
  simp only [List.length_cons] at hl;obtain ⟨cs',g1,g2,g3,g4,g5,g6⟩:=Pk b vs (o+1) (w.setCell ⟨b,o,none⟩ v) (cs.setIfInBounds o v) ty fz h1 (by simp;omega);refine ⟨cs',g1,by simpa using g2,fun i=>?_,?_,fun k hk=>?_,g6.1,g6.2.1,g6.2.2⟩
  ·rw [g3 i,Array.getElem?_setIfInBounds];simp only [List.length_cons];by_cases hi:o=i
   ·subst hi;rw [if_neg (by omega),if_pos rfl,if_pos (by omega),if_pos (by omega)];simp
   ·by_cases hr:o≤i∧i<o+(vs.length+1)
    ·rw [if_pos (by omega),if_pos hr,show i - o=(i - (o+1))+1 by omega];simp
    ·rw [if_neg (by omega),if_neg hi,if_neg hr]
  ·refine g4.trans ?_;simp [World.setCell]
  ·exact (g5 k hk).trans (Below.heap_setCell w _ _ k hk)
theorem Of (hH:B2 C ρ H w) {i:Nat} {b b':Blk} {e:Q3} (hi:H[i]?=some (some b)) (he:ρ.rw[i]?=some (some e)) (o:Nat) (xs:List AV) (vs:List Value) (hv:VRs ρ xs vs) (h1:xs.all isCell=true)
  (hfit:o+xs.length≤e.size) (hb:b'.esz=b.esz) (hr:isRec b=false) (hl:b'.cells.length≤e.size)
  (hget:∀ (k:Nat) v,b'.cells[k]?=some v→(o≤k∧k<o+xs.length∧xs[k - o]?=some v)∨(¬(o≤k∧k<o+xs.length)∧b.cells[k]?=some v)) :
  ∃ w',(storeCells ⟨e.blk,o,none⟩ vs).run C.P w=.ok () w'∧B2 C ρ (H.set i (some b')) w'∧Frm ρ w ρ w':=by
 have hlive:=hH.live i b hi;rw [he] at hlive;obtain ⟨_,cs,ty,fz,g1,g2,g3,g4,g5⟩:=hlive.cs hr;have hr':isRec b'=false:=by unfold isRec at *;rw [hb];exact hr
 have hvl:=E6 hv;obtain ⟨cs',f1,f2,f3,f4,f5,f6⟩:=Pk e.blk vs o w cs ty fz g1 (by omega);refine ⟨w.setCells e.blk o vs,?_,?_⟩
 ·have:=run_storeCells_cells (P:=C.P) e.blk o vs 0 w (fun j hj=>?_) (fun j hj=>?_) (jK hv h1)
  ·simpa using this
  ·simp only [World.cell?,g1]
   simp;omega
  ·simp only [World.frozen?,g1];have hj':o+0+j<cs.size:=by omega
   have:¬(fz.1≤o+0+j∧o+0+j<fz.2):=by omega
   simpa using this
 ·refine hH.upd hi he f1 f4 f5 f6 (f2.trans g2) (by rw [f2];exact g5) hb hr' (by omega) fun k v hkv=>?_;rw [f3 k,hvl];rcases hget k v hkv with ⟨h1,h2,h3⟩ | ⟨h1,h2⟩
  ·rw [if_pos ⟨h1,h2⟩];exact U0 hv _ v h3
  ·rw [if_neg h1];exact g4 k v h2
end
section
variable {C:A1} {ρ:Env} {H:Hp} {w:World}
def Od (C:A1) (ρ:Env) (H:Hp) (w:World) (s:Sem Next) (v:AV) (h:Hop):Prop:=
 ∃ nx cv w' ρ',s.run C.P w=.ok nx w'∧(nx=.value cv∨(nx=.skip∧cv=undef))∧B2 C ρ' (h.act H) w'∧VR ρ' v cv∧ρ.le ρ'∧Frm ρ w ρ' w'
theorem jG {v:AV} (h:(C1 v).all isCell=true):Gv v=true:=by
 cases v<;>first | rfl | (simp [C1,isCell] at h)
theorem rJ (hH:B2 C ρ H w) (x:Option Q3):(ρ.push x).rw[H.length]?=some x:=by
 show (ρ.rw++[x])[H.length]?=_;rw [←hH.len];simp
theorem mF (hH:B2 C ρ H w) (e:Q3):VR (ρ.push (some e)) (.ptr (here H) 0) (.pointer (some ⟨e.blk,0,none⟩)):=by
 simp only [VR,here];exact ⟨e,rJ hH _,rfl⟩
theorem Ic {z:Nat} {cs:List AV} (h:Ea z=true):isRec ⟨z,cs⟩=false:=by simpa [Ea,isRec] using h
theorem mU (hH:B2 C ρ H w) (esz:Nat) (hz:Ea esz=true) (cells:List AV) (cs:Array Value) (ty:TypeId) (hv:VRs ρ cells cs.toList) :
  B2 C (ρ.push (some ⟨w.heap.size,cs.size,esz⟩)) (H++[some ⟨esz,cells⟩]) (w.alloc (.cells cs ty))∧Frm ρ w (ρ.push (some ⟨w.heap.size,cs.size,esz⟩)) (w.alloc (.cells cs ty)):=by
 have hl:=E6 hv;simp only [Array.length_toList] at hl;refine hH.new ⟨esz,cells⟩ (Ic hz) cs ty (0,0) (by simp only;omega) (fun k v hkv=>?_) (.inl rfl)
 have:=U0 hv k v hkv
 simpa using this
theorem aG7 (hH:B2 C ρ H w) {i off z:Nat} {x:AV} {cx:Value} {b:Blk} {t:TypeId} {ad:Value} (hx:VR ρ x cx) (ha:VR ρ (.ptr (.rw i) off) ad) (hz:I0 C.P t=some z) (hi:H[i]?=some (some b))
  (hc:(C1 x).all isCell=true) (hs:O3 x=z) (hfit:off+z≤b.cells.length) (hr:isRec b=false) :
  Od C ρ H w (do Instr.storeAt t ad cx;pure .skip) (.tup []) (.set i ⟨b.esz,G3 b.cells off x⟩):=by
 simp only [VR] at ha;obtain ⟨e,he,rfl⟩:=ha;have hk:=jG hc;have hcv:=Fd hk hx;have hcl:=E6 hcv;rw [←Ef,hs] at hcl;simp only [Array.length_toList] at hcl;have hlive:=hH.live i b hi;rw [he] at hlive;obtain ⟨_,cs,_,_,_,g2,g3,_⟩:=hlive.cs hr;have hsz:(C1 x).length=z:=by rw [←Ef];exact hs
 obtain ⟨w',h1,h2,h3⟩:=Of hH hi he off (C1 x) cx.cells.toList hcv hc (by omega) (b':=⟨b.esz,G3 b.cells off x⟩) rfl hr (by simp only [Dt b.cells off x (by omega)];omega) (fun k v hv=>by
  simp only [Oo b.cells off x (by omega),hs] at hv;split at hv
  ·rename_i hr;exact .inl ⟨hr.1,by omega,hv⟩
  ·rename_i hr;exact .inr ⟨by omega,hv⟩)
 refine ⟨.skip,undef,w',ρ,?_,.inr ⟨rfl,rfl⟩,h2,by simp only [VR];exact ⟨#[],rfl,by simp [VRs]⟩,Env.le_refl ρ,h3⟩;simp only [Instr.storeAt,Instr.sureAddr,Sem.run_bind,Sem.run_pure,Result.andThen_ok,storeVar,K4 hz,Sem.run_ite];rw [if_neg (by simp [hcl])];simp [h1]
theorem aQ8 (hH:B2 C ρ H w) {e:TypeId} {z:AV} (hz:Y4 C.P e=some z) :
  Od C ρ H w (do pure (.value (←Instr.alloc e true (.tuple #[])))) (.ptr (here H) 0) (.new ⟨1,C1 z⟩):=by
 obtain ⟨i,v,hi,hv,rfl⟩:=V9 hz
 have hc:VRs ρ (C1 (D7 v)) v.cells.toList:=by
  by_cases hk:Gv (D7 v)=true
  ·exact Fd hk (Hd ρ v)
  ·have hu:D7 v=.undef:=by
    cases h:D7 v<;>first | rfl | (simp [h,Gv] at hk;done) | (exact absurd h (by unfold D7;split<;>first | (simp;done) | (unfold Y8;split<;>simp)))
   rw [hu]
   have hcells:v.cells=#[v]:=by
    cases v<;>first | rfl | (simp [D7] at hu)
   rw [hcells];simp only [C1,VRs,VR];exact ⟨v,[],rfl,trivial,rfl⟩
 obtain ⟨h1,h2⟩:=mU hH 1 rfl _ v.cells e hc;refine ⟨.value _,_,_,_,?_,.inl rfl,h1,mF hH _,Env.le_push ρ _,h2⟩;simp only [Instr.alloc,Sem.run_bind,W2 hi hv,Result.andThen_ok,newVar,newRow,run_newObj,Sem.run_pure];rfl
theorem box_ok (hH:B2 C ρ H w) {e:TypeId} {x:AV} {cx:Value} (hx:VR ρ x cx) (hk:Gv x=true) :
  Od C ρ H w (do pure (.value (←Instr.box e cx))) (.ptr (here H) 0) (.new ⟨1,C1 x⟩):=by
 obtain ⟨h1,h2⟩:=mU hH 1 rfl _ cx.cells e (Fd hk hx);refine ⟨.value _,_,_,_,?_,.inl rfl,h1,mF hH _,Env.le_push ρ _,h2⟩;simp only [Instr.box,Sem.run_bind,newVar,newRow,run_newObj,Sem.run_pure,Result.andThen_ok];rfl
theorem Uw {α:Type} (l:List α):∀ (n k:Nat),k<n*l.length→((List.replicate n l).flatten)[k]?=l[k % l.length]?
 | 0,k,h=>by simp at h
 | n+1,k,h=>by
  rw [List.replicate_succ,List.flatten_cons];by_cases hk:k<l.length
  ·rw [pY hk,Nat.mod_eq_of_lt hk]
  ·rw [qP (by omega),Uw l n _ (by rw [Nat.succ_mul] at h;omega)];congr 1;rw [←Nat.mod_eq_sub_mod (by omega)]
theorem T8 {α:Type} (l:List α) (n:Nat):((List.replicate n l).flatten).length=n*l.length:=by simp
theorem Yj (ρ:Env) (z:Value) (n m:Nat) (hnm:n≤m) (hz:z.cells.size=(C1 (D7 z)).length) (hp:m*z.cells.size=0∨0<z.cells.size) :
    ∀ (k:Nat) v,((List.replicate n (C1 (D7 z))).flatten)[k]?=some v→∃ cv,((Array.range (m*z.cells.size)).map fun i=>z.cells[i % z.cells.size]!)[k]?=some cv∧VR ρ v cv:=by
  intro k v hv
  have hk:k<n*(C1 (D7 z)).length:=by
    have:=(zP.1 hv).1
    rwa [T8] at this
  rw [Uw _ _ _ hk] at hv;rw [← hz] at hk hv;have hkm:k<m*z.cells.size:=Nat.lt_of_lt_of_le hk (Nat.mul_le_mul_right _ hnm)
  have hpos:0<z.cells.size:=by
    rcases hp with h | h
    · omega
    · exact h
  have hmod:k % z.cells.size<z.cells.size:=Nat.mod_lt _ hpos
  have hcell:VR ρ v z.cells[k % z.cells.size]!:=by
    by_cases hu:∃ cs,z=.agg cs
    · obtain ⟨cs,rfl⟩:=hu;have hv':(cs.toList.map Y8)[k % cs.size]?=some v:=hv;have hm:k % cs.size<cs.size:=hmod;simp [hm] at hv';subst hv';show VR ρ _ cs[k % cs.size]!;rw [getElem!_pos cs _ hm];exact Vt ρ _
    · have e1:z.cells=#[z]:=by cases z<;>first | rfl | exact absurd ⟨_,rfl⟩ hu
      have e2:C1 (D7 z)=[D7 z]:=by
        cases z<;>first | exact absurd ⟨_,rfl⟩ hu | (simp only [D7];unfold Y8;split<;>rfl)
      rw [e1] at hv hmod ⊢;rw [e2] at hv;have h0:k % (#[z]:Array Value).size=0:=by simp [Nat.mod_one]
      rw [h0] at hv ⊢;simp at hv;subst hv;exact Hd ρ z
  exact ⟨_,by simp [hkm],hcell⟩
theorem Gj (hH:B2 C ρ H w) (e:Q3) (mb:Bool) (len cap:Nat) (hl:len≤cap) (hc:cap*e.esz≤e.size):VR (ρ.push (some e)) (.slice mb (here H) 0 len) (.slice (some ⟨e.blk,0,none⟩) len cap):=by
 simp only [VR,here];exact ⟨_,cap,rfl,hl,.inr (.inr ⟨e,rJ hH _,rfl,fun _=>hc⟩)⟩
theorem jL (hH:B2 C ρ H w) {t e:TypeId} {n z:Nat} {zv:AV} {parts:List (Nat×AV)} {cparts:Array (Nat×Value)} {cs:List AV} (ht:C.P.underlying t=some (.slice e)) (hz:I0 C.P e=some z) (hzv:Y4 C.P e=some zv)
    (hf:Dg (fun i=>some (i*z,z)) ((List.replicate n (C1 zv)).flatten) parts=some (true,cs)) (hsmall:n*z≤16777216) (hok:Ea z=true) (hlen:(C1 zv).length=z)
    (hpl:cparts.toList.length=parts.length) (hp:∀ (j:Nat) i v,parts[j]?=some (i,v)→∃ cv,cparts.toList[j]?=some (i,cv)∧VR ρ v cv) :
    Od C ρ H w (do pure (.value (←Instr.buildSlice t n cparts))) (.slice false (here H) 0 n) (.new ⟨z,cs⟩):=by
  obtain ⟨i,v,hi,hv,rfl⟩:=V9 hzv
  have hcz:v.cells.size=(C1 (D7 v)).length:=by
    by_cases hu:∃ cs,v=.agg cs
    · obtain ⟨cs,rfl⟩:=hu;simp [Value.cells,D7,C1]
    · have e1:v.cells=#[v]:=by cases v<;>first | rfl | exact absurd ⟨_,rfl⟩ hu
      have e2:C1 (D7 v)=[D7 v]:=by
        cases v<;>first | exact absurd ⟨_,rfl⟩ hu | (simp only [D7];unfold Y8;split<;>rfl)
      rw [e1,e2];rfl
  let zs:Array Value:=if n*z=0 then #[] else v.cells
  have hstart:VRs ρ ((List.replicate n (C1 (D7 v))).flatten) ((Array.range (n*z)).map (zs[· % zs.size]!)).toList:=by
    refine Jw (by simp [hlen]) fun k x hx=>?_;by_cases h0:n*z=0
    · have:=(zP.1 hx).1
      rw [T8,hlen] at this;omega
    · have ez:zs=v.cells:=by simp [zs,h0]
      have hs:v.cells.size=z:=by omega
      have := Yj       ρ v n n (Nat.le_refl _) hcz (.inr (by rcases Nat.eq_zero_or_pos v.cells.size with h | h; · rw [hs] at h; rw [h] at h0; simp at h0
                                                             · exact h)) k x hx
      rw [hs] at this;rw [ez,hs];obtain ⟨cv,q1,q2⟩:=this;exact ⟨cv,by rw [Array.getElem?_toList];exact q1,q2⟩
  obtain ⟨cr,h1,h2,h3⟩:=Gz (ρ:=ρ) _ parts cparts.toList _ _ cs hf hstart hpl hp;obtain ⟨g1,g2⟩:=mU hH z hok cs cr e h2;have hsz:cr.size=n*z:=by rw [h3];simp
  refine ⟨.value (.slice (some ⟨w.heap.size,0,none⟩) n n),_,_,_,?_,.inl rfl,g1,Gj hH _ false n n (zA7 _) (by simp only;omega),Env.le_push ρ _,g2⟩;simp only [Instr.buildSlice,Sem.run_bind,run_underlying ht,Result.andThen_ok,K4 hz,Sem.run_ite];rw [if_neg (by omega)];by_cases hz0:n*z=0
  · have ez:zs=#[]:=by simp [zs,hz0]
    rw [ez] at h1;rw [if_pos hz0];simp only [Sem.run_pure,Sem.run_bind,Result.andThen_ok,h1,newRow,run_newObj];rfl
  · have ez:zs=v.cells:=by simp [zs,hz0]
    rw [ez] at h1;rw [if_neg hz0];simp only [Sem.run_pure,Sem.run_bind,W2 hi hv,Result.andThen_ok,h1,newRow,run_newObj];rfl
theorem mZ (hH:B2 C ρ H w) {t e:TypeId} {i:TypeInfo} {k k':IntKind} {l c:Int} {zv:AV} (ht:C.P.underlying t=some (.slice e)) (hi:C.P.info? e=some i) (hzv:Y4 C.P e=some zv)
  (h0:0≤l) (h1:l≤c) (hb:c*i.bytes≤140737488355328) (hc:c≤140737488355328) (hlen:(C1 zv).length=i.size) (hpos:1≤i.size) (hok:Ea i.size=true) :
  Od C ρ H w (do pure (.value (←Instr.makeSlice t (.int k l) (.int k' c)))) (.slice false (here H) 0 l.toNat) (.new ⟨i.size,(List.replicate l.toNat (C1 zv)).flatten⟩):=by
 obtain ⟨i',v,hi',hv,rfl⟩:=V9 hzv;obtain rfl:i'=i:=by rw [hi] at hi';simpa using hi'.symm
 have hcz:v.cells.size=(C1 (D7 v)).length:=by
  by_cases hu:∃ cs,v=.agg cs
  ·obtain ⟨cs,rfl⟩:=hu;simp [Value.cells,D7,C1]
  ·have e1:v.cells=#[v]:=by cases v<;>first | rfl | exact absurd ⟨_,rfl⟩ hu
   have e2:C1 (D7 v)=[D7 v]:=by
    cases v<;>first | exact absurd ⟨_,rfl⟩ hu | (simp only [D7];unfold Y8;split<;>rfl)
   rw [e1,e2];rfl
 have hs:v.cells.size=i'.size:=by omega
 let zs:Array Value:=if c.toNat*i'.size=0 then #[] else v.cells
 let cs:Array Value:=(Array.range (c.toNat*i'.size)).map (zs[· % zs.size]!)
 have hcs:cs.size=c.toNat*i'.size:=by simp [cs]
 have hnew:=hH.new ⟨i'.size,(List.replicate l.toNat (C1 (D7 v))).flatten⟩ (Ic hok) cs e (0,0) (by
   rw [hcs];simp only [T8,hlen];exact Nat.mul_le_mul_right _ (by omega)) (fun j x hx=>by
   by_cases hz0:c.toNat*i'.size=0
   ·have:=(zP.1 hx).1
    simp only [T8,hlen] at this;have hh:l.toNat*i'.size≤c.toNat*i'.size:=Nat.mul_le_mul_right _ (by omega);omega
   ·have ez:zs=v.cells:=by simp [zs,hz0]
    have:=Yj ρ v l.toNat c.toNat (by omega) hcz (.inr (by omega)) j x hx
    simp only [cs,ez,hs];rw [hs] at this
    exact this) (.inl rfl)
 obtain ⟨g1,g2⟩:=hnew;refine ⟨.value (.slice (some ⟨w.heap.size,0,none⟩) l.toNat c.toNat),_,_,_,?_,.inl rfl,g1,Gj hH _ false _ _ (by omega) (by simp only;omega),Env.le_push ρ _,g2⟩;have wl:IntKind.i64.wrap l=l:=IntWalk.i64_in l (by omega);have wc:IntKind.i64.wrap c=c:=IntWalk.i64_in c (by omega);have nt:¬((i'.bytes:Int)*c>2^48):=by rw [Int.mul_comm];simp;omega
 have hszT:I0 C.P e=some i'.size:=by simp [I0,hi]
 simp only [Instr.makeSlice,Sem.run_bind,run_underlying ht,Result.andThen_ok,asInt,asIntOf,Sem.run_pure,Ka hi,wl,wc,Sem.run_ite];rw [if_neg (by simp;omega)];simp only [run_askRoom,Result.andThen_ok,K4 hszT];by_cases hz0:c.toNat*i'.size=0
 ·have ez:zs=#[]:=by simp [zs,hz0]
  rw [if_pos hz0];simp only [newRow,Sem.run_bind,run_newObj,Sem.run_pure,Result.andThen_ok,cs,ez];rfl
 ·have ez:zs=v.cells:=by simp [zs,hz0]
  rw [if_neg hz0];simp only [newRow,Sem.run_bind,W2 hi hv,run_newObj,Sem.run_pure,Result.andThen_ok,cs,ez];rfl
end
section
variable {P:Program}
theorem Oc {w:World} {t u ty e:TypeId} {i:TypeInfo} {z:Value} {du:TypeDesc} (ht:P.underlying t=some (.slice e)) (hu:P.underlying u=some du) (hdu:(∃ e',du=.slice e')∨du=.string)
  (hi:P.info? e=some i) (hz:i.zero=some z) (base:Option Addr) (sLen sCap:Nat) (x:Value) (n:Nat) (olds news:List Value) (hlen:(Builtin.lenOf x).run P w=.ok n w)
  (hn:∀ w':World,w'.heap=w.heap→(Builtin.firstCells i.size n x).run P w'=.ok news.toArray w') (ho:∀ w':World,w'.heap=w.heap→(Builtin.firstCells i.size sLen (.slice base sLen sCap)).run P w'=.ok olds.toArray w')
  (hg:sCap<sLen+n) (hfit:Builtin.nextslicecap (sLen+n) sCap*i.bytes≤281474976710656) (hb:1≤i.bytes) :
  (Builtin.append_ #[t,u] ty #[.slice base sLen sCap,x]).run P w =
   .ok (.slice (some ⟨w.heap.size,0,none⟩) (sLen+n) (grownCap w (sLen+n) sCap e)) (w.drew.alloc (.cells ((olds++news).toArray++Builtin.zeroCells z.cells (grownCap w (sLen+n) sCap e - (sLen+n))) e)):=by
 have hng:¬(sLen+n≤sCap):=by omega
 have h48':¬(281474976710656<Builtin.nextslicecap (sLen+n) sCap*i.bytes):=by omega
 have hb':¬(i.bytes=0):=by omega
 have e1:=hn w.drew rfl;have e2:=ho w.drew rfl;rcases hdu with ⟨e',rfl⟩ | rfl
 all_goals simp [Builtin.append_,run_underlying ht,run_underlying hu,sizeOf,typeInfo,zeroValue,hi,hz,hlen,hng,h48',hb',Question.forced,e1,e2,newRow,grownCap]
 all_goals (congr 2;apply Array.ext';simp [List.append_assoc])
theorem Ci {w:World} {t u ty e:TypeId} {i:TypeInfo} {du:TypeDesc} (ht:P.underlying t=some (.slice e)) (hu:P.underlying u=some du) (hdu:(∃ e',du=.slice e')∨du=.string)
  (hi:P.info? e=some i) (base:Option Addr) (sLen sCap:Nat) (x:Value) (n:Nat) (news:List Value) (hlen:(Builtin.lenOf x).run P w=.ok n w)
  (hn:(Builtin.firstCells i.size n x).run P w=.ok news.toArray w) (hg:sLen+n≤sCap) {w':World}
  (hst:∀ a,base=some a→(storeCells (a.add (sLen*i.size)) news).run P w=.ok () w') (hnil:base=none→w'=w) :
  (Builtin.append_ #[t,u] ty #[.slice base sLen sCap,x]).run P w=.ok (.slice base (sLen+n) sCap) w':=by
 cases base with
 | none=>
  rw [hnil rfl];rcases hdu with ⟨e',rfl⟩ | rfl
  all_goals simp [Builtin.append_,run_underlying ht,run_underlying hu,sizeOf,typeInfo,hi,hlen,hg,hn]
 | some a=>
  have h1:=hst a rfl;rcases hdu with ⟨e',rfl⟩ | rfl
  all_goals simp [Builtin.append_,run_underlying ht,run_underlying hu,sizeOf,typeInfo,hi,hlen,hg,hn,h1]
end
section
variable {C:A1} {ρ:Env} {H:Hp} {w:World}
theorem Ny {P:Program} {w:World} {a:Addr} {size n len cap:Nat} {vs:List Value} (hl:vs.length=n*size) (hc:∀ j v,vs[j]?=some v→w.cell? (a.add j)=some v) :
  (Builtin.firstCells size n (.slice (some a) len cap)).run P w=.ok vs.toArray w:=by
 unfold Builtin.firstCells;rw [←hl];exact run_loadCells_list w a vs hc
theorem xU (hH:B2 C ρ H w) {z m:Nat} {x:AV} {cx:Value} {xs:List AV} (hx:VR ρ x cx) (h:Yr C H z x=some (true,m,xs)) :
  ∃ news:List Value,news.length=m*z∧VRs ρ xs news∧xs.all isCell=true∧(∀ w',(Builtin.lenOf cx).run C.P w'=.ok m w')∧
   ∀ w':World,w'.heap=w.heap→(Builtin.firstCells z m cx).run C.P w'=.ok news.toArray w':=by
 unfold Yr at h;split at h
 ·simp only [zN,xH,true_and] at h;obtain ⟨rfl,rfl⟩:=h;simp only [VR] at hx;subst hx;exact ⟨[],by simp,by simp [VRs],rfl,fun _=>rfl,fun _ _=>rfl⟩
 ·rename_i mb r off len;split at h
  ·rename_i cs hcs;simp only [zN,xH,zO,qC] at h;obtain ⟨⟨hl,hall⟩,rfl,rfl⟩:=h;simp only [VR] at hx;obtain ⟨ca,cap,rfl,hp⟩:=gK hx;by_cases h0:len*z=0
   ·refine ⟨[],by simp [h0],by simp [h0,VRs],by simp [h0],fun _=>rfl,fun w' _=>?_⟩;cases ca with
    | none=>rfl
    | some a=>simp [Builtin.firstCells,h0,loadCells,loadCellsFrom]
   ·have hn0:len≠0:=by intro h;rw [h] at h0;simp at h0
    obtain ⟨a,rfl,hpt⟩:=hp.resolve_left hn0;obtain ⟨vs,hvl,_,h2,h3⟩:=Mr hH hcs (.inr hpt) hl;refine ⟨vs,hvl,h2,hall,fun _=>rfl,fun w' hw'=>Ny hvl fun j v hv=>?_⟩;rw [World.cell?_of_block (w:=w) (by rw [hw'])];exact h3 j v hv
  ·simp at h
 ·rename_i s;simp only [zN,xH,qC] at h;obtain ⟨rfl,rfl,rfl⟩:=h;simp only [VR] at hx;subst hx;have es:(ByteArray.mk s.toArray).size=s.length:=by show s.toArray.size=_;simp
  refine ⟨s.map fun b=>.int .u8 b.toNat,by simp,Xt _ _ _ fun x _=>by simp only [VR],by simp [isCell],fun w'=>by simp [Builtin.lenOf,es],fun w' _=>?_⟩;simp only [Builtin.firstCells,Sem.run_pure];congr 1;rw [ByteArray.data_extract];apply Array.ext';simp
 ·simp at h
theorem eQ (hH:B2 C ρ H w) {z cap need zs:Nat} {cells:List AV} {vs:List Value} {zc:Array Value} {ty:TypeId} (mb:Bool) (hok:Ea z=true) (hv:VRs ρ cells vs) (hl:vs.length=need*z) (hc:need≤cap) (hz:zc.size=z) (hzs:zs=cap - need) :
  ∃ ρ',B2 C ρ' (H++[some ⟨z,cells⟩]) (w.drew.alloc (.cells (vs.toArray++Builtin.zeroCells zc zs) ty))∧
   VR ρ' (.slice mb (here H) 0 need) (.slice (some ⟨w.heap.size,0,none⟩) need cap)∧ρ.le ρ'∧Frm ρ w ρ' (w.drew.alloc (.cells (vs.toArray++Builtin.zeroCells zc zs) ty)):=by
 have hcl:=E6 hv
 have hsz:(vs.toArray++Builtin.zeroCells zc zs).size=cap*z:=by
  simp only [Array.size_append,List.size_toArray,size_zeroCells,hz,hl,hzs];rw [←Nat.add_mul];congr 1;omega
 obtain ⟨g1,g2⟩:=hH.drew.new ⟨z,cells⟩ (Ic hok) (vs.toArray++Builtin.zeroCells zc zs) ty (0,0) (by
   show cells.length≤_
   rw [hsz,←hcl,hl];exact Nat.mul_le_mul_right _ hc) (fun k v hkv=>by
   obtain ⟨cv,q1,q2⟩:=U0 hv k v hkv;refine ⟨cv,?_,q2⟩;have hk:k<vs.length:=(zP.1 q1).1;rw [Array.getElem?_append_left (by simpa using hk)]
   simpa using q1) (.inl rfl)
 refine ⟨_,g1,?_,Env.le_push ρ _,?_⟩
 ·have:=Gj hH.drew ⟨w.drew.heap.size,(vs.toArray++Builtin.zeroCells zc zs).size,z⟩ mb need cap hc (by simp only [hsz];exact zA7 _)
  exact this
 ·have h0:Frm ρ w ρ w.drew:=(Frm.refl ρ w).drew;exact h0.trans g2
theorem B2.virtual (hH:B2 C ρ H w) (z:Nat):B2 C (ρ.push none) (H++[some ⟨z,[]⟩]) w:=
 hH.more none ⟨z,[]⟩ (fun e h=>by simp at h) rfl (fun e h=>by simp at h) (fun e h=>by simp at h) (fun e h=>by simp at h)
theorem Frm.push {ρ':Env} {w':World} (h:Frm ρ w ρ' w') (x:Option Q3) (hx:∀ e,x=some e→(∃ (j:Nat) (e':Q3),ρ.rw[j]?=some (some e')∧e'.blk=e.blk)∨w.heap.size≤e.blk):Frm ρ w (ρ'.push x) w':=
 ⟨h.os,h.tape,h.output,h.size,h.keep,fun i e he=>by
  rcases X0 ρ' x i _ he with ⟨_,h1⟩ | ⟨_,h1⟩
  ·exact h.news i e h1
  ·exact hx e h1.symm,h.ro,h.newro,h.mkn⟩
theorem aD3 (hH:B2 C ρ H w) {t u ty:TypeId} {du:TypeDesc} {s x v:AV} {cs cx:Value} {h:Hop} (hu:C.P.underlying u=some du) (hdu:(∃ e',du=.slice e')∨du=.string) (hs:VR ρ s cs) (hx:VR ρ x cx)
    (hA:Iq C H t s x=some (true,v,h)):Od C ρ H w (do pure (.value (←Builtin.append_ #[t,u] ty #[cs,cx]))) v h:=by
  have wrap:∀ {v h},(∃ cv w' ρ',(Builtin.append_ #[t,u] ty #[cs,cx]).run C.P w=.ok cv w'∧B2 C ρ' (h.act H) w'∧VR ρ' v cv∧ρ.le ρ'∧Frm ρ w ρ' w')→Od C ρ H w (do pure (.value (←Builtin.append_ #[t,u] ty #[cs,cx]))) v h:=by
    rintro v h ⟨cv,w',ρ',h1,h2,h3,h4,h5⟩;exact ⟨.value cv,cv,w',ρ',by simp [h1],.inl rfl,h2,h3,h4,h5⟩
  unfold Iq at hA;split at hA
  · rename_i e ht;split at hA
    · rename_i i zv hi hzv;split at hA
      · rename_i c m xs hsrc;obtain ⟨i',zval,hi',hz,rfl⟩:=V9 hzv;obtain rfl:i'=i:=by rw [hi] at hi';simpa using hi'.symm
        have hcz:zval.cells.size=(C1 (D7 zval)).length:=by
          by_cases hu:∃ cs,zval=.agg cs
          · obtain ⟨cs,rfl⟩:=hu;simp [Value.cells,D7,C1]
          · have e1:zval.cells=#[zval]:=by cases zval<;>first | rfl | exact absurd ⟨_,rfl⟩ hu
            have e2:C1 (D7 zval)=[D7 zval]:=by
              cases zval<;>first | exact absurd ⟨_,rfl⟩ hu | (simp only [D7];unfold Y8;split<;>rfl)
            rw [e1,e2];rfl
        split at hA
        · simp only [zN,xH,zO,qC,beq_iff_eq] at hA;obtain ⟨⟨hok,rfl,hby,hb1,hzl⟩,rfl,rfl⟩:=hA;simp only [VR] at hs;subst hs;obtain ⟨news,hnl,hnv,hall,hlen,hfirst⟩:=xU hH hx hsrc;by_cases hm:m=0
          · subst hm;have hn0:news=[]:=List.eq_nil_of_length_eq_zero (by simpa using hnl);subst hn0;have hx0:xs=[]:=List.eq_nil_of_length_eq_zero (by have:=E6 hnv;simpa using this.symm);subst hx0;refine wrap ⟨.slice none 0 0,w,ρ.push none,?_,hH.virtual _,?_,Env.le_push ρ _,(Frm.refl ρ w).push none fun e h=>by simp at h⟩
            · exact Ci ht hu hdu hi none 0 0 cx 0 [] (hlen w) (hfirst w rfl) (zA7 _) (fun a h=>by simp at h) fun _=>rfl
            · simp only [VR];exact ⟨none,0,rfl,zA7 _,.inl ⟨rfl,rfl,rfl⟩⟩
          · have hcap:=grownCap_ge w (0+m) 0 e;obtain ⟨ρ',g1,g2,g3,g4⟩:=eQ (need:=m) (cap:=grownCap w (0+m) 0 e) (zc:=zval.cells) (ty:=e) hH true hok hnv hnl (by omega) (by omega) rfl;refine wrap ⟨_,_,ρ',Oc ht hu hdu hi hz none 0 0 cx m [] news (hlen w) hfirst (fun w' _=>rfl) (by omega) (growslice_fits (by omega) (by rw [Nat.zero_add];exact hby)) hb1,?_,?_,g3,?_⟩
            · show B2 C ρ' (H++[_]) _;simpa using g1
            · simpa using g2
            · simpa using g4
        · rename_i mb j n;split at hA
          · rename_i b hbj;simp only [zN,xH,zO,qC,beq_iff_eq,Bool.not_eq_true'] at hA;obtain ⟨⟨hr,rfl,hby,hb1,hzl,hesz,hbl⟩,rfl,rfl⟩:=hA;have hok:Ea i'.size=true:=by unfold isRec at hr;unfold Ea;rw [hesz] at hr;rw [hr];rfl
            obtain ⟨news,hnl,hnv,hall,hlen,hfirst⟩:=xU hH hx hsrc;simp only [VR] at hs;obtain ⟨ca,cap,rfl,hnc,hca⟩:=hs;have hact:∀ B,Hop.act H (.app j B)=H.set j none++[some B]:=fun _=>rfl;have hhere:here H=here (H.set j none):=by simp [here]
            -- the old cells,wherever they lie
            have hold:∃ olds:List Value,olds.length=n*i'.size∧VRs ρ (b.cells.take (n*i'.size)) olds∧∀ w':World,w'.heap=w.heap→(Builtin.firstCells i'.size n (.slice ca n cap)).run C.P w'=.ok olds.toArray w':=by
              have hcs:E5 C H (.rw j)=some b.cells:=by simp [E5,hbj,hr]
              by_cases h0:n=0
              · subst h0;refine ⟨[],by simp,by simp [VRs],fun w' _=>?_⟩;cases ca with
                | none=>rfl
                | some a=>simp [Builtin.firstCells,loadCells,loadCellsFrom]
              · have hpt:∃ a,ca=some a∧S5 ρ (.rw j) 0 (.pointer (some a)):=by
                  rcases hca with ⟨_,h,_⟩ | ⟨_,h⟩ | ⟨e,he,rfl,_⟩
                  · omega
                  · omega
                  · exact ⟨_,rfl,e,he,rfl⟩
                obtain ⟨a,rfl,hpt⟩:=hpt;obtain ⟨vs,hvl,_,h2,h3⟩:=Mr (n:=n*i'.size) hH hcs (.inr hpt) (by omega);refine ⟨vs,hvl,?_,fun w' hw'=>Ny hvl fun k v hv=>?_⟩
                · rw [List.drop_zero] at h2;exact h2
                · rw [World.cell?_of_block (w:=w) (by rw [hw'])];exact h3 k v hv
            obtain ⟨olds,hol,hov,hofirst⟩:=hold;by_cases hroom:n+m≤cap
            · rcases hca with ⟨rfl,rfl,rfl⟩ | ⟨⟨a,rfl⟩,rfl⟩ | ⟨en,hen,rfl,hcap⟩
              · obtain ⟨rfl,rfl⟩:n=0∧m=0:=by omega
                have hn0:news=[]:=List.eq_nil_of_length_eq_zero (by simpa using hnl);subst hn0;have hx0:xs=[]:=List.eq_nil_of_length_eq_zero (by have:=E6 hnv;simpa using this.symm);have hb0:b.cells.take (0*i'.size)=[]:=by simp
                rw [hx0,hb0];refine wrap ⟨.slice none 0 0,w,ρ.push none,?_,by rw [hact];exact (hH.kill j).virtual _,?_,Env.le_push ρ _,(Frm.refl ρ w).push none fun e h=>by simp at h⟩
                · exact Ci ht hu hdu hi none 0 0 cx 0 [] (hlen w) (hfirst w rfl) (zA7 _) (fun a h=>by simp at h) fun _=>rfl
                · simp only [VR];exact ⟨none,0,rfl,zA7 _,.inl ⟨rfl,rfl,rfl⟩⟩
              · obtain ⟨rfl,rfl⟩:n=0∧m=0:=by omega
                have hn0:news=[]:=List.eq_nil_of_length_eq_zero (by simpa using hnl);subst hn0;have hx0:xs=[]:=List.eq_nil_of_length_eq_zero (by have:=E6 hnv;simpa using this.symm);have hb0:b.cells.take (0*i'.size)=[]:=by simp
                rw [hx0,hb0];refine wrap ⟨.slice (some a) 0 0,w,ρ.push none,?_,by rw [hact];exact (hH.kill j).virtual _,?_,Env.le_push ρ _,(Frm.refl ρ w).push none fun e h=>by simp at h⟩
                · exact Ci ht hu hdu hi (some a) 0 0 cx 0 [] (hlen w) (hfirst w rfl) (zA7 _) (fun a h=>by simp [storeCells]) fun h=>by simp at h
                · simp only [VR];exact ⟨some a,0,rfl,zA7 _,.inr (.inl ⟨⟨a,rfl⟩,rfl⟩)⟩
              · have hlive:=hH.live j b hbj;rw [hen] at hlive;obtain ⟨hez,lcs,_,_,_,hls,_⟩:=hlive.cs hr;have hxl:=E6 hnv;have hcapz:cap*en.esz≤en.size:=hcap rfl;rw [hez,hesz] at hcapz;have hfits:(n+m)*i'.size≤en.size:=Nat.le_trans (Nat.mul_le_mul_right _ hroom) hcapz;rw [Nat.add_mul] at hfits
                obtain ⟨w',h1,h2,h3⟩:=Of hH hbj hen (n*i'.size) xs news hnv hall (by omega) (b':=⟨i'.size,b.cells.take (n*i'.size)++xs⟩) hesz.symm hr (by simp only [zA6,List.length_take];omega) (fun k v hkv=>by
                  simp only at hkv;have htl:(b.cells.take (n*i'.size)).length=n*i'.size:=by rw [List.length_take];omega
                  by_cases hk:k<n*i'.size
                  · rw [pY (by omega),zA4,if_pos hk] at hkv;exact .inr ⟨by omega,hkv⟩
                  · rw [qP (by omega),htl] at hkv
                    have:=(zP.1 hkv).1
                    exact .inl ⟨by omega,by omega,hkv⟩)
                have hjl:j<H.length:=(zP.1 hbj).1;have hself:(H.set j (some ⟨i'.size,b.cells.take (n*i'.size)++xs⟩))[j]?=some (some ⟨i'.size,b.cells.take (n*i'.size)++xs⟩):=by simp [hjl]
                have hkill:=h2.kill j;rw [List.set_set] at hkill
                have hmore:=hkill.more (some en) ⟨i'.size,b.cells.take (n*i'.size)++xs⟩ (fun e he=>by simp at he;subst he;exact h2.ents j en hen)
                  (by have := h2.live j _ hself; rw [hen] at this; exact this.mono (Env.le_push ρ _) fun _ _ => rfl)
                  (fun e he k b' e' hk he' hbb=>by
                    simp at he;subst he;have hkj:k≠j:=fun h=>by subst h;simp [hjl] at hk
                    have hk2:(H.set j (some ⟨i'.size,b.cells.take (n*i'.size)++xs⟩))[k]?=some (some b'):=by
                      rw [zA5,if_neg (fun h=>hkj h.symm)] at hk ⊢;exact hk
                    exact hkj (h2.inj k j b' _ e' en hk2 hself he' hen hbb))
                  (fun e he D hD=>by simp at he;subst he;exact (h2.df D hD).2.1 j en hen) (fun e he i d hr=>by simp at he;subst he;exact (h2.ro i _ d hr).2.1 j _ en hself hen rfl)
                refine wrap ⟨.slice (some ⟨en.blk,0,none⟩) (n+m) cap,w',ρ.push (some en),?_,by rw [hact];exact hmore,?_,Env.le_push ρ _,h3.push (some en) fun e he=>by simp at he;subst he;exact .inl ⟨j,en,hen,rfl⟩⟩
                · refine Ci ht hu hdu hi (some ⟨en.blk,0,none⟩) n cap cx m news (hlen w) (hfirst w rfl) hroom (fun a ha=>?_) fun h=>by simp at h
                  simp at ha;subst ha;rw [Hc,Nat.zero_add];exact h1
                · rw [hhere];exact Gj hkill en mb (n+m) cap hroom (by rw [hez,hesz];exact hcapz)
            · have hcap:=grownCap_ge w (n+m) cap e;obtain ⟨ρ',g1,g2,g3,g4⟩:=eQ (need:=n+m) (cap:=grownCap w (n+m) cap e) (zc:=zval.cells) (ty:=e) (hH.kill j) mb hok (Sh hov hnv) (by simp only [zA6];rw [hol,hnl,Nat.add_mul]) hcap (by omega) rfl;refine wrap ⟨_,_,ρ',Oc ht hu hdu hi hz ca n cap cx m olds news (hlen w) hfirst hofirst (by omega) (growslice_fits (by omega) hby) hb1,by rw [hact];exact g1,by rw [hhere];exact g2,g3,g4⟩
          · simp at hA
        · simp at hA
      · simp at hA
    · simp at hA
  · simp at hA
theorem Kw {z:Value}:z.cells.size=(C1 (D7 z)).length:=by
 by_cases hu:∃ cs,z=.agg cs
 ·obtain ⟨cs,rfl⟩:=hu;simp [Value.cells,D7,C1]
 ·have e1:z.cells=#[z]:=by cases z<;>first | rfl | exact absurd ⟨_,rfl⟩ hu
  have e2:C1 (D7 z)=[D7 z]:=by
   cases z<;>first | exact absurd ⟨_,rfl⟩ hu | (simp only [D7];unfold Y8;split<;>rfl)
  rw [e1,e2];rfl
theorem fY (ρ:Env) (z:Value) (n:Nat) (hp:1≤z.cells.size):VRs ρ (List.replicate n (C1 (D7 z))).flatten (Builtin.zeroCells z.cells n).toList:=by
 refine Jw ?_ fun k v hv=>?_
 ·simp only [Array.length_toList,size_zeroCells,T8];rw [Kw]
 ·obtain ⟨cv,h1,h2⟩:=Yj ρ z n n (zA7 _) Kw (.inr (by omega)) k v hv;exact ⟨cv,by rw [Array.getElem?_toList];exact h1,h2⟩
theorem wJ (hH:B2 C ρ H w) {t u ty:TypeId} {k:IntKind} {s x v:AV} {cs cx:Value} {h:Hop} (hu:C.P.underlying u=some (.int k)) (hs:VR ρ s cs) (hx:VR ρ x cx)
  (hA:Qg C H t s x=some (true,v,h)):Od C ρ H w (do pure (.value (←Builtin.append_ #[t,u] ty #[cs,cx]))) v h:=by
 have wrap:∀ {v h},(∃ cv w' ρ',(Builtin.append_ #[t,u] ty #[cs,cx]).run C.P w=.ok cv w'∧B2 C ρ' (h.act H) w'∧VR ρ' v cv∧ρ.le ρ'∧Frm ρ w ρ' w')→Od C ρ H w (do pure (.value (←Builtin.append_ #[t,u] ty #[cs,cx]))) v h:=by
  rintro v h ⟨cv,w',ρ',h1,h2,h3,h4,h5⟩;exact ⟨.value cv,cv,w',ρ',by simp [h1],.inl rfl,h2,h3,h4,h5⟩
 unfold Qg at hA;split at hA
 ·rename_i e n ht;split at hA
  ·rename_i i zv hi hzv;simp only [zN,xH,zO,qC] at hA;obtain ⟨⟨hok,h0,hm,hb,hl,hsz⟩,rfl,rfl⟩:=hA;obtain ⟨i',zval,hi',hz,rfl⟩:=V9 hzv;obtain rfl:i'=i:=by rw [hi] at hi';simpa using hi'.symm
   simp only [VR] at hs hx;subst hs hx
   have hmm:n≤140737488355328:=by
    have:n*1≤n*i'.bytes:=Int.mul_le_mul_of_nonneg_left (by omega) h0
    omega
   have hzs:zval.cells.size=i'.size:=by rw [Kw];exact hl
   by_cases hm0:n=0
   ·subst hm0;have wl:IntKind.i64.wrap (0:Int)=0:=IntWalk.i64_in 0 (by omega);refine wrap ⟨.slice none 0 0,w,ρ.push none,?_,by simpa [Hop.act] using hH.virtual i'.size,?_,Env.le_push ρ _,(Frm.refl ρ w).push none fun e h=>by simp at h⟩
    ·simp [Builtin.append_,run_underlying ht,run_underlying hu,sizeOf,typeInfo,hi,asInt,asIntOf,wl]
    ·simp only [VR];exact ⟨none,0,rfl,zA7 _,.inl ⟨rfl,rfl,rfl⟩⟩
   ·obtain ⟨m,rfl⟩:∃ m:Nat,n=(m:Int):=⟨n.toNat,by omega⟩
    have hm':m*i'.bytes≤140737488355328:=by
     have:((m*i'.bytes:Nat):Int)=(m:Int)*i'.bytes:=by rw [Int.natCast_mul]
     omega
    have run:=Lib.run_append_nil_zeros w t u ty e i' zval .i64 k ht hu hi hz m (by omega) (by omega) (by omega) (by omega);have hcap:=grownCap_ge w m 0 e;obtain ⟨ρ',g1,g2,g3,g4⟩:=eQ (need:=m) (cap:=grownCap w m 0 e) (zc:=zval.cells) (ty:=e) (vs:=(Builtin.zeroCells zval.cells m).toList) hH true hok (fY ρ zval m (by omega)) (by simp only [Array.length_toList,size_zeroCells,hzs]) (by omega) hzs rfl;rw [Int.toNat_natCast];exact wrap ⟨_,_,ρ',run,by simpa [Hop.act] using g1,g2,g3,by simpa using g4⟩
  ·simp at hA
 ·simp at hA
theorem aP9 (hH:B2 C ρ H w) {t ty:TypeId} {x v:AV} {cx:Value} {h:Hop} (hx:VR ρ x cx) (hA:Vk C H t x=some (true,v,h)):Od C ρ H w (do pure (.value (←Builtin.clear_ #[t] ty #[cx]))) v h:=by
  unfold Vk at hA;split at hA
  · rename_i e mb j off n ht;split at hA
    · rename_i z zv b hz hzv hj;simp only [zN,xH,zO,qC,Bool.not_eq_true'] at hA;obtain ⟨⟨hr,hn,hl,hz1,hall,hfit⟩,rfl,rfl⟩:=hA;obtain ⟨i',zval,hi',hzz,rfl⟩:=V9 hzv;simp only [VR] at hx;obtain ⟨ca,cap,rfl,hnc,hca⟩:=hx
      have hen:∃ en,ρ.rw[j]?=some (some en)∧ca=some ⟨en.blk,off,none⟩:=by
        rcases hca with ⟨_,h,_⟩ | ⟨_,h⟩ | ⟨e,he,h2,_⟩
        · omega
        · omega
        · exact ⟨e,he,h2⟩
      obtain ⟨en,hen,rfl⟩:=hen;have hlive:=hH.live j b hj;rw [hen] at hlive;obtain ⟨_,lcs,_,_,_,hsz,hls,_⟩:=hlive.cs hr;have hzs:zval.cells.size=z:=by rw [Kw];exact hl
      have hxl:((List.replicate n (C1 (D7 zval))).flatten).length=n*z:=by rw [T8,hl]
      have hxall:((List.replicate n (C1 (D7 zval))).flatten).all isCell=true:=by
        rw [qD] at hall ⊢;intro x hx;obtain ⟨l,hl,hx⟩:=List.mem_flatten.1 hx;rw [List.eq_of_mem_replicate hl] at hx;exact hall x hx
      obtain ⟨w',h1,h2,h3⟩:=Of hH hj hen off _ _ (fY ρ zval n (by omega)) hxall (by omega) (b':=⟨b.esz,gJ b.cells off (List.replicate n (C1 (D7 zval))).flatten⟩) rfl hr
        (by simp only [gJ , List.length_append, List.length_take, List.length_drop, hxl]; omega) (fun k v hv => by
          simp only [gJ,hxl] at hv ⊢;have htl:(b.cells.take off).length=off:=by rw [List.length_take];omega
          by_cases hk:k<off
          · rw [pY (by omega),zA4,if_pos hk] at hv;exact .inr ⟨by omega,hv⟩
          · rw [qP (by omega),htl] at hv;by_cases hk2:k - off<n*z
            · rw [pY (by omega)] at hv;exact .inl ⟨by omega,by omega,hv⟩
            · rw [qP (by omega),List.getElem?_drop,hxl] at hv;refine .inr ⟨by omega,?_⟩;rw [show off+n*z+(k - off - n*z)=k by omega] at hv
              exact hv)
      refine ⟨.value (.tuple #[]),.tuple #[],w',ρ,?_,.inl rfl,h2,by simp only [VR];exact ⟨#[],rfl,by simp [VRs]⟩,Env.le_refl ρ,h3⟩;obtain ⟨m,rfl⟩:∃ m,n=m+1:=⟨n - 1,by omega⟩;simp [Builtin.clear_,run_underlying ht,W2 hi' hzz,h1]
    · simp at hA
  · simp at hA
theorem aQ2 (hH:B2 C ρ H w) {s d:TypeId} {l:List UInt8} (hs:Z0 C.P s=true) (hd:W3 C.P d=true) :
  Od C ρ H w (do pure (.value (←convert s d (.string ⟨l.toArray⟩)))) (.slice false (here H) 0 l.length) (.new ⟨1,l.map fun b=>.int .u8 b.toNat⟩):=by
 obtain ⟨e,hd,he⟩:=Gx hd;have hs:=If hs;have es:(ByteArray.mk l.toArray).size=l.length:=by show l.toArray.size=_;simp
 let cap:=grownCap w l.length 0 e
 have hcap:l.length≤cap:=grownCap_ge w l.length 0 e
 let cs:Array Value:=(l.map fun b=>Value.int .u8 b.toNat).toArray++Array.replicate (cap - l.length) (.int .u8 0)
 have hsz:cs.size=cap:=by simp [cs];omega
 obtain ⟨g1,g2⟩:=hH.drew.new ⟨1,l.map fun b=>.int .u8 b.toNat⟩ rfl cs e (cs.size,cs.size+1) (by simp [hsz];omega) (fun k v hkv=>by
  simp only [zA0,Option.map_eq_some_iff] at hkv;obtain ⟨b,hb,rfl⟩:=hkv;have hk:k<l.length:=(zP.1 hb).1;refine ⟨.int .u8 b.toNat,?_,by simp only [VR]⟩;simp only [cs];rw [Array.getElem?_append_left (by simpa using hk)]
  simp [hb]) (.inr (zA7 _))
 refine ⟨.value (.slice (some ⟨w.heap.size,0,none⟩) l.length cap),_,_,_,?_,.inl rfl,g1,Gj hH.drew _ false _ _ hcap (by simp only [hsz];omega),Env.le_push ρ _,((Frm.refl ρ w).drew).trans g2⟩
 have hshape:∀ o:Obj,({ w.drew with heap:=w.drew.heap.push o }:World).shape? w.drew.heap.size=(match o with | .cells c elem _=>some (elem,c.size) | _=>none):=fun o=>by
  simp only [World.shape?];rw [Array.getElem?_push_size];cases o<;>rfl
 have ecs:(ByteArray.mk l.toArray).data.map (fun b=>Value.int .u8 b.toNat)++Array.replicate (cap - l.length) (.int .u8 0)=cs:=by
  simp [cs]
 unfold convert;simp only [Sem.run_bind,run_underlying hs,run_underlying hd,Result.andThen_ok,run_underlying he];unfold Conv.stringToBytes;simp only [Sem.run_bind,run_choose,es,Question.forced,Bool.false_eq_true,if_false,Result.andThen_ok,newRow,run_newObj,Sem.run_pure,markStringish];rw [show (Question.appendCap l.length 0 e).cut (w.tape w.drawn (Question.appendCap l.length 0 e))=cap from rfl,ecs];have hsh:=hshape (.cells cs e);simp only at hsh;have hsh':(World.shape? { ({ w with drawn:=w.drawn+1 }:World) with heap:=w.heap.push (.cells cs e) } w.heap.size)=some (e,cs.size):=hsh
 simp only [run_shape,hsh',Result.andThen_ok,run_freeze];congr 1;simp only [World.freeze];rw [if_neg (by omega)];simp only [World.alloc,World.drew];congr 1;apply Array.ext_getElem?;intro i;rw [Array.getElem?_modify];by_cases hi:w.heap.size=i
 ·subst hi;rw [if_pos rfl,Array.getElem?_push_size,Array.getElem?_push_size];simp
 ·rw [if_neg hi,Array.getElem?_push,Array.getElem?_push,if_neg (fun h=>hi h.symm),if_neg (fun h=>hi h.symm)]
theorem bA8 (hH:B2 C ρ H w) {s d:TypeId} (hs:W3 C.P s=true) (hsd:s=d) {mb:Bool} {i off n:Nat} {b:Blk} (hi:H[i]?=some (some b)) (hr:isRec b=false) (hn:1≤n) {cx:Value} (hx:VR ρ (.slice mb (.rw i) off n) cx) :
  Od C ρ H w (do pure (Next.value (←convert s d cx))) (.slice mb (.rw i) off n) (.set i b):=by
 subst hsd;obtain ⟨e,he,hu⟩:=Gx hs;have hx':=hx;simp only [VR] at hx;obtain ⟨ca,cap,rfl,hl,hc⟩:=hx
 have hc:∃ en,ρ.rw[i]?=some (some en)∧ca=some ⟨en.blk,off,none⟩:=by
  rcases hc with ⟨_,h0,_⟩ | ⟨_,h0⟩ | ⟨en,h1,h2,_⟩
  ·omega
  ·omega
  ·exact ⟨en,h1,h2⟩
 obtain ⟨en,hen,rfl⟩:=hc;have hlive:=hH.live i b hi;rw [hen] at hlive;obtain ⟨g0,cs,ty,fz,g1,g2,g3,g4,g5⟩:=hlive.cs hr
 let fz':Nat×Nat:=if fz.1==fz.2 then (cs.size,cs.size+1) else (min fz.1 cs.size,max fz.2 (cs.size+1))
 have hlt:en.blk<w.heap.size:=(Array.getElem?_eq_some_iff.1 g1).1
 have hheap:∀ k,(w.freeze ⟨en.blk,cs.size,none⟩ 1).heap[k]?=if k=en.blk then some (.cells cs ty fz') else w.heap[k]?:=fun k=>by
  unfold World.freeze;rw [if_neg (by omega)];simp only [Array.getElem?_modify];by_cases hk:k=en.blk
  ·subst hk;rw [if_pos rfl,if_pos rfl,g1];obtain ⟨lo,hi'⟩:=fz;rfl
  ·rw [if_neg (fun h=>hk h.symm),if_neg hk]
 have hz:fz'.1=fz'.2∨cs.size≤fz'.1:=by
  right;simp only [fz'];split
  ·exact zA7 _
  ·rename_i hne;rcases g5 with h | h
   ·rw [h] at hne;simp at hne
   ·simp only;omega
 obtain ⟨q1,q2⟩:=hH.upd (b':=b) (w':=w.freeze ⟨en.blk,cs.size,none⟩ 1) hi hen (cs:=cs) (ty:=ty) (fz:=fz') (by rw [hheap,if_pos rfl]) (by unfold World.freeze;rw [if_neg (by omega)];simp) (fun k hk=>by rw [hheap,if_neg hk]) (by unfold World.freeze;rw [if_neg (by omega)];exact ⟨rfl,rfl,rfl⟩) g2 hz rfl hr g3 g4;refine ⟨.value (.slice (some ⟨en.blk,off,none⟩) n cap),_,_,ρ,?_,.inl rfl,q1,hx',Env.le_refl ρ,q2⟩;unfold convert;simp only [Sem.run_bind,run_underlying he,Result.andThen_ok,beq_self_eq_true,run_underlying hu,markStringish];have hsh:w.shape? en.blk=some (ty,cs.size):=by simp [World.shape?,g1]
 simp only [run_shape,hsh,Result.andThen_ok,run_freeze,Sem.run_pure]
theorem pG (hH:B2 C ρ H w) {F:Fr} {a:Act} (hF:D0 ρ F a) {o:Oper} {v:AV} {h:Hop} (hw:H7 C F H o.op=some (true,v,h)) :
  Od C ρ H w (execOp a.eval o) v h:=by
 have E:=fun x=>Ij hF x;obtain ⟨dst,op,type,pos,after,guard⟩:=o;simp only at hw;unfold H7 at hw;unfold execOp;split at hw
 ·rename_i t ad x;split at hw
  ·rename_i i off z hp hz;split at hw
   ·rename_i b hb;simp only [zN,xH,zO,qC,beq_iff_eq,Bool.not_eq_true'] at hw;obtain ⟨⟨hr,h1,h2,h3⟩,rfl,rfl⟩:=hw;have ha:=E ad;rw [hp] at ha;exact aG7 hH (E x) ha hz hb h1 h2 h3 hr
   ·simp at hw
  ·simp at hw
 ·rename_i e;split at hw
  ·rename_i z hz;simp only [zN,xH,true_and] at hw;obtain ⟨rfl,rfl⟩:=hw;exact aQ8 hH hz
  ·simp at hw
 ·rename_i e x;simp only [zN,xH] at hw;obtain ⟨h1,rfl,rfl⟩:=hw;exact box_ok hH (E x) h1
 ·rename_i t n parts;split at hw
  ·rename_i e ht;split at hw
   ·rename_i z zv hz hzv;split at hw
    ·rename_i c cs hf;simp only [zN,xH,zO,qC] at hw;obtain ⟨⟨hok,rfl,h1,h2⟩,rfl,rfl⟩:=hw;refine jL hH ht hz hzv hf h1 hok h2 (by simp) fun j i v hj=>?_;simp only [zA0,Option.map_eq_some_iff,xH] at hj;obtain ⟨p,hp,rfl,rfl⟩:=hj;refine ⟨a.eval p.2,?_,E _⟩;simp only [Array.toList_map,zA0,hp,Option.map_some]
    ·simp at hw
   ·simp at hw
  ·simp at hw
 ·rename_i t l c;split at hw
  ·rename_i e k l' k' c' ht hl hc;split at hw
   ·rename_i i zv hi hzv;simp only [zN,xH,zO,qC] at hw;obtain ⟨⟨hok,h1,h2,h3,h4,h5,h6⟩,rfl,rfl⟩:=hw;have el:=E l;have ec:=E c;rw [hl] at el;rw [hc] at ec;simp only [VR] at el ec
    have:=mZ (k:=k) (k':=k') hH ht hi hzv h1 h2 h3 h4 h5 h6 hok
    rw [←el,←ec] at this;exact this
   ·simp at hw
  ·simp at hw
 ·rename_i s d x;split at hw
  ·rename_i l hb hx;simp only [zO] at hb;simp only [zN,xH,qC] at hw;obtain ⟨h1,rfl,rfl⟩:=hw;have ex:=E x;rw [hx] at ex;simp only [VR] at ex
   have:=aQ2 (l:=l) hH hb.1 hb.2
   rw [←ex] at this;exact this
  ·rename_i mb i off n hb hx;split at hw
   ·rename_i hsd;split at hw
    ·rename_i b hi;simp only [zO] at hsd;simp only [zN,xH,zO,Bool.not_eq_true'] at hw;obtain ⟨⟨hr,h1⟩,rfl,rfl⟩:=hw;have ex:=E x;rw [hx] at ex
     have:=bA8 hH hsd.1 (rG hsd.2) hi hr (zA2 h1) ex
     exact this
    ·simp at hw
   ·simp at hw
  ·simp at hw
 ·rename_i args argTypes;split at hw
  ·rename_i s x t u hargs htys;obtain rfl:args=#[s,x]:=Array.toList_inj.1 (by simpa using hargs);obtain rfl:argTypes=#[t,u]:=Array.toList_inj.1 (by simpa using htys)
   have key:∀ {du},C.P.underlying u=some du→((∃ e',du=.slice e')∨du=.string)→Iq C H t (ev F s) (ev F x)=some (true,v,h)→
     Od C ρ H w (do let d ←resolve a.eval { callee:=.builtin .append,args:=#[s,x],argTypes:=#[t,u] } type;invoke d.target d.args) v h:=by
    intro du hu hdu hA;obtain ⟨nx,cv,w',ρ',h1,h2⟩:=aD3 (ty:=type) hH hu hdu (E s) (E x) hA;exact ⟨nx,cv,w',ρ',by simpa [resolve,invoke,builtin] using h1,h2⟩
   split at hw
   ·rename_i e' hu;exact key hu (.inl ⟨_,rfl⟩) hw
   ·rename_i hu;exact key hu (.inr rfl) hw
   ·rename_i k hu;obtain ⟨nx,cv,w',ρ',h1,h2⟩:=wJ (ty:=type) hH hu (E s) (E x) hw;exact ⟨nx,cv,w',ρ',by simpa [resolve,invoke,builtin] using h1,h2⟩
   ·simp at hw
  ·simp at hw
 ·rename_i args argTypes;split at hw
  ·rename_i x t hargs htys;obtain rfl:args=#[x]:=Array.toList_inj.1 (by simpa using hargs);obtain rfl:argTypes=#[t]:=Array.toList_inj.1 (by simpa using htys);obtain ⟨nx,cv,w',ρ',h1,h2⟩:=aP9 (ty:=type) hH (E x) hw;exact ⟨nx,cv,w',ρ',by simpa [resolve,invoke,builtin] using h1,h2⟩
  ·simp at hw
 ·simp at hw
end
end Go.Am
