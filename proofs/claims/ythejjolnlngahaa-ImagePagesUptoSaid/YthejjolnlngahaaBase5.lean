/-
  Methods: a call over one block of its own, told in every heap that has A nil list, looked at as an empty one of its own; views that leave the
-/
import Derived.Test.YthejjolnlngahaaBase4
import Derived.Test.YthejjolnlngahaaBase3
namespace Go.Am
variable {C:A1}
theorem ACalls.keep {f:FuncId} {args:List AV} {H H1:Hp} {v1:AV} {k:Nat} (h:ACalls C f args H fun v H'=>v=v1∧H'.take k=H1) (hk:H.length≤H1.length) (hb:I7 H1.length H1=true) (hv:B1 H1.length v1=true) (hu:v1≠.undef) :
  ACalls C f args H fun v H'=>v=v1∧H'=H1:=
 h.view fun v H' ⟨e1,e2⟩=>⟨v1,H1,⟨rfl,rfl⟩,by
  subst e1;have e:H'=H1++H'.drop k:=by rw [←e2,List.take_append_drop]
  rw [e];refine B4.same hk hb ?_
  cases v<;>first | exact absurd rfl hu | exact ⟨⟨hv,rfl⟩,trivial⟩⟩
end Go.Am
namespace Go.Am
def Jh (k:Nat) (x x':AV):Prop:=x'=x∨(x=.slice true (.rw k) 0 0∧x'=.nils)
def V5 (k:Nat):List AV→List AV→Prop
 | [],[]=>True
 | x::l,y::m=>Jh k x y∧V5 k l m
 | _,_=>False
def Lb (k:Nat):Hp→Hp→Prop
 | [],[]=>True
 | none::H,none::H'=>Lb k H H'
 | some b::H,some b'::H'=>(b.esz=b'.esz∧V5 k b.cells b'.cells)∧Lb k H H'
 | _,_=>False
theorem fN {k:Nat} (x:AV):Jh k x x:=.inl rfl
theorem Pz {k:Nat}:∀ (l:List AV),V5 k l l
 | []=>trivial
 | x::l=>⟨fN x,Pz l⟩
theorem La {k:Nat}:∀ {l m:List AV},V5 k l m→l.length=m.length∧∀ (i:Nat) v,l[i]?=some v→∃ v',m[i]?=some v'∧Jh k v v'
 | [],[],_=>⟨rfl,fun i v h=>by simp at h⟩
 | [],_::_,h=>h.elim
 | _::_,[],h=>h.elim
 | x::l,y::m,h=>by
  obtain ⟨h1,h2⟩:=La h.2;refine ⟨by simp [h1],fun i v hv=>?_⟩;cases i with
  | zero=>simp at hv;subst hv;exact ⟨y,rfl,h.1⟩
  | succ i=>simpa using h2 i v (by simpa using hv)
theorem Ol {k:Nat}:∀ {H H':Hp},Lb k H H'→H.length=H'.length∧∀ (i:Nat) b,H[i]?=some (some b)→∃ b',H'[i]?=some (some b')∧b.esz=b'.esz∧V5 k b.cells b'.cells
 | [],[],_=>⟨rfl,fun i v h=>by simp at h⟩
 | [],_::_,h=>h.elim
 | none::_,[],h=>h.elim
 | some _::_,[],h=>h.elim
 | none::_,some _::_,h=>h.elim
 | some _::_,none::_,h=>h.elim
 | none::H,none::H',h=>by
  obtain ⟨h1,h2⟩:=Ol (show Lb k H H' from h);refine ⟨by simp [h1],fun i v hv=>?_⟩;cases i with
  | zero=>simp at hv
  | succ i=>simpa using h2 i v (by simpa using hv)
 | some b::H,some b'::H',h=>by
  obtain ⟨h1,h2⟩:=Ol h.2;refine ⟨by simp [h1],fun i v hv=>?_⟩;cases i with
  | zero=>simp at hv;subst hv;exact ⟨b',rfl,h.1⟩
  | succ i=>simpa using h2 i v (by simpa using hv)
theorem Fk {ρ:Env} {x x':AV} {cv:Value} (h:Jh ρ.rw.length x x') (hv:VR ρ x' cv):VR (ρ.push none) x cv:=by
 rcases h with rfl | ⟨rfl,rfl⟩
 ·exact VR.mono (Env.le_push ρ none) _ _ hv
 ·simp only [VR] at hv ⊢;subst hv;exact ⟨none,0,rfl,Nat.le_refl _,.inl ⟨rfl,rfl,rfl⟩⟩
theorem aT {C:A1} {ρ:Env} {H H':Hp} {w:World} (e:Nat) (hH:Lb H'.length H H') (h4:A4 C ρ H' w):A4 C (ρ.push none) (H++[some ⟨e,[]⟩]) w:=by
 have hl:=h4.len;obtain ⟨hle,hget⟩:=Ol hH;have low:∀ i,i<H'.length→(ρ.push none).rw[i]?=ρ.rw[i]?:=fun i hi=>by simp [Env.push,List.getElem?_append_left (show i<ρ.rw.length by omega)]
 have none':∀ (i:Nat) x,(ρ.push none).rw[i]?=some (some x)→ρ.rw[i]?=some (some x):=fun i x hx=>by
  rcases P2 ρ none i _ hx with ⟨_,h⟩ | ⟨_,h⟩
  ·exact h
  ·simp at h
 have blk:∀ (i:Nat) b,(H++[some (⟨e,[]⟩:Blk)])[i]?=some (some b)→(i<H'.length∧H[i]?=some (some b))∨(i=H'.length∧b=⟨e,[]⟩):=fun i b hb=>by
  by_cases hi:i<H.length
  ·rw [List.getElem?_append_left hi] at hb;exact .inl ⟨by omega,hb⟩
  ·rw [List.getElem?_append_right (by omega)] at hb
   have:i=H.length:=by have:=(List.getElem?_eq_some_iff.1 hb).1;simp at this;omega
   subst this;simp at hb;exact .inr ⟨hle,hb.symm⟩
 refine ⟨by simp [Env.push,hl,hle],h4.base,fun i x hx=>h4.ents i x (none' i x hx),fun i b hb=>?_,fun i j b b' x x' q1 q2 q3 q4 q5=>?_,fun i b d hr=>⟨(h4.ro i b d hr).1,fun j x e q1 q2=>?_,(h4.ro i b d hr).2.2⟩,fun D hD=>⟨(h4.df D hD).1,fun i x hx=>(h4.df D hD).2.1 i x (none' i x hx),(h4.df D hD).2.2⟩⟩
 ·rcases blk i b hb with ⟨hi,hb⟩ | ⟨rfl,rfl⟩
  ·rw [low i hi];obtain ⟨b',g1,g2,g3⟩:=hget i b hb;obtain ⟨gl,gg⟩:=La g3
   have:=h4.live i b' g1
   match hx:ρ.rw[i]?,this with
   | some (some en),this=>
    have hrr:isRec b=isRec b':=by unfold isRec;rw [g2]
    cases hr0:isRec b' with
    | true=>
     obtain ⟨h1,r,h2,p,ps,a,bd,F,q1,q2,q3,q4,q5,q6,q7⟩:=this.rec hr0;rw [q1] at g3 gl gg
     obtain ⟨F',hF'⟩:∃ F',b.cells=.rcd p ps a bd::F':=by
      cases hc:b.cells with
      | nil=>rw [hc] at gl;simp at gl
      | cons x F'=>
       rw [hc] at g3;rcases g3.1 with h | ⟨_,h⟩
       ·exact ⟨F',by rw [h]⟩
       ·simp at h
     refine .ofRec (hrr.trans hr0) ⟨by rw [h1,g2],r,h2,p,ps,a,bd,F',hF',q2,q3,q4,q5,?_,fun k v hv=>?_⟩
     ·rw [hF'] at gl;rw [←q6];simpa using gl
     ·obtain ⟨v',e1,e2⟩:=gg (k+1) v (by rw [hF'];simpa using hv);exact Fk (by rw [hl];exact e2) (q7 k v' (by simpa using e1))
    | false=>
    obtain ⟨h1,cs,ty,fz,h2,h3,h5,h6,h7⟩:=this.cs hr0;refine .of (hrr.trans hr0) ⟨by rw [h1,g2],cs,ty,fz,h2,h3,by omega,fun k v hv=>?_,h7⟩;obtain ⟨v',e1,e2⟩:=gg k v hv;obtain ⟨cv,e3,e4⟩:=h6 k v' e1;exact ⟨cv,e3,Fk (by rw [hl];exact e2) e4⟩
   | some none,this=>
    have hc:b'.cells=[]:=this;show b.cells=[];rw [hc] at gl;exact List.length_eq_zero_iff.1 (by simpa using gl)
  ·have:(ρ.push none).rw[H'.length]?=some none:=by simp [Env.push,←hl]
   rw [this];rfl
 ·have r3:=none' i x q3;have r4:=none' j x' q4;have l3:i<H'.length:=by rw [←hl];exact (List.getElem?_eq_some_iff.1 r3).1
  have l4:j<H'.length:=by rw [←hl];exact (List.getElem?_eq_some_iff.1 r4).1
  rw [List.getElem?_append_left (by omega)] at q1;rw [List.getElem?_append_left (by omega)] at q2;obtain ⟨b1,g1,_⟩:=hget i b q1;obtain ⟨b2,g2,_⟩:=hget j b' q2;exact h4.inj i j b1 b2 x x' g1 g2 r3 r4 q5
 ·have r2:=none' j e q2;have l2:j<H'.length:=by rw [←hl];exact (List.getElem?_eq_some_iff.1 r2).1
  rw [List.getElem?_append_left (by omega)] at q1;obtain ⟨b1,g1,_⟩:=hget j x q1;exact (h4.ro i b d hr).2.1 j b1 e g1 r2
theorem fO {C:A1} {ρ:Env} {H':Hp} {w:World} {F F':Fr} {a:Act} (h4:A4 C ρ H' w) (hF:V5 H'.length F F') (h:D6 ρ F' a):D6 (ρ.push none) F a:=by
 obtain ⟨gl,gg⟩:=La hF;refine ⟨h.nod,by rw [gl,h.len],fun i v hv=>?_⟩;obtain ⟨v',e1,e2⟩:=gg i v hv;exact Fk (by rw [h4.len];exact e2) (h.val i v' e1)
theorem aU {ρ:Env} {w:World}:Frm ρ w (ρ.push none) w:=by
 have none':∀ (i:Nat) x,(ρ.push none).rw[i]?=some (some x)→ρ.rw[i]?=some (some x):=fun i x hx=>by
  rcases P2 ρ none i _ hx with ⟨_,h⟩ | ⟨_,h⟩
  ·exact h
  ·simp at h
 exact ⟨rfl,rfl,rfl,Nat.le_refl _,fun _ _ _=>rfl,fun i x hx=>.inl ⟨i,x,none' i x hx,rfl⟩,fun _ _ _ h=>h,fun _ _ _ h=>.inl h,fun _ h=>.inl h⟩
theorem C2.nil {C:A1} {m:Nat} {c:Code} {F F':Fr} {H H':Hp} {Q:Post} (e:Nat) (hm:m≤H'.length) (hF:V5 H'.length F F') (hH:Lb H'.length H H') (h:C2 C m c F (H++[some ⟨e,[]⟩]) Q):C2 C m c F' H' Q:=by
 intro r hr ρ a w h4 h5
 have:=h r hr (ρ.push none) a w (aT e hH h4) (fO h4 hF h5)
 refine Code.wpIn_mono (fun e' a' w' h=>AP.link ?_ aU h) this;intro i hi
 have:i<ρ.rw.length:=by rw [h4.len];omega
 simp [Env.push,List.getElem?_append_left this]
theorem B4.renM {m:Nat} {θ:List Nat} {F F':Fr} {H H':Hp} (hm:m≤H.length) (hfix:∀ i,i<m→θ.getD i 0=i) (hnd:θ.Nodup) (hb:Ly θ H' H.length θ H) (hF:A6 H.length F=true) (hF':wk (rens θ F) F'):B4 m F H F' H':=by
 obtain ⟨θ',g1,_,_,g2,g3,g4,g5,g6⟩:=(B4.ren hnd hb hF hF').ex;have hl:=Jx hb;have hg:=Jy hb;refine ⟨θ,hl,hm,hfix,fun i hi=>(hg i hi).1,fun i j b b' h1 h2 he=>?_,fun i b h=>?_,g5,fun k v hk=>?_⟩
 ·have hi:i<θ.length:=by rw [hl];exact (List.getElem?_eq_some_iff.1 h1).1
  have hj:j<θ.length:=by rw [hl];exact (List.getElem?_eq_some_iff.1 h2).1
  simp only [List.getD,List.getElem?_eq_getElem hi,List.getElem?_eq_getElem hj,Option.getD_some] at he;exact (List.getElem_inj hnd).1 he
 ·have hi:i<θ.length:=by rw [hl];exact (List.getElem?_eq_some_iff.1 h).1
  obtain ⟨q1,q2⟩:=(hg i hi).2 b h;refine ⟨_,q2,by rw [J8];simp,rfl,fun k v hk=>?_,fun _=>⟨by rw [J8];simp,by rw [J8];simp⟩⟩;rw [J9,List.all_eq_true] at q1;refine ⟨by rw [hl];exact q1 v (List.mem_of_getElem? hk),.inr ?_⟩;rw [J8];simp [hk]
 ·rw [J9,List.all_eq_true] at hF;refine ⟨by rw [hl];exact hF v (List.mem_of_getElem? hk),?_⟩;rcases Pd hF' k (Go.Am.C0 θ v) (by rw [J8];simp [hk]) with h | h
  ·left;cases v with
   | undef=>rfl
   | ptr r o=>cases r<;>simp [Go.Am.C0] at h
   | slice m r o n=>cases r<;>simp [Go.Am.C0] at h
   | _=>simp [Go.Am.C0] at h
  ·exact .inr h
theorem Uc {k:Nat} {f g:Nat→AV}:∀ (l:List Nat),(∀ i∈l,Jh k (f i) (g i))→V5 k (l.map f) (l.map g)
 | [],_=>trivial
 | x::l,h=>⟨h x (by simp),Uc l fun i hi=>h i (by simp [hi])⟩
theorem Qa {k i:Nat}:∀ (live:List Nat) (vs vs':List AV),V5 k vs vs'→Jh k ((((live.zip vs).find? fun p=>Nat.beq p.1 i).map (·.2)).getD .undef) ((((live.zip vs').find? fun p=>Nat.beq p.1 i).map (·.2)).getD .undef)
 | [],_,_,_=>by simp [Jh]
 | j::live,[],[],_=>by simp [Jh]
 | j::live,[],_::_,h=>h.elim
 | j::live,_::_,[],h=>h.elim
 | j::live,x::vs,y::vs',h=>by
  simp only [List.zip_cons_cons,List.find?_cons];split
  ·simpa using h.1
  ·exact Qa live vs vs' h.2
theorem iZ {k N:Nat} {live:List Nat} {vs vs':List AV} (h:V5 k vs vs'):V5 k (fl N live vs) (fl N live vs'):=
 Uc _ fun i _=>Qa live vs vs' h
theorem C2.pin {C:A1} {m m':Nat} {c:Code} {F:Fr} {H:Hp} {Q:Post} (hm:m'≤m) (h:C2 C m c F H Q):C2 C m' c F H Q:=by
 intro r hr ρ a w hH hF;refine Code.wpIn_mono ?_ (h r hr ρ a w hH hF);rintro e a' w' ⟨ae,ρ',F',H',h1,h2,h3,h4⟩;exact ⟨ae,ρ',F',H',h1,h2,fun i hi=>h3 i (by omega),h4⟩
theorem G4.of {C:A1} {M:Nat} {c:Code} {d:DL} (h:∀ vs H o,d.S vs H=some o→∀ n (Q:Ex→List AV→Hp→Prop),G2 C.G (fun e vs' H'=>Q e (vVs C.G vs') (vHp C.G H')) n o→
  C2 C M (.loop c) (fl d.N d.live (vVs C.G vs)) (vHp C.G H) (lv d.N d.live (Lp M Q))):G4 C M c d:=
 fun m vs H o hm ho n Q hQ=>((h vs H o ho n Q hQ).pin hm).lmono fun e vs H' hl=>hl.pin hm
end Go.Am
namespace Go
theorem DataW.TrodAll.len {H:Type} {enc:TypeId×Value→H} {P:Program} {w:World} {base:Nat} {spare:Nat→Bool} {held:Bool}:∀ {ts:List TypeId} {vs:List Value} {ds:List (DataW H)} {ps:List MemPlace},DataW.TrodAll enc P w base spare held ts vs ds ps→vs.length=ts.length∧ds.length=ts.length
 | [],vs,ds,ps,h=>by
  obtain ⟨rfl,rfl,rfl⟩:=ChangeShapes.trodAll_nil h;exact ⟨rfl,rfl⟩
 | t::ts,vs,ds,ps,h=>by
  obtain ⟨v,vs,d,ds,p,q,rfl,rfl,rfl,h1,h2⟩:=ChangeShapes.trodAll_cons h
  have:=DataW.TrodAll.len h2
  simp [this]
end Go
namespace Go.Am
section
variable {H:Type} {P:Program} {L:List RoE} {n:Nat} {t e:TypeId} {cs:List AV} {a:AV} {d:DataW H}
theorem D2.asBool (ht:P.underlying t=some .bool) (h:D2 P L (n+1) t cs d):∃ b,cs=[.bool b]∧d=.lit (.bool b):=by unfold D2 at h;rw [ht] at h;exact h
theorem D2.asInt {k:IntKind} (ht:P.underlying t=some (.int k)) (h:D2 P L (n+1) t cs d):∃ i,cs=[.int k i]∧(Lit.int k i).wf=true∧d=.lit (.int k i):=by unfold D2 at h;rw [ht] at h;exact h
theorem D2.asSlice (ht:P.underlying t=some (.slice e)) (h:D2 P L (n+1) t cs d):(cs=[.nils]∧d=.nil)∨∃ (k:Nat) (ds sp:List (DataW H)) (en:RoE),cs=[.slice false (.ro k) 0 ds.length]∧d=.slice ds sp∧L[k]?=some en∧
    en.cells.length=ds.length*P.cellsOf e∧ds.length+sp.length≤maxLen∧∀ (i:Nat) x,ds[i]?=some x→D2 P L n e ((en.cells.drop (i*P.cellsOf e)).take (P.cellsOf e)) x:=by unfold D2 at h;rw [ht] at h;exact h
theorem D2.asStruct {fs:Array Field} (ht:P.underlying t=some (.struct fs)) (h:D2 P L (n+1) t cs d):cs.length=P.cellsOf t∧∃ ds,d=.agg ds∧ds.length=fs.size∧∀ (i:Nat) f x,fs[i]?=some f→ds[i]?=some x→D2 P L n f.type ((cs.drop f.offset).take (P.cellsOf f.type)) x:=by unfold D2 at h;rw [ht] at h;exact h
theorem Ha {k:Nat} {en:RoE} (h:L[k]?=some en):GL L k=en.cells:=by simp [GL,h]
theorem wf_u8 {i:Int} (h:(Lit.int .u8 i).wf=true):0≤i∧i≤255:=by simpa [Lit.wf,IntKind.min,IntKind.max,IntKind.signed,IntKind.bits] using h
theorem nV {i:Int} (h:(Lit.int .u32 i).wf=true):0≤i∧i<4294967296:=by
 have:0≤i∧i≤4294967295:=by simpa [Lit.wf,IntKind.min,IntKind.max,IntKind.signed,IntKind.bits] using h
 omega
theorem nW {i:Int} (h:(Lit.int .i64 i).wf=true):-9223372036854775808≤i∧i≤9223372036854775807:=by simpa [Lit.wf,IntKind.min,IntKind.max,IntKind.signed,IntKind.bits] using h
structure Mg (L:List RoE) (kd:IntKind) (k m:Nat):Prop where
 len:(GL L k).length=m
 ok:okI kd (GL L k) 0 m=true
 wf:∀ j,j<m→(Lit.int kd (A0 (GL L k) j)).wf=true
theorem Mg.flat {L:List RoE} {kd:IntKind} {k m:Nat} (h:Mg L kd k m):∀ v∈GL L k,∃ i,v=.int kd i:=by
 intro v hv;obtain ⟨j,hj⟩:=List.getElem?_of_mem hv;have hlt:j<m:=by rw [←h.len];exact (List.getElem?_eq_some_iff.1 hj).1
 have:=Cm (aS h.ok hlt)
 rw [Nat.zero_add,hj] at this;exact ⟨_,Option.some.inj this⟩
theorem D2.asInts {kd:IntKind} (ht:P.underlying t=some (.slice e)) (he:P.underlying e=some (.int kd)) (hc:P.cellsOf e=1) (h:D2 P L (n+2) t cs d) :
  (cs=[.nils]∧d=.nil)∨∃ (k:Nat) (ds sp:List (DataW H)),cs=[.slice false (.ro k) 0 ds.length]∧d=.slice ds sp∧ds.length+sp.length≤maxLen∧Mg L kd k ds.length:=by
 rcases D2.asSlice ht h with h | ⟨k,ds,sp,en,h1,h2,h3,h4,h5,h6⟩
 ·exact .inl h
 ·refine .inr ⟨k,ds,sp,h1,h2,h5,?_⟩;rw [hc,Nat.mul_one] at h4
  have key:∀ j,j<ds.length→∃ i,en.cells[j]?=some (.int kd i)∧(Lit.int kd i).wf=true:=fun j hj=>by
   obtain ⟨i,g1,g2,_⟩:=D2.asInt he (h6 j ds[j] (List.getElem?_eq_getElem hj));rw [hc,Nat.mul_one] at g1;refine ⟨i,?_,g2⟩
   have:=congrArg (fun l:List AV=>l[0]?) g1
   simp only [List.getElem?_take,List.getElem?_drop,List.getElem?_cons_zero] at this;simpa using this
  refine ⟨by rw [Ha h3,h4],fJ fun j hj=>?_,fun j hj=>?_⟩
  ·obtain ⟨i,g1,_⟩:=key j hj;rw [Ha h3,Nat.zero_add];simp [isI,g1]
  ·obtain ⟨i,g1,g2⟩:=key j hj;rw [Ha h3];simp [A0,g1,g2]
theorem O3.slice (ht:P.underlying t=some (.slice e)) (h:O3 P L n t a d):D2 P L n t [a] d:=by unfold O3 at h;rw [ht] at h;exact h
theorem O3.int {k:IntKind} (ht:P.underlying t=some (.int k)) (h:O3 P L n t a d):D2 P L n t [a] d:=by unfold O3 at h;rw [ht] at h;exact h
theorem O3.struct {fs:Array Field} (ht:P.underlying t=some (.struct fs)) (h:O3 P L n t a d):∃ cs,a=.agg cs∧D2 P L n t cs d:=by unfold O3 at h;rw [ht] at h;exact h
theorem Di.nil {xs:List AV} {ds:List (DataW H)} (h:Di P L n [] xs ds):xs=[]∧ds=[]:=by
 match xs,ds,h with
 | [],[],_=>exact ⟨rfl,rfl⟩
theorem Di.cons {ts:List TypeId} {xs:List AV} {ds:List (DataW H)} (h:Di P L n (t::ts) xs ds):∃ x xs' d ds',xs=x::xs'∧ds=d::ds'∧O3 P L n t x d∧Di P L n ts xs' ds':=by
 match xs,ds,h with
 | x::xs,d::ds,h=>exact ⟨x,xs,d,ds,rfl,rfl,h.1,h.2⟩
theorem Rk {L:List RoE} {k:Nat} (h:L.length≤k):GL L k=[]:=by simp [GL,h]
theorem Ez {ρ:Env} {v:Value} (k o:Nat) (h:VR ρ .nils v):VR ρ (.slice true (.ro k) o 0) v:=by
 simp only [VR] at h ⊢;subst h;exact ⟨none,0,rfl,Nat.le_refl _,.inl ⟨rfl,rfl,rfl⟩⟩
theorem Af {ρ:Env} {v:Value} {mb:Bool} {r:Ref} {o m:Nat} (h:VR ρ (.slice mb r o m) v):VR ρ (.slice true r o m) v:=by
 simp only [VR] at h ⊢;obtain ⟨ca,cap,h1,h2,h3⟩:=h;refine ⟨ca,cap,h1,h2,?_⟩;rcases h3 with ⟨h3,h4,_⟩ | h3
 ·exact .inl ⟨h3,h4,rfl⟩
 ·exact .inr h3
end
end Go.Am
namespace Go.Am
variable {C:A1}
end Go.Am
namespace Go.Am
variable {C:A1}
theorem Si {n:Nat}:∀ {H:Hp},I7 n H=true→∀ (i:Nat) b,H[i]?=some (some b)→A6 n b.cells=true
 | [],_,i,b,h=>by simp at h
 | none::H,hb,i,b,h=>by
  cases i with
  | zero=>simp at h
  | succ i=>exact Si (H:=H) (by simpa [I7] using hb) i b (by simpa using h)
 | some b0::H,hb,i,b,h=>by
  simp only [I7,Bool.and_eq_true] at hb;cases i with
  | zero=>simp at h;subst h;exact hb.1
  | succ i=>exact Si (H:=H) hb.2 i b (by simpa using h)
theorem G9.fr {f:FuncId} {args0:List AV} {args:List EV} {H:DHp} {θ:List Nat} {H0 H1:Hp} {v0:AV} {v:EV} {hs:List DHop} (hnd:θ.Nodup) (hl:θ.length=H0.length)
  (hlive:∀ (i:Nat) b,H0[i]?=some b→∃ b0,b=some b0∧A6 θ.length b0.cells=true∧(vHp C.G H)[θ.getD i 0]?=some (some (Bi θ b0)))
  (ha:A6 θ.length args0=true) (he:vVs C.G args=rens θ args0) (h:ACalls C f args0 H0 fun v' H'=>v'=v0∧H'=H1) (hle:H0.length≤H1.length) (hv0:B1 H1.length v0=true) (hb:I7 H1.length H1=true)
  (hv:vV C.G v=C0 (Z2 θ H.length (H1.length - θ.length)) v0) (hm:acts (vHp C.G H) (hs.map (G7 C.G))=Bl θ (vHp C.G H) H1):G9 C f args H v hs:=by
 have key:=cX h θ hl hnd hlive ha (fun v1 H0' hk=>by
  obtain ⟨rfl,rfl⟩:=hk
  exact ⟨hle,hv0,Si hb⟩)
 unfold G9;rw [he];refine key.monoK ?_;rintro v' H' ⟨v1,H0',⟨rfl,rfl⟩,rfl,rfl⟩;exact ⟨by rw [hv,C6],hm.symm⟩
theorem Xi (θ':List Nat):∀ (θ:List Nat) (bs:List (Option Blk)) (H:Hp),(∀ (i:Nat) b,i<θ.length→bs[i]?=some b→H[θ.getD i 0]?=some (W8 θ' b))→lay θ' θ bs H=H
 | [],_,_,_=>by simp [lay]
 | _::_,[],_,_=>by simp [lay]
 | j::θ,b::bs,H,h=>by
  have h0:=h 0 b (by simp) rfl;have hj:H[j]?=some (W8 θ' b):=by simpa using h0
  have hlt:j<H.length:=(List.getElem?_eq_some_iff.1 hj).1
  have e:H.set j (W8 θ' b)=H:=by
   have:H[j]=W8 θ' b:=by rw [List.getElem?_eq_getElem hlt] at hj;simpa using hj
   rw [←this];exact List.set_getElem_self hlt
  simp only [lay,e]
  exact Xi θ' θ bs H fun i b' hi hb=>by
   have:=h (i+1) b' (by simpa using hi) (by simpa using hb)
   simpa using this
theorem G9.newN {f:FuncId} {args0:List AV} {args:List EV} {H:DHp} {θ:List Nat} {H0:Hp} {b:Mj} {v0:AV} {v:EV} (hnd:θ.Nodup) (hl:θ.length=H0.length)
  (hlive:∀ (i:Nat) b,H0[i]?=some b→∃ b0,b=some b0∧A6 θ.length b0.cells=true∧(vHp C.G H)[θ.getD i 0]?=some (some (Bi θ b0)))
  (ha:A6 θ.length args0=true) (he:vVs C.G args=rens θ args0) (h:ACalls C f args0 H0 fun v' H'=>v'=v0∧H'=H0++[some (J3 C.G b)]) (hb:A6 0 (vL C.G b.cells)=true) (hv0:B1 (H0.length+1) v0=true)
  (hv:vV C.G v=C0 (Z2 θ H.length 1) v0):G9 C f args H v [.new b]:=by
 have hH0:∀ (i:Nat) x,H0[i]?=some (some x)→A6 θ.length x.cells=true:=fun i x hx=>by
  obtain ⟨b0,e,g,_⟩:=hlive i _ hx;simp at e;subst e;exact g
 have hpb:I7 (H0++[some (J3 C.G b)]).length (H0++[some (J3 C.G b)])=true:=by
  have key:∀ (n:Nat) (A:Hp),(∀ (i:Nat) x,A[i]?=some (some x)→A6 n x.cells=true)→I7 n A=true:=by
   intro n A
   induction A with
   | nil=>intro _;rfl
   | cons x A ih=>
    intro g
    have:=ih fun i y hy=>g (i+1) y (by simpa using hy)
    cases x with
    | none=>simpa [I7] using this
    | some x=>simp only [I7,Bool.and_eq_true];exact ⟨g 0 x rfl,this⟩
  refine key _ _ fun i x hx=>?_;by_cases hi:i<H0.length
  ·rw [List.getElem?_append_left hi] at hx;exact M8 (by simp;omega) _ (hH0 i x hx)
  ·rw [List.getElem?_append_right (by omega)] at hx
   have:i - H0.length=0:=by have:=(List.getElem?_eq_some_iff.1 hx).1;simp at this;omega
   rw [this] at hx;simp at hx;subst hx;exact M8 (Nat.zero_le _) _ hb
 have hd:(H0++[some (J3 C.G b)]).length - θ.length=1:=by simp;omega
 refine G9.fr hnd hl hlive ha he h (by simp) (by simpa using hv0) hpb (by rw [hd];exact hv) ?_;unfold Bl;rw [hd]
 have e1:lay (Z2 θ (vHp C.G H).length 1) θ (H0++[some (J3 C.G b)]) (vHp C.G H)=vHp C.G H:=by
  refine Xi _ _ _ _ fun i x hi hx=>?_;rw [List.getElem?_append_left (by omega)] at hx;obtain ⟨b0,rfl,g1,g2⟩:=hlive i x hx;rw [g2];simp only [W8,Option.map_some,Bi,Dm _ g1]
 rw [e1,hl];simp [acts,Hop.act,G7,W8,Bi,J3,M7 _ _ hb]
end Go.Am
namespace Go.Am
open Go.ChangeShapes Go.WideShapes Go.ChangeAt Go.RowKit
end Go.Am
namespace Go.Am
variable {C:A1}
theorem G9.rdN {f:FuncId} {args:List EV} {H:DHp} {v:EV} {σ:Sig} {G':Nat→List AV} {args0:List AV} (hs:kO C (vHp C.G H) σ G') (ha:I9 args0=true) (hw:∀ (ρ:Env) vs,VRs ρ (vVs C.G args) vs→VRs ρ (sbs σ 0 args0) vs)
  (h:∀ B,ACalls ⟨C.P,G',B⟩ f args0 [] fun v' _=>v'=vV C.G v) (hv:B1 0 (vV C.G v)=true∧T7 (vV C.G v)=true):G9 C f args H v []:=by
 unfold G9;refine ((mI hs h ha rfl (fun v' e=>by subst e;exact hv)).weaken hw).monoK ?_;rintro v' H' ⟨rfl,rfl⟩;exact ⟨rfl,by simp [acts]⟩
end Go.Am
namespace Go.Am
variable {C:A1}
end Go.Am
namespace Go.Am
variable {C:A1}
def cM (k:Nat):AV→AV→Prop
 | .tup xs,.tup ys=>V5 k xs ys
 | x,y=>Jh k x y
theorem Ub {ρ:Env}:∀ {xs ys:List AV} {cv:List Value},V5 ρ.rw.length xs ys→VRs ρ ys cv→VRs (ρ.push none) xs cv
 | [],[],_,_,h=>h
 | [],_::_,_,h,_=>h.elim
 | _::_,[],_,h,_=>h.elim
 | x::xs,y::ys,cv,h,hv=>by
  simp only [VRs] at hv ⊢;obtain ⟨v,vs,e,h1,h2⟩:=hv;exact ⟨v,vs,e,Fk h.1 h1,Ub h.2 h2⟩
theorem jA {ρ:Env} {x y:AV} {cv:Value} (h:cM ρ.rw.length x y) (hv:VR ρ y cv):VR (ρ.push none) x cv:=by
 unfold cM at h;split at h
 ·simp only [VR] at hv ⊢;obtain ⟨vs,e,hs⟩:=hv;exact ⟨vs,e,Ub h hs⟩
 ·exact Fk h hv
theorem ACalls.nil {f:FuncId} {args:List AV} {H:Hp} {K K':AV→Hp→Prop} (e:Nat) (h:ACalls C f args H K) (hk:∀ v H',K v H'→K' v H'∨∃ v',K' v' (H'++[some ⟨e,[]⟩])∧Lb H'.length H' H'∧cM H'.length v' v):ACalls C f args H K':=by
 refine ⟨h.1,fun ρ w cargs hH hv=>(h.2 ρ w cargs hH hv).mono ?_⟩;rintro ex w' ⟨v,cv,ρ',H',rfl,h2,h3,h4,h5,h6⟩;rcases hk v H' h2 with g | ⟨v',g1,g2,g3⟩
 ·exact ⟨v,cv,ρ',H',rfl,g,h3,h4,h5,h6⟩
 ·refine ⟨v',cv,ρ'.push none,_,rfl,g1,?_,aT e g2 h4,jA (by rw [h4.len];exact g3) h5,h6.trans aU⟩;have hl:=Env.le_push ρ' none;refine ⟨fun i x hx=>hl.1 i x (h3.1 i x hx),fun i b d h=>hl.2 i b d (h3.2 i b d h),fun D hD=>hl.3 D (h3.3 D hD)⟩
theorem Gk {k:Nat}:∀ (H:Hp),Lb k H H
 | []=>trivial
 | none::H=>Gk H
 | some b::H=>⟨⟨rfl,Pz _⟩,Gk H⟩
theorem ACalls.conv {f:FuncId} {args:List AV} {H:Hp} {K K':AV→Hp→Prop} (h:ACalls C f args H K) (hk:∀ v H',K v H'→∃ v',K' v' H'∧∀ (ρ:Env) cv,VR ρ v cv→VR ρ v' cv):ACalls C f args H K':=by
 refine ⟨h.1,fun ρ w cargs hH hv=>(h.2 ρ w cargs hH hv).mono ?_⟩;rintro ex w' ⟨v,cv,ρ',H',rfl,h2,h3,h4,h5,h6⟩;obtain ⟨v',g1,g2⟩:=hk v H' h2;exact ⟨v',cv,ρ',H',rfl,g1,h3,h4,g2 _ _ h5,h6⟩
end Go.Am
namespace Go.Am
variable {C:A1}
theorem R3 {m:Nat} {c:Code} {N:Nat} {live:List Nat} {Q:Ex→List AV→Hp→Prop} (n:Nat) (st:Nat→List AV) (hp:Nat→Hp)
  (h:∀ i,i≤n→C2 C m c (fl N live (st i)) (hp i) (lv N live fun e vs H=>match e with
   | .normal=>i<n∧((vs=st (i+1)∧H=hp (i+1))∨B4 m (st (i+1)) (hp (i+1)) vs H)
   | e=>Q e vs H)):C2 C m (.loop c) (fl N live (st 0)) (hp 0) (lv N live Q):=by
 refine kH (fun j vs H=>∃ i:Nat,i≤n∧j=n - i∧vs=st i∧H=hp i) n ⟨0,by omega,rfl,rfl,rfl⟩ ?_;rintro j vs H ⟨i,hi,rfl,rfl,rfl⟩;refine (h i hi).lmono ?_;intro e vs' H' hq
 match e,hq with
 | .normal,⟨hin,hq⟩=>
  refine ⟨n - (i+1),by omega,?_⟩;rcases hq with ⟨rfl,rfl⟩ | hq
  ·exact .inl ⟨i+1,by omega,rfl,rfl,rfl⟩
  ·exact .inr ⟨_,_,⟨i+1,by omega,rfl,rfl,rfl⟩,hq⟩
 | .ret,hq=>exact hq
 | .exit i,hq=>exact hq
mutual
def H4:AV→AV→Bool
 | .undef,.undef=>true
 | .bool a,.bool b=>a==b
 | .int k n,.int k' m=>k==k'&&n==m
 | .str s,.str t=>s==t
 | .nilp,.nilp=>true
 | .ptr r o,.ptr r' o'=>decide (r=r')&&Nat.beq o o'
 | .nils,.nils=>true
 | .slice b r o n,.slice b' r' o' n'=>b==b'&&(decide (r=r')&&(Nat.beq o o'&&Nat.beq n n'))
 | .nilf,.nilf=>true
 | .func f c,.func f' c'=>Nat.beq f f'&&S5 c c'
 | .agg c,.agg c'=>S5 c c'
 | .tup c,.tup c'=>S5 c c'
 | .yld i,.yld j=>Nat.beq i j
 | _,_=>false
termination_by structural x=>x
def S5:List AV→List AV→Bool
 | [],[]=>true
 | x::l,y::k=>H4 x y&&S5 l k
 | _,_=>false
termination_by structural x=>x
end
mutual
def Mw:AV→Bool
 | .rcd ..=>false
 | .func _ c=>Z8 c
 | .agg c=>Z8 c
 | .tup c=>Z8 c
 | _=>true
def Z8:List AV→Bool
 | []=>true
 | x::l=>Mw x&&Z8 l
end
mutual
theorem iK:∀ x y,H4 x y=true→x=y
 | .undef,y,h=>by cases y<;>simp [H4] at h ⊢
 | .bool a,y,h=>by cases y<;>simp [H4] at h ⊢;exact h
 | .int k n,y,h=>by cases y<;>simp [H4] at h ⊢;exact h
 | .str s,y,h=>by cases y<;>simp [H4] at h ⊢;exact h
 | .nilp,y,h=>by cases y<;>simp [H4] at h ⊢
 | .ptr r o,y,h=>by cases y<;>simp [H4] at h ⊢;exact h
 | .nils,y,h=>by cases y<;>simp [H4] at h ⊢
 | .slice b r o n,y,h=>by cases y<;>simp [H4] at h ⊢;exact h
 | .nilf,y,h=>by cases y<;>simp [H4] at h ⊢
 | .func f c,y,h=>by cases y<;>simp [H4] at h ⊢;exact ⟨h.1,Au c _ h.2⟩
 | .agg c,y,h=>by cases y<;>simp [H4] at h ⊢;exact Au c _ h
 | .tup c,y,h=>by cases y<;>simp [H4] at h ⊢;exact Au c _ h
 | .yld i,y,h=>by cases y<;>simp [H4] at h ⊢;exact h
 | .rcd ..,y,h=>by cases y<;>simp [H4] at h
theorem Au:∀ l k,S5 l k=true→l=k
 | [],k,h=>by cases k<;>simp [S5] at h ⊢
 | x::l,k,h=>by
  cases k with
  | nil=>simp [S5] at h
  | cons y k=>
   simp [S5] at h ⊢;exact ⟨iK x y h.1,Au l k h.2⟩
end
mutual
theorem cB:∀ x,Mw x=true→H4 x x=true
 | .undef,h=>by simp [H4]
 | .bool a,h=>by simp [H4]
 | .int k n,h=>by simp [H4]
 | .str s,h=>by simp [H4]
 | .nilp,h=>by simp [H4]
 | .ptr r o,h=>by simp [H4]
 | .nils,h=>by simp [H4]
 | .slice b r o n,h=>by simp [H4]
 | .nilf,h=>by simp [H4]
 | .func f c,h=>by simp [H4];exact U7 c (by simpa [Mw] using h)
 | .agg c,h=>by simp [H4];exact U7 c (by simpa [Mw] using h)
 | .tup c,h=>by simp [H4];exact U7 c (by simpa [Mw] using h)
 | .yld i,h=>by simp [H4]
 | .rcd ..,h=>by simp [Mw] at h
theorem U7:∀ l,Z8 l=true→S5 l l=true
 | [],h=>by simp [S5]
 | x::l,h=>by
  simp only [Z8,Bool.and_eq_true] at h;simp [S5,cB x h.1,U7 l h.2]
end
def O1 (H:Hp):List AV:=H.map fun b=>match b with
 | some b=>.tup [.int .i64 (b.esz:Int),.agg b.cells]
 | none=>.undef
def Nn (H:DHp):List EV:=H.map fun b=>match b with
 | some b=>.tup [.int .i64 (.lit (b.esz:Int)),.agg b.cells]
 | none=>.undef
theorem Cp {G:Nat→List AV}:∀ H:DHp,vVs G (Nn H)=O1 (vHp G H)
 | []=>rfl
 | none::H=>by
  have:=Cp (G:=G) H
  simp only [Nn,O1,vHp,List.map_cons,vVs,vV,Option.map_none] at this ⊢;rw [this]
 | some b::H=>by
  have:=Cp (G:=G) H
  simp only [Nn,O1,vHp,List.map_cons,vVs,vV,vI,Option.map_some,J3] at this ⊢;rw [this]
theorem Ow:∀ H H':Hp,O1 H=O1 H'→H=H'
 | [],[],_=>rfl
 | [],_::_,h=>by simp [O1] at h
 | _::_,[],h=>by simp [O1] at h
 | b::H,b'::H',h=>by
  simp only [O1,List.map_cons,List.cons.injEq] at h;have h2:=Ow H H' h.2;subst h2;have h1:=h.1
  match b,b',h1 with
  | none,none,_=>rfl
  | none,some b',h1=>simp at h1
  | some b,none,h1=>simp at h1
  | some ⟨e,c⟩,some ⟨e',c'⟩,h1=>
   simp at h1;obtain ⟨h3,h4⟩:=h1
   have:e=e':=by omega
   subst this;subst h4;rfl
def Wc (vs0:List AV) (H0:Hp):List AV→Bool:=fun xs=>match xs with
 | [.agg vs,.agg hs]=>S5 vs vs0&&S5 hs (O1 H0)
 | _=>false
theorem lY {vs0 vs:List AV} {H0 H:Hp} (h:Wc vs0 H0 [.agg vs,.agg (O1 H)]=true):vs=vs0∧H=H0:=by
 simp only [Wc,Bool.and_eq_true] at h;exact ⟨Au _ _ h.1,Ow _ _ (Au _ _ h.2)⟩
theorem eQ {vs0:List AV} {H0:Hp} (h:Z8 vs0=true) (h':Z8 (O1 H0)=true):Wc vs0 H0 [.agg vs0,.agg (O1 H0)]=true:=by
 simp only [Wc,Bool.and_eq_true];exact ⟨U7 _ h,U7 _ h'⟩
def Ko (c:Bool) (vs0:List AV) (H0:Hp):List AV→Bool:=fun xs=>c&&Wc vs0 H0 xs
theorem Ak {c:Bool} {vs0:List AV} {H0:Hp} (hc:c=true) (h:Z8 vs0=true) (h':Z8 (O1 H0)=true):Ko c vs0 H0 [.agg vs0,.agg (O1 H0)]=true:=by
 simp only [Ko,Bool.and_eq_true];exact ⟨hc,eQ h h'⟩
def LOut.post (G:Nat→List AV) (m:Nat):LOut→Ex→List AV→Hp→Prop
 | .one e vs H=>fun e' vs' H'=>e'=e∧((wk (vVs G vs) vs'∧H'=vHp G H)∨B4 m (vVs G vs) (vHp G H) vs' H')
 | .tst b x y=>fun e' vs' H'=>(vB G b=true∧x.post G m e' vs' H')∨(vB G b=false∧y.post G m e' vs' H')
 | .chk _ x=>x.post G m
 | _=>fun _ _ _=>False
theorem X9 {G:Nat→List AV} {m:Nat} {Q:Ex→List AV→Hp→Prop} {e:Ex} {vs:List AV} {H:Hp}:∀ (o:LOut) (n:Nat),G2 G (fun e vs' H'=>Q e (vVs G vs') (vHp G H')) n o→o.post G m e vs H→Lp m Q e vs H
 | .one e' vs' H',n,h,hp=>by
  simp only [G2] at h;obtain ⟨rfl,hp⟩:=hp;rcases hp with ⟨h1,rfl⟩ | hp
  ·exact .inl ⟨_,h1,h⟩
  ·exact .inr ⟨_,_,hp,h⟩
 | .tst b x y,n,h,hp=>by
  simp only [G2] at h;rcases hp with ⟨hb,hp⟩ | ⟨hb,hp⟩
  ·exact X9 x n (h.1 hb) hp
  ·exact X9 y n (h.2 hb) hp
 | .chk b x,n,h,hp=>by
  simp only [G2] at h;exact X9 x n h.2 hp
 | .imp ..,n,h,hp=>hp.elim
 | .allI ..,n,h,hp=>hp.elim
 | .allN ..,n,h,hp=>hp.elim
 | .allB ..,n,h,hp=>hp.elim
 | .allL ..,n,h,hp=>hp.elim
 | .namI ..,n,h,hp=>hp.elim
 | .namN ..,n,h,hp=>hp.elim
 | .namB ..,n,h,hp=>hp.elim
 | .namL ..,n,h,hp=>hp.elim
def B5 (j:Nat) (q:List AV→Bool) (ex N:Nat) (live:List Nat) (o:LOut):DL:=
 ⟨ex,N,live,fun vs H=>some (.chk (.uf j q [.agg (.of vs),.agg (.of (Nn H))]) o)⟩
theorem Cv {M:Nat} {c:Code} {j:Nat} {ex N:Nat} {live:List Nat} {o:LOut} {vs0:List AV} {H0:Hp} {q:List AV→Bool} {cb:Bool} (hq:q=Ko cb vs0 H0)
  (h:cb=true→C2 C M (.loop c) (fl N live vs0) H0 (lv N live (o.post C.G M))):G4 C M c (B5 j q ex N live o):=by
 refine .of fun vs H o' ho n Q hQ=>?_;simp only [B5,Option.some.injEq] at ho;subst ho;obtain ⟨h1,h2⟩:=hQ;simp only [vB,vVs,vV,vL,Cp] at h1;rw [hq] at h1;simp only [Ko,Bool.and_eq_true] at h1;obtain ⟨e1,e2⟩:=lY h1.2;rw [e1,e2];exact (h h1.1).lmono fun e vs H hp=>X9 o n h2 hp
theorem I6.miss {M:Nat} {c:Code} {cs:List Code} {l:List DL} {i:Nat} (he:Fp c=some i) (hp:Gt i l=none) (k:I6 C M cs (N7 l)):I6 C M (c::cs) (N7 l):=by
 intro m c' F H o hm hc ho n Q hQ;rcases List.mem_cons.1 hc with rfl | hc
 ·obtain ⟨d',h1,_⟩:=Hj he l ho;rw [hp] at h1;cases h1
 ·exact k m c' F H o hm hc ho n Q hQ
theorem ACalls.one {f:FuncId} {args:List AV} {K:AV→Hp→Prop} {v0:AV} {b:Blk} (h:ACalls C f args [] K) (hb:A6 0 b.cells=true) (hv:B1 1 v0=true) (hu:∀ j,C0 [j] v0≠.undef)
  (hk:∀ v H',K v H'→(∃ j,H'[j]?=some (some b)∧v=C0 [j] v0)∨(b.cells=[]∧cM H'.length (C0 [H'.length] v0) v)):ACalls C f args [] fun v H'=>v=v0∧H'=[some b]:=by
 have h1:=ACalls.nil (K':=fun v H'=>∃ j,H'[j]?=some (some b)∧v=C0 [j] v0) b.esz h (fun v H' hK=>by
  rcases hk v H' hK with h | ⟨h1,h2⟩
  ·exact .inl h
  ·refine .inr ⟨_,⟨H'.length,?_,rfl⟩,Gk _,h2⟩;rw [List.getElem?_append_right (Nat.le_refl _),Nat.sub_self];obtain ⟨e,cs⟩:=b
   simp only at h1;subst h1;rfl)
 refine h1.view fun v H' hj=>⟨v0,[some b],⟨rfl,rfl⟩,?_⟩;obtain ⟨j,hj,rfl⟩:=hj;have hjl:j<H'.length:=(List.getElem?_eq_some_iff.1 hj).1;refine B4.ren (θ:=[j]) (by simp) ⟨⟨M8 (Nat.zero_le _) _ hb,?_⟩,trivial⟩ (by simp [A6,hv]) ?_
 ·rw [M7 _ _ hb];exact hj
 ·simp only [rens]
  have:=hu j
  cases hr:C0 [j] v0<;>simp_all [wk]
theorem C2.nilL {m:Nat} {c:Code} {N:Nat} {live:List Nat} {H:Hp} {Q:Post} {vs:List AV} (vs':List AV) (e:Nat) (hm:m≤H.length) (hv:V5 H.length vs' vs) (h:C2 C m c (fl N live vs') (H++[some ⟨e,[]⟩]) Q):C2 C m c (fl N live vs) H Q:=
 C2.nil e hm (iZ hv) (Gk H) h
end Go.Am
namespace Go.Am
open Go.RowKit
end Go.Am
namespace Go.Am
open Go.RowKit
end Go.Am
namespace Go.Am
open Go.RowKit
mutual
def fz (m k:Nat):AV→AV
 | .ptr (.rw i) off=>bif Nat.beq i m then .ptr (.ro k) off else .ptr (.rw i) off
 | .slice mb (.rw i) off len=>bif Nat.beq i m then .slice mb (.ro k) off len else .slice mb (.rw i) off len
 | .func f cap=>.func f (fzs m k cap)
 | .agg cs=>.agg (fzs m k cs)
 | .tup vs=>.tup (fzs m k vs)
 | v=>v
def fzs (m k:Nat):List AV→List AV
 | []=>[]
 | v::vs=>fz m k v::fzs m k vs
end
def fzB (m k:Nat) (b:Option Blk):Option Blk:=match b with
 | some b=>some ⟨b.esz,fzs m k b.cells⟩
 | none=>none
def Qn (m k:Nat) (H:Hp):Hp:=(H.map (fzB m k)).set m none
theorem U3 (m k:Nat):∀ l,fzs m k l=l.map (fz m k)
 | []=>by simp [fzs]
 | v::l=>by simp [fzs,U3 m k l]
def Env.frz (ρ:Env) (k:Nat) (x:Option L4):Env:=⟨ρ.rw,fun i b d=>ρ.ro i b d∨∃ e,x=some e∧i=k∧b=e.blk∧d=0,ρ.dfs⟩
theorem Env.le_frz (ρ:Env) (k:Nat) (x:Option L4):ρ.le (ρ.frz k x):=⟨fun _ _ h=>h,fun _ _ _ h=>.inl h,fun _ h=>h⟩
theorem nR {ρ:Env} {m k:Nat} {x:Option L4} (hx:ρ.rw[m]?=some x) {off:Nat} {v:Value} (h:N5 ρ (.rw m) off v):N5 (ρ.frz k x) (.ro k) off v:=by
 obtain ⟨e,h1,rfl⟩:=h;rw [hx] at h1;simp at h1;subst h1;exact ⟨e.blk,0,.inr ⟨e,rfl,rfl,rfl,rfl⟩,by rw [Nat.zero_add]⟩
theorem gU {ρ:Env} {m k:Nat} {x:Option L4} (hx:ρ.rw[m]?=some x) {mb:Bool} {off len:Nat} {v:Value} (h:T1 ρ mb (.rw m) off len v):T1 (ρ.frz k x) mb (.ro k) off len v:=by
 obtain ⟨ca,cap,hv,hl,hc⟩:=h;refine ⟨ca,cap,hv,hl,?_⟩;rcases hc with hc | hc | ⟨e,h1,h2,_⟩
 ·exact .inl hc
 ·exact .inr (.inl hc)
 ·rw [hx] at h1;simp at h1;subst h1;exact .inr (.inr ⟨e.blk,0,.inr ⟨e,rfl,rfl,rfl,rfl⟩,by rw [Nat.zero_add];exact h2⟩)
mutual
theorem Vo {ρ:Env} {m k:Nat} {x:Option L4} (hx:ρ.rw[m]?=some x):∀ (v:AV) (cv:Value),VR ρ v cv→VR (ρ.frz k x) (fz m k v) cv
 | .undef,_,_=>by simp [fz,VR]
 | .bool _,_,h=>by simpa [fz,VR] using h
 | .int _ _,_,h=>by simpa [fz,VR] using h
 | .str _,_,h=>by simpa [fz,VR] using h
 | .nilp,_,h=>by simpa [fz,VR] using h
 | .nils,_,h=>by simpa [fz,VR] using h
 | .nilf,_,h=>by simpa [fz,VR] using h
 | .ptr (.rw i) off,cv,h=>by
  simp only [fz];cases hi:Nat.beq i m with
  | true=>
   have:=Nat.eq_of_beq_eq_true hi
   subst this;simp only [cond_true,VR] at h ⊢;exact nR hx h
  | false=>exact VR.mono (Env.le_frz ρ k x) _ _ h
 | .ptr (.ro i) off,cv,h=>by simp only [fz];exact VR.mono (Env.le_frz ρ k x) _ _ h
 | .slice mb (.rw i) off len,cv,h=>by
  simp only [fz];cases hi:Nat.beq i m with
  | true=>
   have:=Nat.eq_of_beq_eq_true hi
   subst this;simp only [cond_true,VR] at h ⊢;exact gU hx h
  | false=>exact VR.mono (Env.le_frz ρ k x) _ _ h
 | .slice mb (.ro i) off len,cv,h=>by simp only [fz];exact VR.mono (Env.le_frz ρ k x) _ _ h
 | .func f cap,cv,h=>by
  simp only [fz,VR] at h ⊢;obtain ⟨cs,e,hs⟩:=h;exact ⟨cs,e,Ri hx cap _ hs⟩
 | .agg cap,cv,h=>by
  simp only [fz,VR] at h ⊢;obtain ⟨cs,e,hs⟩:=h;exact ⟨cs,e,Ri hx cap _ hs⟩
 | .tup cap,cv,h=>by
  simp only [fz,VR] at h ⊢;obtain ⟨cs,e,hs⟩:=h;exact ⟨cs,e,Ri hx cap _ hs⟩
 | .yld i,cv,h=>by simp only [fz];exact VR.mono (Env.le_frz ρ k x) _ _ h
 | .rcd ..,cv,h=>by simp only [VR] at h
theorem Ri {ρ:Env} {m k:Nat} {x:Option L4} (hx:ρ.rw[m]?=some x):∀ (l:List AV) (cl:List Value),VRs ρ l cl→VRs (ρ.frz k x) (fzs m k l) cl
 | [],_,h=>by simpa [fzs,VRs] using h
 | v::l,cl,h=>by
  simp only [fzs,VRs] at h ⊢;obtain ⟨y,ys,e,h1,h2⟩:=h;exact ⟨y,ys,e,Vo hx v y h1,Ri hx l ys h2⟩
end
mutual
/-- what names no block of the heap hangs on the read-only places alone -/
theorem bP {ρ ρ':Env} (h:∀ i b d,ρ.ro i b d→ρ'.ro i b d):∀ (v:AV) (cv:Value),G8 v=true→VR ρ v cv→VR ρ' v cv
 | .undef,_,_,_=>by simp [VR]
 | .bool _,_,_,hv=>by simpa [VR] using hv
 | .int _ _,_,_,hv=>by simpa [VR] using hv
 | .str _,_,_,hv=>by simpa [VR] using hv
 | .nilp,_,_,hv=>by simpa [VR] using hv
 | .nils,_,_,hv=>by simpa [VR] using hv
 | .nilf,_,_,hv=>by simpa [VR] using hv
 | .ptr (.rw i) off,_,hb,_=>by simp [G8] at hb
 | .ptr (.ro i) off,cv,_,hv=>by
  simp only [VR] at hv ⊢;obtain ⟨b,d,h1,h2⟩:=hv;exact ⟨b,d,h _ _ _ h1,h2⟩
 | .slice mb (.rw i) off len,_,hb,_=>by simp [G8] at hb
 | .slice mb (.ro i) off len,cv,_,hv=>by
  simp only [VR] at hv ⊢;obtain ⟨ca,cap,hv,hl,hc⟩:=hv;refine ⟨ca,cap,hv,hl,?_⟩;rcases hc with hc | hc | ⟨b,d,h1,h2⟩
  ·exact .inl hc
  ·exact .inr (.inl hc)
  ·exact .inr (.inr ⟨b,d,h _ _ _ h1,h2⟩)
 | .func f cap,cv,hb,hv=>by
  simp only [G8] at hb;simp only [VR] at hv ⊢;obtain ⟨cs,e,hs⟩:=hv;exact ⟨cs,e,Ka h cap _ hb hs⟩
 | .agg cap,cv,hb,hv=>by
  simp only [G8] at hb;simp only [VR] at hv ⊢;obtain ⟨cs,e,hs⟩:=hv;exact ⟨cs,e,Ka h cap _ hb hs⟩
 | .tup cap,cv,hb,hv=>by
  simp only [G8] at hb;simp only [VR] at hv ⊢;obtain ⟨cs,e,hs⟩:=hv;exact ⟨cs,e,Ka h cap _ hb hs⟩
 | .yld i,cv,hb,_=>by simp [G8] at hb
 | .rcd ..,cv,_,hv=>by simp only [VR] at hv
theorem Ka {ρ ρ':Env} (h:∀ i b d,ρ.ro i b d→ρ'.ro i b d):∀ (l:List AV) (cl:List Value),I9 l=true→VRs ρ l cl→VRs ρ' l cl
 | [],_,_,hv=>by simpa [VRs] using hv
 | v::l,cl,hb,hv=>by
  simp only [I9,Bool.and_eq_true] at hb;simp only [VRs] at hv ⊢;obtain ⟨x,xs,e,h1,h2⟩:=hv;exact ⟨x,xs,e,bP h v x hb.1 h1,Ka h l xs hb.2 h2⟩
end
def Vp (x y:AV):Prop:=∀ (ρ:Env) cv,VR ρ x cv→VR ρ y cv
def kR (C:A1) (m k:Nat) (H:Hp):Prop:=
 ∃ b,H[m]?=some (some b)∧isRec b=false∧∀ (j:Nat) v,(C.G k)[j]?=some v→∃ x,b.cells[j]?=some x∧G8 x=true∧Vp x v
theorem A4.frz {C:A1} {ρ:Env} {H:Hp} {w:World} {m k:Nat} (hH:A4 C ρ H w) (hf:kR C m k H) :
  ∃ ρ',ρ.le ρ'∧ρ'.rw=ρ.rw∧ρ'.dfs=ρ.dfs∧A4 C ρ' (Qn m k H) w∧Frm ρ w ρ' w∧∀ v cv,VR ρ v cv→VR ρ' (fz m k v) cv:=by
 obtain ⟨b,hb,hr,hc⟩:=hf;have hl:=hH.live m b hb
 obtain ⟨x,hx⟩:∃ x,ρ.rw[m]?=some x:=by
  cases h:ρ.rw[m]? with
  | none=>rw [h] at hl;exact hl.elim
  | some x=>exact ⟨x,rfl⟩
 have le:=Env.le_frz ρ k x
 have key:∀ (i:Nat) c,(Qn m k H)[i]?=some (some c)→i≠m∧∃ c0,H[i]?=some (some c0)∧c=⟨c0.esz,fzs m k c0.cells⟩:=fun i c h=>by
  unfold Qn at h;rw [List.getElem?_set] at h;by_cases hi:m=i
  ·rw [if_pos hi] at h;split at h<;>simp at h
  ·rw [if_neg hi,List.getElem?_map] at h;obtain ⟨o,ho,h⟩:=Option.map_eq_some_iff.1 h;cases o with
   | none=>simp [fzB] at h
   | some c0=>simp [fzB] at h;exact ⟨fun h=>hi h.symm,c0,ho,h.symm⟩
 refine ⟨ρ.frz k x,le,rfl,rfl,⟨by simp [Qn,Env.frz,hH.len],hH.base,hH.ents,fun i c h=>?_,fun i j c c' e e' h1 h2 h3 h4 h5=>?_,fun i b1 d hro=>?_,fun D hD=>⟨(hH.df D hD).1,(hH.df D hD).2.1,fun i d hro=>?_⟩⟩,
  ⟨rfl,rfl,rfl,Nat.le_refl _,fun _ _ _=>rfl,fun i e h=>.inl ⟨i,e,h,rfl⟩,fun _ _ _ h=>.inl h,fun i b1 d hro=>?_,fun _ h=>.inl h⟩,fun v cv h=>Vo hx v cv h⟩
 ·obtain ⟨_,c0,h1,rfl⟩:=key i c h;have hl:=hH.live i c0 h1;show O2 _ _ (ρ.rw[i]?) _
  match hxi:ρ.rw[i]?,hl with
  | some (some e),hl=>
   have hrr:isRec (⟨c0.esz,fzs m k c0.cells⟩:Blk)=isRec c0:=rfl;cases hr0:isRec c0 with
   | true=>
    obtain ⟨g1,r,g2,p,ps,a,bd,F,q1,q2,q3,q4,q5,q6,q7⟩:=hl.rec hr0;refine .ofRec (hrr.trans hr0) ⟨g1,r,g2,p,ps,a,bd,F.map (fz m k),by simp only [q1,U3,List.map_cons,fz],q2,q3,q4,q5,by simpa using q6,fun j v hv=>?_⟩;simp only [List.getElem?_map,Option.map_eq_some_iff] at hv;obtain ⟨v0,hv0,rfl⟩:=hv;exact Vo hx v0 _ (q7 j v0 hv0)
   | false=>
    obtain ⟨g1,cs,ty,fz0,g2,g3,g4,g5,g6⟩:=hl.cs hr0;refine .of (hrr.trans hr0) ⟨g1,cs,ty,fz0,g2,g3,by simpa [U3] using g4,fun j v hv=>?_,g6⟩;simp only [U3,List.getElem?_map,Option.map_eq_some_iff] at hv;obtain ⟨v0,hv0,rfl⟩:=hv;obtain ⟨cv,p1,p2⟩:=g5 j v0 hv0;exact ⟨cv,p1,Vo hx v0 cv p2⟩
  | some none,hl=>
   have:c0.cells=[]:=hl
   show fzs m k c0.cells=[];rw [this];simp [fzs]
  | none,hl=>exact hl.elim
 ·obtain ⟨_,c0,g1,_⟩:=key i c h1;obtain ⟨_,c1,g2,_⟩:=key j c' h2;exact hH.inj i j c0 c1 e e' g1 g2 h3 h4 h5
 ·rcases hro with hro | ⟨e,rfl,rfl,rfl,rfl⟩
  ·obtain ⟨g1,g2,g3⟩:=hH.ro i b1 d hro;refine ⟨g1,fun j c e q1 q2=>?_,fun j v hv=>?_⟩
   ·obtain ⟨_,c0,q3,_⟩:=key j c q1;exact g2 j c0 e q3 q2
   ·obtain ⟨cv,q1,q2⟩:=g3 j v hv;exact ⟨cv,q1,VR.sub (ρ:=⟨[],ρ.ro,[]⟩) ⟨fun _ _ h=>by simp at h,fun _ _ _ h=>Or.inl h⟩ v cv q2⟩
  ·rw [hx] at hl;obtain ⟨g1,cs,ty,fz0,g2,g3,g4,g5,g6⟩:=hl.cs hr;refine ⟨(hH.ents m e hx).2,fun j c e' q1 q2 hbe=>?_,fun j v hv=>?_⟩
   ·obtain ⟨hne,c0,q3,_⟩:=key j c q1;exact hne (hH.inj j m c0 b e' e q3 hb q2 hx hbe)
   ·obtain ⟨y,q1,q2,q3⟩:=hc j v hv;obtain ⟨cv,q4,q5⟩:=g5 j y q1;refine ⟨cv,by simp [World.cell?,g2,q4],q3 _ _ (bP (fun i b d h=>?_) y cv q2 q5)⟩;exact .inl h
 ·rcases hro with hro | ⟨e,rfl,rfl,rfl,rfl⟩
  ·exact (hH.df _ hD).2.2 i d hro
  ·exact (hH.df _ hD).2.1 m e hx rfl
 ·rcases hro with hro | ⟨e,rfl,rfl,rfl,rfl⟩
  ·exact .inl hro
  ·exact .inr (.inl ⟨m,e,hx,rfl⟩)
theorem D6.frz {ρ ρ':Env} {m k:Nat} {F:Fr} {a:Act} (h:D6 ρ F a) (hd:ρ'.dfs=ρ.dfs) (hv:∀ v cv,VR ρ v cv→VR ρ' (fz m k v) cv):D6 ρ' (fzs m k F) a:=by
 refine ⟨by rw [hd];exact h.nod,by rw [U3,List.length_map];exact h.len,fun i v hi=>?_⟩;rw [U3,List.getElem?_map,Option.map_eq_some_iff] at hi;obtain ⟨v0,h0,rfl⟩:=hi;exact hv _ _ (h.val i v0 h0)
theorem C2.frzQ {C:A1} {n:Nat} {c:Code} {F:Fr} {H:Hp} {Q Q':Post} (h:C2 C n c F H Q) (hq:∀ e F' H',Q e F' H'→∃ m k,kR C m k H'∧Q' e (fzs m k F') (Qn m k H')):C2 C n c F H Q':=by
 intro r hr ρ a w hH hF;refine Code.wpIn_mono ?_ (h r hr ρ a w hH hF);rintro e a' w' ⟨ae,ρ',F',H',rfl,h2,h3,h4,h5,h6⟩;obtain ⟨m,k,g1,g2⟩:=hq _ _ _ h2;obtain ⟨ρ2,q1,q2,q3,q4,q5,q6⟩:=h4.frz g1;exact ⟨ae,ρ2,_,_,rfl,g2,fun i hi=>by rw [q2];exact h3 i hi,q4,h5.frz q3 q6,h6.trans q5⟩
theorem Vp.rfl {x:AV}:Vp x x:=fun _ _ h=>h
theorem beqF {i m:Nat} (h:i≠m):Nat.beq i m=false:=by
 cases hb:Nat.beq i m with
 | true=>exact absurd (Nat.eq_of_beq_eq_true hb) h
 | false=>rfl
mutual
theorem qG {n m k:Nat} (hm:n≤m):∀ v,B1 n v=true→fz m k v=v
 | .undef,_=>by simp [fz]
 | .bool _,_=>by simp [fz]
 | .int _ _,_=>by simp [fz]
 | .str _,_=>by simp [fz]
 | .nilp,_=>by simp [fz]
 | .nils,_=>by simp [fz]
 | .nilf,_=>by simp [fz]
 | .ptr (.rw i) off,h=>by
  simp only [B1,decide_eq_true_eq] at h;simp only [fz];rw [show Nat.beq i m=false from beqF (by omega)];rfl
 | .ptr (.ro i) off,_=>by simp [fz]
 | .slice mb (.rw i) off len,h=>by
  simp only [B1,decide_eq_true_eq] at h;simp only [fz];rw [show Nat.beq i m=false from beqF (by omega)];rfl
 | .slice mb (.ro i) off len,_=>by simp [fz]
 | .func f cap,h=>by simp only [B1] at h;simp only [fz,Y5 hm cap h]
 | .agg cs,h=>by simp only [B1] at h;simp only [fz,Y5 hm cs h]
 | .tup cs,h=>by simp only [B1] at h;simp only [fz,Y5 hm cs h]
 | .yld i,h=>by simp [fz]
 | .rcd ..,_=>by simp [fz]
theorem Y5 {n m k:Nat} (hm:n≤m):∀ l,A6 n l=true→fzs m k l=l
 | [],_=>by simp [fzs]
 | v::l,h=>by
  simp only [A6,Bool.and_eq_true] at h;simp only [fzs,qG hm v h.1,Y5 hm l h.2]
end
theorem mL (m k:Nat) (live:List Nat) (F:Fr):rdF live (fzs m k F)=fzs m k (rdF live F):=by
 simp only [rdF,U3,List.map_map];congr 1;funext i;simp only [Function.comp,List.getD,List.getElem?_map];cases F[i]? with
 | none=>simp [fz]
 | some v=>rfl
theorem C2.frzL {C:A1} {n:Nat} {c:Code} {F:Fr} {H:Hp} {N:Nat} {live:List Nat} {Q Q':Ex→List AV→Hp→Prop} (m k:Nat) (h:C2 C n c F H (lv N live Q)) (hq:∀ e vs H',Q e vs H'→kR C m k H'∧Q' e (fzs m k vs) (Qn m k H')):C2 C n c F H (lv N live Q'):=
 h.frzQ fun e F' H' h=>by
  obtain ⟨h1,h2⟩:=Ap h;obtain ⟨g1,g2⟩:=hq _ _ _ h2;refine ⟨m,k,g1,?_⟩;have hl:(fzs m k F').length=F'.length:=by rw [U3,List.length_map]
  show chk (Nat.beq (fzs m k F').length N) (Q' e (rdF live (fzs m k F')) (Qn m k H'));rw [mL,hl,h1];exact g2
end Go.Am
namespace Go.Am
open Go.RowKit
def bW (b b':Blk):Prop:=b=b'∨(b.esz=b'.esz∧isRec b=false∧b.cells.length=b'.cells.length∧∀ (j:Nat) v,b'.cells[j]?=some v→∃ x,b.cells[j]?=some x∧Vp x v)
def Mm:Hp→Hp→Prop
 | [],[]=>True
 | none::H,none::H'=>Mm H H'
 | some b::H,some b'::H'=>bW b b'∧Mm H H'
 | _,_=>False
theorem Kl:∀ {H H':Hp},Mm H H'→H.length=H'.length
 | [],[],_=>rfl
 | none::H,none::H',h=>by simp only [List.length_cons,Kl (H:=H) (H':=H') h]
 | some _::H,some _::H',h=>by simp only [List.length_cons,Kl (H:=H) (H':=H') h.2]
 | [],_::_,h=>h.elim
 | none::_,[],h=>h.elim
 | some _::_,[],h=>h.elim
 | none::_,some _::_,h=>h.elim
 | some _::_,none::_,h=>h.elim
theorem Ca:∀ {H H':Hp},Mm H H'→∀ (i:Nat) b',H'[i]?=some (some b')→∃ b,H[i]?=some (some b)∧bW b b'
 | [],[],_,i,b',h=>by simp at h
 | none::H,none::H',h,i,b',hb=>by
  cases i with
  | zero=>simp at hb
  | succ i=>exact Ca (H:=H) (H':=H') h i b' (by simpa using hb)
 | some b::H,some c::H',h,i,b',hb=>by
  cases i with
  | zero=>simp at hb;subst hb;exact ⟨b,rfl,h.1⟩
  | succ i=>exact Ca (H:=H) (H':=H') h.2 i b' (by simpa using hb)
 | [],_::_,h,_,_,_=>h.elim
 | none::_,[],h,_,_,_=>h.elim
 | some _::_,[],h,_,_,_=>h.elim
 | none::_,some _::_,h,_,_,_=>h.elim
 | some _::_,none::_,h,_,_,_=>h.elim
theorem A4.tell {C:A1} {ρ:Env} {H H':Hp} {w:World} (hH:A4 C ρ H w) (h:Mm H H'):A4 C ρ H' w:=by
 refine ⟨by rw [←Kl h];exact hH.len,hH.base,hH.ents,fun i c hc=>?_,fun i j c c' e e' h1 h2 h3 h4 h5=>?_,fun i b d hr=>?_,hH.df⟩
 ·obtain ⟨b,hb,ht⟩:=Ca h i c hc;have hl:=hH.live i b hb;rcases ht with rfl | ⟨t1,t2,t3,t4⟩
  ·exact hl
  ·match hxi:ρ.rw[i]?,hl with
   | some (some e),hl=>
    obtain ⟨g1,cs,ty,fz0,g2,g3,g4,g5,g6⟩:=hl.cs t2
    have hrr:isRec c=false:=by
     unfold isRec at t2 ⊢;rw [←t1];exact t2
    refine .of hrr ⟨by rw [←t1];exact g1,cs,ty,fz0,g2,g3,by rw [←t3];exact g4,fun j v hv=>?_,g6⟩;obtain ⟨x,q1,q2⟩:=t4 j v hv;obtain ⟨cv,p1,p2⟩:=g5 j x q1;exact ⟨cv,p1,q2 _ _ p2⟩
   | some none,hl=>
    have:b.cells=[]:=hl
    show c.cells=[];rw [this] at t3;exact List.eq_nil_of_length_eq_zero t3.symm
   | none,hl=>exact hl.elim
 ·obtain ⟨b,hb,_⟩:=Ca h i c h1;obtain ⟨b',hb',_⟩:=Ca h j c' h2;exact hH.inj i j b b' e e' hb hb' h3 h4 h5
 ·obtain ⟨g1,g2,g3⟩:=hH.ro i b d hr;refine ⟨g1,fun j c e q1 q2=>?_,g3⟩;obtain ⟨b',hb',_⟩:=Ca h j c q1;exact g2 j b' e hb' q2
theorem C2.tellH {C:A1} {m:Nat} {c:Code} {F:Fr} {H H':Hp} {Q:Post} (ht:Go.Am.Mm H H') (h:C2 C m c F H' Q):C2 C m c F H Q:=
 fun r hr ρ a w hH hF=>h r hr ρ a w (hH.tell ht) hF
end Go.Am
namespace Go.Am
end Go.Am
namespace Go.Am
end Go.Am
namespace Go.Am
variable {C:A1}
theorem C2.rng {m:Nat} {F:Fr} {H:Hp} {g:Operand} {ps:Array Tmp} {as bd:Code} {f:FuncId} {cap:List AV} {Q0:Post} (hm:m≤H.length) (hg:ev F g=.func f cap)
  (call:ACalls C f (.yld H.length::cap) (H++[some ⟨4294967291,.rcd 0 ps as bd::F⟩]) (Bg H.length F Q0)):C2 C m (.rangeFunc g ps as bd) F H Q0:=by
 intro r hr ρ a w hH hF;cases r with
 | none=>exact Tv hm hH hF hg call
 | some r=>simp [V4,H6] at hr
theorem AYld.of {i:Nat} {args:List AV} {H:Hp} {e:Nat} {ps:Array Nat} {as bd:Code} {F0:Fr} {R:AV→Hp→Prop} (hi:H[i]?=some (some ⟨e,.rcd 0 ps as bd::F0⟩)) (he:Nat.beq e 4294967291=true) (hl:args.length=ps.size) (na:H6 as=true) (nb:H6 bd=true) {Q1 Q2:Post}
  (A:C2 C H.length as (Be F0 ps.toList args) H Q1)
  (B:∀ ex F1 H1,H.length≤H1.length→Q1 ex F1 H1→ex=.normal∧∃ e ps' as' bd' F',H1[i]?=some (some ⟨e,.rcd 0 ps' as' bd'::F'⟩)∧Nat.beq e 4294967291=true∧C2 C H.length bd F1 (H1.set i (some ⟨e,.rcd 1 ps' as' bd'::F'⟩)) Q2)
  (E:∀ ex F2 H2,H.length≤H2.length→Q2 ex F2 H2→∃ e ps' as' bd' F',H2[i]?=some (some ⟨e,.rcd 1 ps' as' bd'::F'⟩)∧Nat.beq e 4294967291=true∧R (.bool (R5 ex)) (H2.set i (some ⟨e,.rcd (Iw ex) ps' as' bd'::F'⟩))):AYld C i args H R:=by
 intro ρ F w a o r next Q hH hF ho hn;refine Th hH hF ho hi he hl (fun r ρ a w hH hF=>A (some r) na ρ a w hH hF) (fun ex F1 H1 hm hq=>?_) E hn;obtain ⟨h1,e,ps',as',bd',F',h2,h3,h4⟩:=B ex F1 H1 hm hq;exact ⟨h1,e,ps',as',bd',F',h2,h3,fun r ρ a w hH hF=>h4 (some r) nb ρ a w hH hF⟩
theorem AYld.view {i:Nat} {args:List AV} {H:Hp} {K K':AV→Hp→Prop} (h:AYld C i args H K) (hk:∀ v H',K v H'→∃ v' H'',K' v' H''∧B4 H.length [v'] H'' [v] H'):AYld C i args H K':=by
 intro ρ F w a o r next Q hH hF ho hn;refine h ρ F w a o r next Q hH hF ho ?_;intro v H' ρ' cv w' h2 h4 h5 h3 h6;obtain ⟨v',H'',g1,g2⟩:=hk v H' h2
 obtain ⟨ρ2,q1,q2,q3,q4,q5⟩:=g2.use' (a:=⟨#[cv],[]⟩) h4 ⟨⟨[],rfl,List.nodup_nil,fun _ h=>by simp at h⟩,rfl,fun i x hx=>by
  cases i with
  | zero=>simp at hx;subst hx;simpa using h5
  | succ i=>simp at hx⟩
 refine hn v' H'' ρ2 cv w' g1 q1 (by have:=q2.val 0 v' rfl;simpa using this) ?_ (h6.trans q4);refine ⟨fun i x hx=>?_,fun i b d h=>q4.ro i b d (h3.2 i b d h),fun D hD=>by rw [q5];exact h3.3 D hD⟩;have hi:i<ρ.rw.length:=(List.getElem?_eq_some_iff.1 hx).1;rw [q3 i (by rw [←hH.len];exact hi)];exact h3.1 i x hx
theorem AYld.mono {i:Nat} {args:List AV} {H:Hp} {K K':AV→Hp→Prop} (h:AYld C i args H K) (hk:∀ v H',K v H'→K' v H'):AYld C i args H K':=
 fun ρ F w a o r next Q hH hF ho hn=>h ρ F w a o r next Q hH hF ho fun v H' ρ' cv w' h1=>hn v H' ρ' cv w' (hk v H' h1)
theorem AYld.dx {K:DCfg} {f1 f2 n1 n2 N:Nat} {live:List Nat} {i e:Nat} {args:List AV} {ps:Array Nat} {ac bd:Code} {F0:Fr} {vs vs1:List EV} {H H1 H2:DHp} {R:AV→Hp→Prop} (ka:Y7 C K (A3 ac)) (kb:Y7 C K (A3 bd))
  (hi:(vHp C.G H)[i]?=some (some ⟨e,.rcd 0 ps ac bd::F0⟩)) (he:Nat.beq e 4294967291=true) (hl:args.length=ps.size) (na:H6 ac=true) (nb:H6 bd=true) (hF:Be F0 ps.toList args=fl N live (vVs C.G vs))
  (A:vT C.G (fun ex ws H'=>ex=.normal∧ws=vVs C.G vs1∧H'=vHp C.G H1) (fun _ _=>False) (I0 K f1 n1 H.length ac N live vs H))
  (h1:(vHp C.G H1)[i]?=some (some ⟨e,.rcd 0 ps ac bd::F0⟩)) (hlen:H.length≤H2.length) (h2:vHp C.G H2=(vHp C.G H1).set i (some ⟨e,.rcd 1 ps ac bd::F0⟩))
  (D:vT C.G (fun ex _ H'=>H'[i]?=some (some ⟨e,.rcd 1 ps ac bd::F0⟩)∧∃ H'' Gx,H'.set i (some ⟨e,.rcd (Iw ex) ps ac bd::F0⟩)=H''++Gx∧H.length≤H''.length∧I7 H''.length H''=true∧R (.bool (R5 ex)) H'') (fun _ _=>False) (I0 K f2 n2 H.length bd N live vs1 H2)):AYld C i args (vHp C.G H) R:=by
 have hA:=C4 ka (Nat.le_refl _) A;have hB:=C4 kb hlen D;rw [←hF] at hA;have e0:(vHp C.G H).length=H.length:=C6 H
 refine AYld.view (K:=fun v H'=>∃ ex H'' Gx,v=.bool (R5 ex)∧H'=H''++Gx∧H.length≤H''.length∧I7 H''.length H''=true∧R (.bool (R5 ex)) H'')
  (AYld.of hi he hl na nb (Q1:=lv N live fun ex ws H'=>ex=.normal∧ws=vVs C.G vs1∧H'=vHp C.G H1)
   (Q2:=lv N live fun ex _ H'=>H'[i]?=some (some ⟨e,.rcd 1 ps ac bd::F0⟩)∧∃ H'' Gx,H'.set i (some ⟨e,.rcd (Iw ex) ps ac bd::F0⟩)=H''++Gx∧H.length≤H''.length∧I7 H''.length H''=true∧R (.bool (R5 ex)) H'') ?_ ?_ ?_) ?_
 ·rw [e0];exact hA
 ·intro ex F1 H1' _ hq;obtain ⟨q1,q2,q3,q4⟩:=Ap hq;have hN:F1.length=N:=Nat.eq_of_beq_eq_true q1;refine ⟨q2,e,ps,ac,bd,F0,by rw [q4];exact h1,he,?_⟩;refine C2.rd live hN ?_;rw [q3,q4,←h2,e0];exact hB
 ·intro ex F2 H2' _ hq;obtain ⟨q1,q2,H'',Gx,q3,q4,q5,q6⟩:=Ap hq;exact ⟨e,ps,ac,bd,F0,q2,he,ex,H'',Gx,rfl,q3,q4,q5,q6⟩
 ·rintro v H' ⟨ex,H'',Gx,rfl,rfl,q4,q5,q6⟩;exact ⟨_,H'',q6,B4.same (by rw [e0];exact q4) q5 ⟨⟨rfl,rfl⟩,trivial⟩⟩
def Po:Code→Array Nat
 | .rangeFunc _ ps _ _=>ps
 | _=>#[]
def Hx:Code→Code
 | .rangeFunc _ _ as _=>as
 | _=>.skip
def Bv:Code→Code
 | .rangeFunc _ _ _ bd=>bd
 | _=>.skip
def rgG:Code→Operand
 | .rangeFunc g _ _ _=>g
 | _=>.tmp 0
def rcA (c:Code) (p:Nat) (F:Fr):List AV:=.rcd p (Po c) (Hx c) (Bv c)::F
end Go.Am
namespace Go.Am
variable {C:A1}
open Classical in
noncomputable def B2 (vs0:List AV) (H0:Hp):List AV→Bool:=fun xs=>decide (xs=[.agg vs0,.agg (O1 H0)])
theorem Et {vs0 vs:List AV} {H0 H:Hp} (h:B2 vs0 H0 [.agg vs,.agg (O1 H)]=true):vs=vs0∧H=H0:=by
 unfold B2 at h;simp only [decide_eq_true_eq,List.cons.injEq,AV.agg.injEq,and_true] at h;exact ⟨h.1,Ow _ _ h.2⟩
theorem B0 {vs0:List AV} {H0:Hp}:B2 vs0 H0 [.agg vs0,.agg (O1 H0)]=true:=by
 unfold B2;simp
def Wy (G:Nat→List AV) (H0:Hp):Outs→AV→Hp→Prop
 | .one v hs=>fun v' H'=>v'=vV G v∧H'=acts H0 (hs.map (G7 G))
 | .chk _ x=>Wy G H0 x
 | .tst b x y=>fun v' H'=>(vB G b=true∧Wy G H0 x v' H')∨(vB G b=false∧Wy G H0 y v' H')
 | _=>fun _ _=>False
theorem Jd {G:Nat→List AV} {H0:Hp} {P:EV→List DHop→Prop} (R:(AV→Hp→Prop)→Prop) (mono:∀ K K':AV→Hp→Prop,(∀ v H',K v H'→K' v H')→R K→R K') (abs:R (fun _ _=>False)→∀ v hs,P v hs)
  (one:∀ v hs,R (fun v' H'=>v'=vV G v∧H'=acts H0 (hs.map (G7 G)))→P v hs):∀ o,R (Wy G H0 o)→X3 G P o
 | .one v hs,h=>one v hs h
 | .chk b x,h=>fun _=>Jd R mono abs one x h
 | .tst b x y,h=>⟨fun hb=>Jd R mono abs one x (mono _ _ (fun v H' h=>by
   rcases h with ⟨_,h⟩ | ⟨h1,_⟩
   ·exact h
   ·rw [hb] at h1;cases h1) h),fun hb=>Jd R mono abs one y (mono _ _ (fun v H' h=>by
   rcases h with ⟨h1,_⟩ | ⟨_,h⟩
   ·rw [hb] at h1;cases h1
   ·exact h) h)⟩
 | .namI e f,h=>fun j=>oAll_of abs h _
 | .namN e f,h=>fun j=>oAll_of abs h _
 | .namB e f,h=>fun j=>oAll_of abs h _
 | .namL e f,h=>fun j=>oAll_of abs h _
where
 oAll_of {G:Nat→List AV} {P:EV→List DHop→Prop} {R:(AV→Hp→Prop)→Prop} (abs:R (fun _ _=>False)→∀ v hs,P v hs) (h:R (fun _ _=>False)):∀ o,X3 G P o
  | .one v hs=>abs h v hs
  | .chk b x=>fun _=>oAll_of abs h x
  | .tst b x y=>⟨fun _=>oAll_of abs h x,fun _=>oAll_of abs h y⟩
  | .namI e f=>fun j=>oAll_of abs h _
  | .namN e f=>fun j=>oAll_of abs h _
  | .namB e f=>fun j=>oAll_of abs h _
  | .namL e f=>fun j=>oAll_of abs h _
def Hm (j i0:Nat) (q:List AV→Bool) (o:Outs):DYsum:=fun i args H=>match Nat.beq i i0 with
 | true=>some (.chk (.uf j q [.agg (.of args),.agg (.of (Nn H))]) o)
 | false=>none
theorem dY {j i0:Nat} {o:Outs} {vs0:List AV} {H0:Hp} {q:List AV→Bool} (hq:q=B2 vs0 H0) (h:AYld C i0 vs0 H0 (Wy C.G H0 o)):Fa C (Hm j i0 q o):=by
 intro i args H o' ho;unfold Hm at ho;split at ho
 ·rename_i hi
  have:=Nat.eq_of_beq_eq_true hi
  subst this;simp only [Option.some.injEq] at ho;subst ho;intro h1;simp only [vB,vVs,vV,vL,Cp,hq] at h1;obtain ⟨e1,e2⟩:=Et h1;refine Jd (H0:=H0) (fun K=>AYld C i vs0 H0 K) (fun K K' hk h=>h.mono hk) (fun h v hs=>?_) (fun v hs h=>?_) o h
  ·unfold dV;rw [e1,e2];exact h.mono fun _ _ h=>h.elim
  ·unfold dV;rw [e1,e2];exact h
 ·simp at ho
def Ts (j:Nat) (q:List AV→Bool) (o:Outs):DSum:=fun args H=>some (.chk (.uf j q [.agg (.of args),.agg (.of (Nn H))]) o)
theorem L1 {M:Nat} {c:Code} {j:Nat} {ex N:Nat} {live:List Nat} {o:LOut} {vs0:List AV} {H0:Hp} {q:List AV→Bool} (hq:q=B2 vs0 H0)
  (h:C2 C M (.loop c) (fl N live vs0) H0 (lv N live (o.post C.G M))):G4 C M c (B5 j q ex N live o):=by
 refine .of fun vs H o' ho n Q hQ=>?_;simp only [B5,Option.some.injEq] at ho;subst ho;obtain ⟨h1,h2⟩:=hQ;simp only [vB,vVs,vV,vL,Cp,hq] at h1;obtain ⟨e1,e2⟩:=Et h1;rw [e1,e2];exact h.lmono fun e vs H hp=>X9 o n h2 hp
theorem Un {M:Nat} {c:Code} {j:Nat} {ex N:Nat} {live:List Nat} {o:LOut} {vs0:List AV} {H0:Hp} {q:List AV→Bool} (hq:q=B2 vs0 H0)
  (h:C2 C M c (fl N live vs0) H0 (lv N live (o.post C.G M))):Tf C M c (B5 j q ex N live o):=by
 intro m vs H o' hm ho n Q hQ;simp only [B5,Option.some.injEq] at ho;subst ho;obtain ⟨h1,h2⟩:=hQ;simp only [vB,vVs,vV,vL,Cp,hq] at h1;obtain ⟨e1,e2⟩:=Et h1;rw [e1,e2];exact (h.pin hm).lmono fun e vs H hp=>(X9 o n h2 hp).pin hm
end Go.Am
namespace Go.Am
end Go.Am
namespace Go.Am
open Go.RowKit
end Go.Am
namespace Go.Am
open Go.RowKit
def σS (src:Nat→Option Nat):Sig:=fun k=>match src k with
 | some k1=>(.ro k1,0)
 | none=>(.rw 0,0)
def kM (src:Nat→Option Nat) (G G':Nat→List AV):Prop:=∀ k k1,src k=some k1→∀ (j:Nat) v,(G' k)[j]?=some v→∃ x,(G k1)[j]?=some x∧G8 v=true∧∀ (ρ:Env) cv,VR ρ x cv→VR ρ (sb (σS src) 0 v) cv
theorem dH {P:Program} {G G':Nat→List AV} {B:Nat} {src:Nat→Option Nat} (hG:kM src G G') {ρ:Env} {w:World} (hH:A4 ⟨P,G,B⟩ ρ [] w):A4 ⟨P,G',w.heap.size⟩ ⟨[],Dx (σS src) ρ,[]⟩ [] w:=by
 refine ⟨rfl,Nat.le_refl _,fun i e h=>by simp at h,fun i b h=>by simp at h,fun i j b b' e e' h=>by simp at h,fun i b d hr=>?_,fun D h=>by simp at h⟩;have hlen:ρ.rw=[]:=List.eq_nil_of_length_eq_zero hH.len
 obtain ⟨k1,hs,hr1⟩:∃ k1,src i=some k1∧ρ.ro k1 b d:=by
  simp only [Dx] at hr;cases h:src i with
  | some k1=>
   have:σS src i=(.ro k1,0):=by unfold σS;rw [h]
   rw [this] at hr;obtain ⟨d0,h1,h2⟩:=hr;simp only [Nat.add_zero] at h2;exact ⟨k1,rfl,by rw [h2];exact h1⟩
  | none=>
   have:σS src i=(.rw 0,0):=by unfold σS;rw [h]
   rw [this] at hr;obtain ⟨e,h1,_⟩:=hr;rw [hlen] at h1;simp at h1
 obtain ⟨g1,g2,g3⟩:=hH.ro k1 b d hr1;refine ⟨g1,fun j x e h=>by simp at h,fun k v hv=>?_⟩;obtain ⟨x,q1,q2,q3⟩:=hG i k1 hs k v hv;obtain ⟨cv,g4,g5⟩:=g3 k x q1;refine ⟨cv,g4,dT (n:=0) v cv q2 (q3 ρ cv ?_)⟩;exact VR.sub (ρ:=⟨[],ρ.ro,[]⟩) (ρ':=ρ) ⟨fun i x hx=>by simp at hx,fun _ _ _ h=>h⟩ x cv g5
theorem fT {P:Program} {G G':Nat→List AV} {B:Nat} {f:FuncId} {args args':List AV} {R:AV→Prop} {src:Nat→Option Nat} (hG:kM src G G')
  (h:∀ B,ACalls ⟨P,G',B⟩ f args' [] fun v _=>R v) (ha:I9 args'=true) (hb:∀ (ρ:Env) vs,VRs ρ args vs→VRs ρ (sbs (σS src) 0 args') vs) (hR:∀ v,R v→B1 0 v=true∧T7 v=true):ACalls ⟨P,G,B⟩ f args [] fun v _=>R v:=by
 refine ⟨(h 0).1,fun ρ w cargs hH hv=>?_⟩;refine ((h w.heap.size).2 ⟨[],Dx (σS src) ρ,[]⟩ w cargs (dH hG hH) (Ir args' cargs ha (hb ρ cargs hv))).mono ?_;rintro e w' ⟨v,cv,ρ',H',rfl,h2,h3,h4,h5,h6⟩;obtain ⟨hb,hn⟩:=hR v h2;have hkeep:∀ b,b<w.heap.size→w'.heap[b]?=w.heap[b]?:=fun b hb=>h6.keep b hb (.inr fun i e h=>by simp at h);refine ⟨v,cv,ρ,[],rfl,h2,Env.le_refl ρ,?_,?_,?_⟩
 ·refine ⟨hH.len,Nat.le_trans hH.base h6.size,fun i e he=>⟨(hH.ents i e he).1,Nat.lt_of_lt_of_le (hH.ents i e he).2 h6.size⟩,fun i b hb=>?_,hH.inj,fun i b d hr=>?_,fun D hD=>⟨(hkeep D (hH.df_lt hD)).trans (hH.df D hD).1,(hH.df D hD).2⟩⟩
  ·exact (hH.live i b hb).mono (Env.le_refl ρ) fun e he=>hkeep _ (hH.ents i e he).2
  ·obtain ⟨g1,g2,g3⟩:=hH.ro i b d hr;refine ⟨Nat.lt_of_lt_of_le g1 h6.size,g2,fun k v hv=>?_⟩;obtain ⟨cv,g4,g5⟩:=g3 k v hv;refine ⟨cv,?_,g5⟩;rw [←g4];simp only [World.cell?,hkeep b g1]
 ·exact bQ hb hn h5
 ·exact ⟨h6.os,h6.tape,h6.output,h6.size,fun b hb _=>hkeep b hb,fun i e he=>.inl ⟨i,e,he,rfl⟩,fun _ _ _ h=>h,fun _ _ _ h=>.inl h,fun _ h=>.inl h⟩
end Go.Am
