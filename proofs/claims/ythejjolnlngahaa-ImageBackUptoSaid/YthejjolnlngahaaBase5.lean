/-
  Methods: a call over one block of its own, told in every heap that has A nil list, looked at as an empty one of its own; views that leave the
-/
import Derived.Test.YthejjolnlngahaaBase4
import Derived.Test.YthejjolnlngahaaBase3
import Derived.RecoverIn
namespace Go.Am
section
variable {C:A0}
theorem ACalls.keep {f:FuncId} {args:List AV} {H H1:Hp} {v1:AV} {k:Nat} (h:ACalls C f args H fun v H'=>v=v1∧H'.take k=H1) (hk:H.length≤H1.length) (hb:H9 H1.length H1=true) (hv:A8 H1.length v1=true) (hu:v1≠.undef) :
  ACalls C f args H fun v H'=>v=v1∧H'=H1:=
 h.view fun v H' ⟨e1,e2⟩=>⟨v1,H1,⟨rfl,rfl⟩,by
  subst e1;have e:H'=H1++H'.drop k:=by rw [←e2,List.take_append_drop]
  rw [e];refine C2.same hk hb ?_
  cases v<;>first | exact absurd rfl hu | exact ⟨⟨hv,rfl⟩,trivial⟩⟩
end
def Rt (k:Nat) (x x':AV):Prop:=x'=x∨(x=.slice true (.rw k) 0 0∧x'=.nils)
def Dk (k:Nat):List AV→List AV→Prop
 | [],[]=>True
 | x::l,y::m=>Rt k x y∧Dk k l m
 | _,_=>False
def Uu (k:Nat):Hp→Hp→Prop
 | [],[]=>True
 | none::H,none::H'=>Uu k H H'
 | some b::H,some b'::H'=>(b.esz=b'.esz∧Dk k b.cells b'.cells)∧Uu k H H'
 | _,_=>False
theorem iK {k:Nat} (x:AV):Rt k x x:=.inl rfl
theorem Ki {k:Nat}:∀ (l:List AV),Dk k l l
 | []=>trivial
 | x::l=>⟨iK x,Ki l⟩
theorem Ut {k:Nat}:∀ {l m:List AV},Dk k l m→l.length=m.length∧∀ (i:Nat) v,l[i]?=some v→∃ v',m[i]?=some v'∧Rt k v v'
 | [],[],_=>⟨rfl,fun i v h=>by simp at h⟩
 | [],_::_,h=>h.elim
 | _::_,[],h=>h.elim
 | x::l,y::m,h=>by
  obtain ⟨h1,h2⟩:=Ut h.2;refine ⟨by simp [h1],fun i v hv=>?_⟩;cases i with
  | zero=>simp at hv;subst hv;exact ⟨y,rfl,h.1⟩
  | succ i=>simpa using h2 i v (by simpa using hv)
theorem Za {k:Nat}:∀ {H H':Hp},Uu k H H'→H.length=H'.length∧∀ (i:Nat) b,H[i]?=some (some b)→∃ b',H'[i]?=some (some b')∧b.esz=b'.esz∧Dk k b.cells b'.cells
 | [],[],_=>⟨rfl,fun i v h=>by simp at h⟩
 | [],_::_,h=>h.elim
 | none::_,[],h=>h.elim
 | some _::_,[],h=>h.elim
 | none::_,some _::_,h=>h.elim
 | some _::_,none::_,h=>h.elim
 | none::H,none::H',h=>by
  obtain ⟨h1,h2⟩:=Za (show Uu k H H' from h);refine ⟨by simp [h1],fun i v hv=>?_⟩;cases i with
  | zero=>simp at hv
  | succ i=>simpa using h2 i v (by simpa using hv)
 | some b::H,some b'::H',h=>by
  obtain ⟨h1,h2⟩:=Za h.2;refine ⟨by simp [h1],fun i v hv=>?_⟩;cases i with
  | zero=>simp at hv;subst hv;exact ⟨b',rfl,h.1⟩
  | succ i=>simpa using h2 i v (by simpa using hv)
theorem Ml {ρ:Env} {x x':AV} {cv:Value} (h:Rt ρ.rw.length x x') (hv:VR ρ x' cv):VR (ρ.push none) x cv:=by
 rcases h with rfl | ⟨rfl,rfl⟩
 ·exact VR.mono (Env.le_push ρ none) _ _ hv
 ·simp only [VR] at hv ⊢;subst hv;exact ⟨none,0,rfl,zA1 _,.inl ⟨rfl,rfl,rfl⟩⟩
theorem rV {C:A0} {ρ:Env} {H H':Hp} {w:World} (e:Nat) (hH:Uu H'.length H H') (h4:B1 C ρ H' w):B1 C (ρ.push none) (H++[some ⟨e,[]⟩]) w:=by
 have hl:=h4.len;obtain ⟨hle,hget⟩:=Za hH;have low:∀ i,i<H'.length→(ρ.push none).rw[i]?=ρ.rw[i]?:=fun i hi=>by simp [Env.push,wM (show i<ρ.rw.length by omega)]
 have none':∀ (i:Nat) x,(ρ.push none).rw[i]?=some (some x)→ρ.rw[i]?=some (some x):=fun i x hx=>by
  rcases W6 ρ none i _ hx with ⟨_,h⟩ | ⟨_,h⟩
  ·exact h
  ·simp at h
 have blk:∀ (i:Nat) b,(H++[some (⟨e,[]⟩:Blk)])[i]?=some (some b)→(i<H'.length∧H[i]?=some (some b))∨(i=H'.length∧b=⟨e,[]⟩):=fun i b hb=>by
  by_cases hi:i<H.length
  ·rw [wM hi] at hb;exact .inl ⟨by omega,hb⟩
  ·rw [xN (by omega)] at hb
   have:i=H.length:=by have:=(zQ.1 hb).1;simp at this;omega
   subst this;simp at hb;exact .inr ⟨hle,hb.symm⟩
 refine ⟨by simp [Env.push,hl,hle],h4.base,fun i x hx=>h4.ents i x (none' i x hx),fun i b hb=>?_,fun i j b b' x x' q1 q2 q3 q4 q5=>?_,fun i b d hr=>⟨(h4.ro i b d hr).1,fun j x e q1 q2=>?_,(h4.ro i b d hr).2.2⟩,fun D hD=>⟨(h4.df D hD).1,fun i x hx=>(h4.df D hD).2.1 i x (none' i x hx),(h4.df D hD).2.2⟩⟩
 ·rcases blk i b hb with ⟨hi,hb⟩ | ⟨rfl,rfl⟩
  ·rw [low i hi];obtain ⟨b',g1,g2,g3⟩:=hget i b hb;obtain ⟨gl,gg⟩:=Ut g3
   have:=h4.live i b' g1
   match hx:ρ.rw[i]?,this with
   | some (some en),this=>
    have hrr:isRec b=isRec b':=by unfold isRec;rw [g2]
    cases hr0:isRec b' with
    | true=>
     obtain ⟨h1,r,h2,p,ps,a,bd,F,q1,q2,q3,q4,q5,q6,q7⟩:=this.rec hr0;rw [q1] at g3 gl gg
     obtain ⟨F',hF'⟩:∃ F',b.cells=.rcd p ps a bd::F':=by
      cases hc:b.cells with
      | nil=>rw [hc] at gl;simp at gl
      | cons x F'=>
       rw [hc] at g3;rcases g3.1 with h | ⟨_,h⟩
       ·exact ⟨F',by rw [h]⟩
       ·simp at h
     refine .ofRec (hrr.trans hr0) ⟨by rw [h1,g2],r,h2,p,ps,a,bd,F',hF',q2,q3,q4,q5,?_,fun k v hv=>?_⟩
     ·rw [hF'] at gl;rw [←q6];simpa using gl
     ·obtain ⟨v',e1,e2⟩:=gg (k+1) v (by rw [hF'];simpa using hv);exact Ml (by rw [hl];exact e2) (q7 k v' (by simpa using e1))
    | false=>
    obtain ⟨h1,cs,ty,fz,h2,h3,h5,h6,h7⟩:=this.cs hr0;refine .of (hrr.trans hr0) ⟨by rw [h1,g2],cs,ty,fz,h2,h3,by omega,fun k v hv=>?_,h7⟩;obtain ⟨v',e1,e2⟩:=gg k v hv;obtain ⟨cv,e3,e4⟩:=h6 k v' e1;exact ⟨cv,e3,Ml (by rw [hl];exact e2) e4⟩
   | some none,this=>
    have hc:b'.cells=[]:=this;show b.cells=[];rw [hc] at gl;exact List.length_eq_zero_iff.1 (by simpa using gl)
  ·have:(ρ.push none).rw[H'.length]?=some none:=by simp [Env.push,←hl]
   rw [this];rfl
 ·have r3:=none' i x q3;have r4:=none' j x' q4;have l3:i<H'.length:=by rw [←hl];exact (zQ.1 r3).1
  have l4:j<H'.length:=by rw [←hl];exact (zQ.1 r4).1
  rw [wM (by omega)] at q1;rw [wM (by omega)] at q2;obtain ⟨b1,g1,_⟩:=hget i b q1;obtain ⟨b2,g2,_⟩:=hget j b' q2;exact h4.inj i j b1 b2 x x' g1 g2 r3 r4 q5
 ·have r2:=none' j e q2;have l2:j<H'.length:=by rw [←hl];exact (zQ.1 r2).1
  rw [wM (by omega)] at q1;obtain ⟨b1,g1,_⟩:=hget j x q1;exact (h4.ro i b d hr).2.1 j b1 e g1 r2
theorem yQ {C:A0} {ρ:Env} {H':Hp} {w:World} {F F':Fr} {a:Act} (h4:B1 C ρ H' w) (hF:Dk H'.length F F') (h:D0 ρ F' a):D0 (ρ.push none) F a:=by
 obtain ⟨gl,gg⟩:=Ut hF;refine ⟨h.nod,by rw [gl,h.len],fun i v hv=>?_⟩;obtain ⟨v',e1,e2⟩:=gg i v hv;exact Ml (by rw [h4.len];exact e2) (h.val i v' e1)
theorem rW {ρ:Env} {w:World}:Frm ρ w (ρ.push none) w:=by
 have none':∀ (i:Nat) x,(ρ.push none).rw[i]?=some (some x)→ρ.rw[i]?=some (some x):=fun i x hx=>by
  rcases W6 ρ none i _ hx with ⟨_,h⟩ | ⟨_,h⟩
  ·exact h
  ·simp at h
 exact ⟨rfl,rfl,rfl,zA1 _,fun _ _ _=>rfl,fun i x hx=>.inl ⟨i,x,none' i x hx,rfl⟩,fun _ _ _ h=>h,fun _ _ _ h=>.inl h,fun _ h=>.inl h⟩
theorem AWp.nil {C:A0} {m:Nat} {c:Code} {F F':Fr} {H H':Hp} {Q:Post} (e:Nat) (hm:m≤H'.length) (hF:Dk H'.length F F') (hH:Uu H'.length H H') (h:AWp C m c F (H++[some ⟨e,[]⟩]) Q):AWp C m c F' H' Q:=by
 intro r hr ρ a w h4 h5
 have:=h r hr (ρ.push none) a w (rV e hH h4) (yQ h4 hF h5)
 refine Code.wpIn_mono (fun e' a' w' h=>AP.link ?_ rW h) this;intro i hi
 have:i<ρ.rw.length:=by rw [h4.len];omega
 simp [Env.push,wM this]
theorem fixes1 {θ:List Nat}:∀ i,i<1→(0::θ).getD i 0=i:=fun i hi=>by
 have:i=0:=by omega
 subst this;rfl
theorem Vk {θ:List Nat}:∀ i,i<2→(0::1::θ).getD i 0=i:=fun i hi=>by
 have:i=0∨i=1:=by omega
 rcases this with rfl | rfl<;>rfl
theorem C2.renM {m:Nat} {θ:List Nat} {F F':Fr} {H H':Hp} (hm:m≤H.length) (hfix:∀ i,i<m→θ.getD i 0=i) (hnd:θ.Nodup) (hb:Vr θ H' H.length θ H) (hF:A3 H.length F=true) (hF':wk (rens θ F) F'):C2 m F H F' H':=by
 obtain ⟨θ',g1,_,_,g2,g3,g4,g5,g6⟩:=(C2.ren hnd hb hF hF').ex;have hl:=Su hb;have hg:=Sv hb;refine ⟨θ,hl,hm,hfix,fun i hi=>(hg i hi).1,fun i j b b' h1 h2 he=>?_,fun i b h=>?_,g5,fun k v hk=>?_⟩
 ·have hi:i<θ.length:=by rw [hl];exact (zQ.1 h1).1
  have hj:j<θ.length:=by rw [hl];exact (zQ.1 h2).1
  simp only [List.getD,yO hi,yO hj,Option.getD_some] at he;exact (List.getElem_inj hnd).1 he
 ·have hi:i<θ.length:=by rw [hl];exact (zQ.1 h).1
  obtain ⟨q1,q2⟩:=(hg i hi).2 b h;refine ⟨_,q2,by rw [I7];simp,rfl,fun k v hk=>?_,fun _=>⟨by rw [I7];simp,by rw [I7];simp⟩⟩;rw [L2,xM] at q1;refine ⟨by rw [hl];exact q1 v (rM hk),.inr ?_⟩;rw [I7];simp [hk]
 ·rw [L2,xM] at hF;refine ⟨by rw [hl];exact hF v (rM hk),?_⟩;rcases Tm hF' k (Go.Am.C0 θ v) (by rw [I7];simp [hk]) with h | h
  ·left;cases v with
   | undef=>rfl
   | ptr r o=>cases r<;>simp [Go.Am.C0] at h
   | slice m r o n=>cases r<;>simp [Go.Am.C0] at h
   | _=>simp [Go.Am.C0] at h
  ·exact .inr h
theorem iJ {k:Nat} {f g:Nat→AV}:∀ (l:List Nat),(∀ i∈l,Rt k (f i) (g i))→Dk k (l.map f) (l.map g)
 | [],_=>trivial
 | x::l,h=>⟨h x (by simp),iJ l fun i hi=>h i (by simp [hi])⟩
theorem bA {k i:Nat}:∀ (live:List Nat) (vs vs':List AV),Dk k vs vs'→Rt k ((((live.zip vs).find? fun p=>Nat.beq p.1 i).map (·.2)).getD .undef) ((((live.zip vs').find? fun p=>Nat.beq p.1 i).map (·.2)).getD .undef)
 | [],_,_,_=>by simp [Rt]
 | j::live,[],[],_=>by simp [Rt]
 | j::live,[],_::_,h=>h.elim
 | j::live,_::_,[],h=>h.elim
 | j::live,x::vs,y::vs',h=>by
  simp only [List.zip_cons_cons,List.find?_cons];split
  ·simpa using h.1
  ·exact bA live vs vs' h.2
theorem aJ0 {k N:Nat} {live:List Nat} {vs vs':List AV} (h:Dk k vs vs'):Dk k (fl N live vs) (fl N live vs'):=
 iJ _ fun i _=>bA live vs vs' h
theorem AWp.pin {C:A0} {m m':Nat} {c:Code} {F:Fr} {H:Hp} {Q:Post} (hm:m'≤m) (h:AWp C m c F H Q):AWp C m' c F H Q:=by
 intro r hr ρ a w hH hF;refine Code.wpIn_mono ?_ (h r hr ρ a w hH hF);rintro e a' w' ⟨ae,ρ',F',H',h1,h2,h3,h4⟩;exact ⟨ae,ρ',F',H',h1,h2,fun i hi=>h3 i (by omega),h4⟩
theorem H5.of {C:A0} {M:Nat} {c:Code} {d:DL} (h:∀ vs H o,d.S vs H=some o→∀ n (Q:Ex→List AV→Hp→Prop),K2 C.G (fun e vs' H'=>Q e (vVs C.G vs') (B7 C.G H')) n o→
  AWp C M (.loop c) (fl d.N d.live (vVs C.G vs)) (B7 C.G H) (lv d.N d.live (Lp M Q))):H5 C M c d:=
 fun m vs H o hm ho n Q hQ=>((h vs H o ho n Q hQ).pin hm).lmono fun e vs H' hl=>hl.pin hm
theorem sM {n:Nat}:∀ (F:Fr),A3 n F=true→fv n F F
 | [],_=>trivial
 | x::F,h=>by
  simp only [A3,zN] at h
  have:=sM F h.2
  cases x<;>first | exact this | exact ⟨⟨h.1,rfl⟩,this⟩
theorem bB1 {n N:Nat} {live:List Nat} {vs:List AV} (h:A3 n vs=true):A3 n (fl N live vs)=true:=by
 rw [L2,xM];intro v hv;obtain ⟨i,hi⟩:=List.getElem?_of_mem hv;rcases zV hi with rfl | ⟨j,_,h2⟩
 ·rfl
 ·rw [L2,xM] at h;exact h v (rM h2)
theorem AWp.forget {C:A0} {m:Nat} {c:Code} {N:Nat} {live:List Nat} {vs:List AV} {H G:Hp} {Q:Post} (hm:m≤H.length) (hb:H9 H.length H=true) (hv:A3 H.length vs=true) (h:AWp C m c (fl N live vs) H Q):AWp C m c (fl N live vs) (H++G) Q:=
 h.pre (C2.same hm hb (sM _ (bB1 hv)))
end Go.Am
namespace Go
theorem DataW.TrodAll.len {H:Type} {enc:TypeId×Value→H} {P:Program} {w:World} {base:Nat} {spare:Nat→Bool} {held:Bool}:∀ {ts:List TypeId} {vs:List Value} {ds:List (DataW H)} {ps:List MemPlace},DataW.TrodAll enc P w base spare held ts vs ds ps→vs.length=ts.length∧ds.length=ts.length
 | [],vs,ds,ps,h=>by
  obtain ⟨rfl,rfl,rfl⟩:=ChangeShapes.trodAll_nil h;exact ⟨rfl,rfl⟩
 | t::ts,vs,ds,ps,h=>by
  obtain ⟨v,vs,d,ds,p,q,rfl,rfl,rfl,h1,h2⟩:=ChangeShapes.trodAll_cons h
  have:=DataW.TrodAll.len h2
  simp [this]
end Go
namespace Go.Am
section
variable {H:Type} {P:Program} {L:List RoE} {n:Nat} {t e:TypeId} {cs:List AV} {a:AV} {d:DataW H}
theorem G4.asBool (ht:P.underlying t=some .bool) (h:G4 P L (n+1) t cs d):∃ b,cs=[.bool b]∧d=.lit (.bool b):=by unfold G4 at h;rw [ht] at h;exact h
theorem G4.asInt {k:IntKind} (ht:P.underlying t=some (.int k)) (h:G4 P L (n+1) t cs d):∃ i,cs=[.int k i]∧(Lit.int k i).wf=true∧d=.lit (.int k i):=by unfold G4 at h;rw [ht] at h;exact h
theorem G4.asSlice (ht:P.underlying t=some (.slice e)) (h:G4 P L (n+1) t cs d):(cs=[.nils]∧d=.nil)∨∃ (k:Nat) (ds sp:List (DataW H)) (en:RoE),cs=[.slice false (.ro k) 0 ds.length]∧d=.slice ds sp∧L[k]?=some en∧
    en.cells.length=ds.length*P.cellsOf e∧ds.length+sp.length≤maxLen∧∀ (i:Nat) x,ds[i]?=some x→G4 P L n e ((en.cells.drop (i*P.cellsOf e)).take (P.cellsOf e)) x:=by unfold G4 at h;rw [ht] at h;exact h
theorem G4.asStruct {fs:Array Field} (ht:P.underlying t=some (.struct fs)) (h:G4 P L (n+1) t cs d):cs.length=P.cellsOf t∧∃ ds,d=.agg ds∧ds.length=fs.size∧∀ (i:Nat) f x,fs[i]?=some f→ds[i]?=some x→G4 P L n f.type ((cs.drop f.offset).take (P.cellsOf f.type)) x:=by unfold G4 at h;rw [ht] at h;exact h
theorem G4.asArray {m:Nat} (ht:P.underlying t=some (.array m e)) (h:G4 P L (n+1) t cs d):cs.length=P.cellsOf t∧∃ ds,d=.agg ds∧ds.length=m∧∀ (i:Nat) x,ds[i]?=some x→G4 P L n e ((cs.drop (i*P.cellsOf e)).take (P.cellsOf e)) x:=by unfold G4 at h;rw [ht] at h;exact h
theorem cW {k:Nat} {en:RoE} (h:L[k]?=some en):GL L k=en.cells:=by simp [GL,h]
theorem wf_u8 {i:Int} (h:(Lit.int .u8 i).wf=true):0≤i∧i≤255:=by simpa [Lit.wf,IntKind.min,IntKind.max,IntKind.signed,IntKind.bits] using h
theorem wf_i64 {i:Int} (h:(Lit.int .i64 i).wf=true):-9223372036854775808≤i∧i≤9223372036854775807:=by simpa [Lit.wf,IntKind.min,IntKind.max,IntKind.signed,IntKind.bits] using h
theorem Ap.struct {fs:Array Field} (ht:P.underlying t=some (.struct fs)) (h:Ap P L n t a d):∃ cs,a=.agg cs∧G4 P L n t cs d:=by unfold Ap at h;rw [ht] at h;exact h
theorem Ap.array {m:Nat} (ht:P.underlying t=some (.array m e)) (h:Ap P L n t a d):∃ cs,a=.agg cs∧G4 P L n t cs d:=by unfold Ap at h;rw [ht] at h;exact h
theorem Is.nil {xs:List AV} {ds:List (DataW H)} (h:Is P L n [] xs ds):xs=[]∧ds=[]:=by
 match xs,ds,h with
 | [],[],_=>exact ⟨rfl,rfl⟩
theorem Is.cons {ts:List TypeId} {xs:List AV} {ds:List (DataW H)} (h:Is P L n (t::ts) xs ds):∃ x xs' d ds',xs=x::xs'∧ds=d::ds'∧Ap P L n t x d∧Is P L n ts xs' ds':=by
 match xs,ds,h with
 | x::xs,d::ds,h=>exact ⟨x,xs,d,ds,rfl,rfl,h.1,h.2⟩
theorem pM {L:List RoE} {k:Nat} (h:L.length≤k):GL L k=[]:=by simp [GL,h]
theorem Ll {ρ:Env} {v:Value} (k o:Nat) (h:VR ρ .nils v):VR ρ (.slice true (.ro k) o 0) v:=by
 simp only [VR] at h ⊢;subst h;exact ⟨none,0,rfl,zA1 _,.inl ⟨rfl,rfl,rfl⟩⟩
theorem T1 {ρ:Env} {v:Value} {mb:Bool} {r:Ref} {o m:Nat} (h:VR ρ (.slice mb r o m) v):VR ρ (.slice true r o m) v:=by
 simp only [VR] at h ⊢;obtain ⟨ca,cap,h1,h2,h3⟩:=h;refine ⟨ca,cap,h1,h2,?_⟩;rcases h3 with ⟨h3,h4,_⟩ | h3
 ·exact .inl ⟨h3,h4,rfl⟩
 ·exact .inr h3
end
end Go.Am
namespace Go.Am
section
variable {C:A0}
theorem Gd {G:Nat→List AV} {H:DHp} {i:Nat} {b:Nd} (hi:H[i]?=some (some b)):(B7 G H).set i (some (D8 G b))=B7 G H:=by
 have hg:=I3 (G:=G) hi;have hlt:i<(B7 G H).length:=(zQ.1 hg).1
 have:(B7 G H)[i]=some (D8 G b):=by
  have:=hg
  rw [yO hlt] at this;simpa using this
 rw [←this];exact List.set_getElem_self hlt
theorem E0.new0 {f:FuncId} {args0:List AV} {args:List EV} {H:DHp} {b:Nd} {v:EV} {v0:AV} (h:ACalls C f args0 [] fun v' H'=>v'=v0∧H'=[some (D8 C.G b)])
  (hb:A3 0 (vL C.G b.cells)=true) (ha:A3 0 args0=true) (he:vVs C.G args=args0) (hv0:A8 1 v0=true) (hv:vV C.G v=C0 [H.length] v0):E0 C f args H v [.new b]:=by
 have key:=bV h [] rfl (by simp) (fun k b hk=>by simp at hk) (H:=B7 C.G H) (by simpa using ha) (fun v1 H0' hk=>by
  obtain ⟨rfl,rfl⟩:=hk;refine ⟨by simp,hv0,fun k b' hb'=>?_⟩
  match k with
  | 0=>simp at hb';subst hb';exact G6 (zA2 _) _ hb
  | k+1=>simp at hb')
 unfold E0;rw [he,show args0=rens [] args0 from (B9 _ _ ha).symm];refine key.monoK ?_;rintro v' H' ⟨v1,H0',⟨rfl,rfl⟩,rfl,rfl⟩;refine ⟨by rw [hv];simp [N7,E3],?_⟩;simp only [List.map_cons,List.map_nil,acts,Hop.act,J6,X3,lay,List.length_nil,List.drop_zero,R9,Option.map_some];congr 2;simp only [K3,D8,B9 _ _ hb]
end
section
variable {C:A0}
theorem fF {n:Nat}:∀ {H:Hp},H9 n H=true→∀ (i:Nat) b,H[i]?=some (some b)→A3 n b.cells=true
 | [],_,i,b,h=>by simp at h
 | none::H,hb,i,b,h=>by
  cases i with
  | zero=>simp at h
  | succ i=>exact fF (H:=H) (by simpa [H9] using hb) i b (by simpa using h)
 | some b0::H,hb,i,b,h=>by
  simp only [H9,zN] at hb;cases i with
  | zero=>simp at h;subst h;exact hb.1
  | succ i=>exact fF (H:=H) hb.2 i b (by simpa using h)
theorem E0.fr {f:FuncId} {args0:List AV} {args:List EV} {H:DHp} {θ:List Nat} {H0 H1:Hp} {v0:AV} {v:EV} {hs:List DHop} (hnd:θ.Nodup) (hl:θ.length=H0.length)
  (hlive:∀ (i:Nat) b,H0[i]?=some b→∃ b0,b=some b0∧A3 θ.length b0.cells=true∧(B7 C.G H)[θ.getD i 0]?=some (some (K3 θ b0)))
  (ha:A3 θ.length args0=true) (he:vVs C.G args=rens θ args0) (h:ACalls C f args0 H0 fun v' H'=>v'=v0∧H'=H1) (hle:H0.length≤H1.length) (hv0:A8 H1.length v0=true) (hb:H9 H1.length H1=true)
  (hv:vV C.G v=C0 (N7 θ H.length (H1.length - θ.length)) v0) (hm:acts (B7 C.G H) (hs.map (J6 C.G))=X3 θ (B7 C.G H) H1):E0 C f args H v hs:=by
 have key:=bV h θ hl hnd hlive ha (fun v1 H0' hk=>by
  obtain ⟨rfl,rfl⟩:=hk
  exact ⟨hle,hv0,fF hb⟩)
 unfold E0;rw [he];refine key.monoK ?_;rintro v' H' ⟨v1,H0',⟨rfl,rfl⟩,rfl,rfl⟩;exact ⟨by rw [hv,E3],hm.symm⟩
theorem nG (θ':List Nat):∀ (θ:List Nat) (bs:List (Option Blk)) (H:Hp),(∀ (i:Nat) b,i<θ.length→bs[i]?=some b→H[θ.getD i 0]?=some (R9 θ' b))→lay θ' θ bs H=H
 | [],_,_,_=>by simp [lay]
 | _::_,[],_,_=>by simp [lay]
 | j::θ,b::bs,H,h=>by
  have h0:=h 0 b (by simp) rfl;have hj:H[j]?=some (R9 θ' b):=by simpa using h0
  have hlt:j<H.length:=(zQ.1 hj).1
  have e:H.set j (R9 θ' b)=H:=by
   have:H[j]=R9 θ' b:=by rw [yO hlt] at hj;simpa using hj
   rw [←this];exact List.set_getElem_self hlt
  simp only [lay,e]
  exact nG θ' θ bs H fun i b' hi hb=>by
   have:=h (i+1) b' (by simpa using hi) (by simpa using hb)
   simpa using this
theorem E0.newN {f:FuncId} {args0:List AV} {args:List EV} {H:DHp} {θ:List Nat} {H0:Hp} {b:Nd} {v0:AV} {v:EV} (hnd:θ.Nodup) (hl:θ.length=H0.length)
  (hlive:∀ (i:Nat) b,H0[i]?=some b→∃ b0,b=some b0∧A3 θ.length b0.cells=true∧(B7 C.G H)[θ.getD i 0]?=some (some (K3 θ b0)))
  (ha:A3 θ.length args0=true) (he:vVs C.G args=rens θ args0) (h:ACalls C f args0 H0 fun v' H'=>v'=v0∧H'=H0++[some (D8 C.G b)]) (hb:A3 0 (vL C.G b.cells)=true) (hv0:A8 (H0.length+1) v0=true)
  (hv:vV C.G v=C0 (N7 θ H.length 1) v0):E0 C f args H v [.new b]:=by
 have hH0:∀ (i:Nat) x,H0[i]?=some (some x)→A3 θ.length x.cells=true:=fun i x hx=>by
  obtain ⟨b0,e,g,_⟩:=hlive i _ hx;simp at e;subst e;exact g
 have hpb:H9 (H0++[some (D8 C.G b)]).length (H0++[some (D8 C.G b)])=true:=by
  have key:∀ (n:Nat) (A:Hp),(∀ (i:Nat) x,A[i]?=some (some x)→A3 n x.cells=true)→H9 n A=true:=by
   intro n A
   induction A with
   | nil=>intro _;rfl
   | cons x A ih=>
    intro g
    have:=ih fun i y hy=>g (i+1) y (by simpa using hy)
    cases x with
    | none=>simpa [H9] using this
    | some x=>simp only [H9,zN];exact ⟨g 0 x rfl,this⟩
  refine key _ _ fun i x hx=>?_;by_cases hi:i<H0.length
  ·rw [wM hi] at hx;exact G6 (by simp;omega) _ (hH0 i x hx)
  ·rw [xN (by omega)] at hx
   have:i - H0.length=0:=by have:=(zQ.1 hx).1;simp at this;omega
   rw [this] at hx;simp at hx;subst hx;exact G6 (zA2 _) _ hb
 have hd:(H0++[some (D8 C.G b)]).length - θ.length=1:=by simp;omega
 refine E0.fr hnd hl hlive ha he h (by simp) (by simpa using hv0) hpb (by rw [hd];exact hv) ?_;unfold X3;rw [hd]
 have e1:lay (N7 θ (B7 C.G H).length 1) θ (H0++[some (D8 C.G b)]) (B7 C.G H)=B7 C.G H:=by
  refine nG _ _ _ _ fun i x hi hx=>?_;rw [wM (by omega)] at hx;obtain ⟨b0,rfl,g1,g2⟩:=hlive i x hx;rw [g2];simp only [R9,Option.map_some,K3,Jb _ g1]
 rw [e1,hl];simp [acts,Hop.act,J6,R9,K3,D8,B9 _ _ hb]
end
section
variable {C:A0}
theorem flatN {cs:List AV} (h:A3 0 cs=true∧Ba cs=true) (j:Nat) (v:AV) (hv:cs[j]?=some v) (σ:Sig):H7 v=true∧sb σ 0 v=v:=by
 have key:∀ {l:List AV},A3 0 l=true→Ba l=true→∀ v∈l,A8 0 v=true∧U5 v=true:=by
  intro l
  induction l with
  | nil=>intro _ _ v hv;simp at hv
  | cons x l ih=>
   intro h1 h2 v hv;simp only [A3,Ba,zN] at h1 h2;rcases List.mem_cons.1 hv with rfl | hv
   ·exact ⟨h1.1,h2.1⟩
   ·exact ih h1.2 h2.2 v hv
 obtain ⟨h1,h2⟩:=key h.1 h.2 v (rM hv);exact ⟨Vj v h1,Wg v h2⟩
theorem E0.rdN {f:FuncId} {args:List EV} {H:DHp} {v:EV} {σ:Sig} {G':Nat→List AV} {args0:List AV} (hs:wE C (B7 C.G H) σ G') (ha:K7 args0=true) (hw:∀ (ρ:Env) vs,VRs ρ (vVs C.G args) vs→VRs ρ (sbs σ 0 args0) vs)
  (h:∀ B,ACalls ⟨C.P,G',B⟩ f args0 [] fun v' _=>v'=vV C.G v) (hv:A8 0 (vV C.G v)=true∧U5 (vV C.G v)=true):E0 C f args H v []:=by
 unfold E0;refine ((dV hs h ha rfl (fun v' e=>by subst e;exact hv)).weaken hw).monoK ?_;rintro v' H' ⟨rfl,rfl⟩;exact ⟨rfl,by simp [acts]⟩
end
section
variable {C:A0}
end
section
variable {C:A0}
def mS (k:Nat):AV→AV→Prop
 | .tup xs,.tup ys=>Dk k xs ys
 | x,y=>Rt k x y
theorem iI {ρ:Env}:∀ {xs ys:List AV} {cv:List Value},Dk ρ.rw.length xs ys→VRs ρ ys cv→VRs (ρ.push none) xs cv
 | [],[],_,_,h=>h
 | [],_::_,_,h,_=>h.elim
 | _::_,[],_,h,_=>h.elim
 | x::xs,y::ys,cv,h,hv=>by
  simp only [VRs] at hv ⊢;obtain ⟨v,vs,e,h1,h2⟩:=hv;exact ⟨v,vs,e,Ml h.1 h1,iI h.2 h2⟩
theorem aJ1 {ρ:Env} {x y:AV} {cv:Value} (h:mS ρ.rw.length x y) (hv:VR ρ y cv):VR (ρ.push none) x cv:=by
 unfold mS at h;split at h
 ·simp only [VR] at hv ⊢;obtain ⟨vs,e,hs⟩:=hv;exact ⟨vs,e,iI h hs⟩
 ·exact Ml h hv
theorem ACalls.nil {f:FuncId} {args:List AV} {H:Hp} {K K':AV→Hp→Prop} (e:Nat) (h:ACalls C f args H K) (hk:∀ v H',K v H'→K' v H'∨∃ v',K' v' (H'++[some ⟨e,[]⟩])∧Uu H'.length H' H'∧mS H'.length v' v):ACalls C f args H K':=by
 refine ⟨h.1,fun ρ w cargs hH hv=>(h.2 ρ w cargs hH hv).mono ?_⟩;rintro ex w' ⟨v,cv,ρ',H',rfl,h2,h3,h4,h5,h6⟩;rcases hk v H' h2 with g | ⟨v',g1,g2,g3⟩
 ·exact ⟨v,cv,ρ',H',rfl,g,h3,h4,h5,h6⟩
 ·refine ⟨v',cv,ρ'.push none,_,rfl,g1,?_,rV e g2 h4,aJ1 (by rw [h4.len];exact g3) h5,h6.trans rW⟩;have hl:=Env.le_push ρ' none;refine ⟨fun i x hx=>hl.1 i x (h3.1 i x hx),fun i b d h=>hl.2 i b d (h3.2 i b d h),fun D hD=>hl.3 D (h3.3 D hD)⟩
theorem Fv {k:Nat}:∀ (H:Hp),Uu k H H
 | []=>trivial
 | none::H=>Fv H
 | some b::H=>⟨⟨rfl,Ki _⟩,Fv H⟩
theorem ACalls.conv {f:FuncId} {args:List AV} {H:Hp} {K K':AV→Hp→Prop} (h:ACalls C f args H K) (hk:∀ v H',K v H'→∃ v',K' v' H'∧∀ (ρ:Env) cv,VR ρ v cv→VR ρ v' cv):ACalls C f args H K':=by
 refine ⟨h.1,fun ρ w cargs hH hv=>(h.2 ρ w cargs hH hv).mono ?_⟩;rintro ex w' ⟨v,cv,ρ',H',rfl,h2,h3,h4,h5,h6⟩;obtain ⟨v',g1,g2⟩:=hk v H' h2;exact ⟨v',cv,ρ',H',rfl,g1,h3,h4,g2 _ _ h5,h6⟩
end
section
variable {C:A0}
theorem X7 {m:Nat} {c:Code} {N:Nat} {live:List Nat} {Q:Ex→List AV→Hp→Prop} (n:Nat) (st:Nat→List AV) (hp:Nat→Hp)
  (h:∀ i,i≤n→AWp C m c (fl N live (st i)) (hp i) (lv N live fun e vs H=>match e with
   | .normal=>i<n∧((vs=st (i+1)∧H=hp (i+1))∨C2 m (st (i+1)) (hp (i+1)) vs H)
   | e=>Q e vs H)):AWp C m (.loop c) (fl N live (st 0)) (hp 0) (lv N live Q):=by
 refine Bf (fun j vs H=>∃ i:Nat,i≤n∧j=n - i∧vs=st i∧H=hp i) n ⟨0,by omega,rfl,rfl,rfl⟩ ?_;rintro j vs H ⟨i,hi,rfl,rfl,rfl⟩;refine (h i hi).lmono ?_;intro e vs' H' hq
 match e,hq with
 | .normal,⟨hin,hq⟩=>
  refine ⟨n - (i+1),by omega,?_⟩;rcases hq with ⟨rfl,rfl⟩ | hq
  ·exact .inl ⟨i+1,by omega,rfl,rfl,rfl⟩
  ·exact .inr ⟨_,_,⟨i+1,by omega,rfl,rfl,rfl⟩,hq⟩
 | .ret,hq=>exact hq
 | .exit i,hq=>exact hq
theorem scanP {m:Nat} {c:Code} {N:Nat} {live:List Nat} {Q:Ex→List AV→Hp→Prop} (P:Nat→Prop) (n:Nat) (st:Nat→List AV) (hp:Nat→Hp) (h0:P 0)
  (h:∀ i,i≤n→P i→AWp C m c (fl N live (st i)) (hp i) (lv N live fun e vs H=>match e with
   | .normal=>i<n∧P (i+1)∧((vs=st (i+1)∧H=hp (i+1))∨C2 m (st (i+1)) (hp (i+1)) vs H)
   | e=>Q e vs H)):AWp C m (.loop c) (fl N live (st 0)) (hp 0) (lv N live Q):=by
 refine Bf (fun j vs H=>∃ i:Nat,i≤n∧P i∧j=n - i∧vs=st i∧H=hp i) n ⟨0,by omega,h0,rfl,rfl,rfl⟩ ?_;rintro j vs H ⟨i,hi,hP,rfl,rfl,rfl⟩;refine (h i hi hP).lmono ?_;intro e vs' H' hq
 match e,hq with
 | .normal,⟨hin,hP',hq⟩=>
  refine ⟨n - (i+1),by omega,?_⟩;rcases hq with ⟨rfl,rfl⟩ | hq
  ·exact .inl ⟨i+1,by omega,hP',rfl,rfl,rfl⟩
  ·exact .inr ⟨_,_,⟨i+1,by omega,hP',rfl,rfl,rfl⟩,hq⟩
 | .ret,hq=>exact hq
 | .exit i,hq=>exact hq
mutual
def L5:AV→AV→Bool
 | .undef,.undef=>true
 | .bool a,.bool b=>a==b
 | .int k n,.int k' m=>k==k'&&n==m
 | .str s,.str t=>s==t
 | .nilp,.nilp=>true
 | .ptr r o,.ptr r' o'=>decide (r=r')&&Nat.beq o o'
 | .nils,.nils=>true
 | .slice b r o n,.slice b' r' o' n'=>b==b'&&(decide (r=r')&&(Nat.beq o o'&&Nat.beq n n'))
 | .nilf,.nilf=>true
 | .func f c,.func f' c'=>Nat.beq f f'&&Ae c c'
 | .agg c,.agg c'=>Ae c c'
 | .tup c,.tup c'=>Ae c c'
 | .yld i,.yld j=>Nat.beq i j
 | _,_=>false
termination_by structural x=>x
def Ae:List AV→List AV→Bool
 | [],[]=>true
 | x::l,y::k=>L5 x y&&Ae l k
 | _,_=>false
termination_by structural x=>x
end
mutual
def Wt:AV→Bool
 | .rcd ..=>false
 | .func _ c=>Eh c
 | .agg c=>Eh c
 | .tup c=>Eh c
 | _=>true
def Eh:List AV→Bool
 | []=>true
 | x::l=>Wt x&&Eh l
end
mutual
theorem aF6:∀ x y,L5 x y=true→x=y
 | .undef,y,h=>by cases y<;>simp [L5] at h ⊢
 | .bool a,y,h=>by cases y<;>simp [L5] at h ⊢;exact h
 | .int k n,y,h=>by cases y<;>simp [L5] at h ⊢;exact h
 | .str s,y,h=>by cases y<;>simp [L5] at h ⊢;exact h
 | .nilp,y,h=>by cases y<;>simp [L5] at h ⊢
 | .ptr r o,y,h=>by cases y<;>simp [L5] at h ⊢;exact h
 | .nils,y,h=>by cases y<;>simp [L5] at h ⊢
 | .slice b r o n,y,h=>by cases y<;>simp [L5] at h ⊢;exact h
 | .nilf,y,h=>by cases y<;>simp [L5] at h ⊢
 | .func f c,y,h=>by cases y<;>simp [L5] at h ⊢;exact ⟨h.1,Fq c _ h.2⟩
 | .agg c,y,h=>by cases y<;>simp [L5] at h ⊢;exact Fq c _ h
 | .tup c,y,h=>by cases y<;>simp [L5] at h ⊢;exact Fq c _ h
 | .yld i,y,h=>by cases y<;>simp [L5] at h ⊢;exact h
 | .rcd ..,y,h=>by cases y<;>simp [L5] at h
theorem Fq:∀ l k,Ae l k=true→l=k
 | [],k,h=>by cases k<;>simp [Ae] at h ⊢
 | x::l,k,h=>by
  cases k with
  | nil=>simp [Ae] at h
  | cons y k=>
   simp [Ae] at h ⊢;exact ⟨aF6 x y h.1,Fq l k h.2⟩
end
mutual
theorem tZ:∀ x,Wt x=true→L5 x x=true
 | .undef,h=>by simp [L5]
 | .bool a,h=>by simp [L5]
 | .int k n,h=>by simp [L5]
 | .str s,h=>by simp [L5]
 | .nilp,h=>by simp [L5]
 | .ptr r o,h=>by simp [L5]
 | .nils,h=>by simp [L5]
 | .slice b r o n,h=>by simp [L5]
 | .nilf,h=>by simp [L5]
 | .func f c,h=>by simp [L5];exact Bp c (by simpa [Wt] using h)
 | .agg c,h=>by simp [L5];exact Bp c (by simpa [Wt] using h)
 | .tup c,h=>by simp [L5];exact Bp c (by simpa [Wt] using h)
 | .yld i,h=>by simp [L5]
 | .rcd ..,h=>by simp [Wt] at h
theorem Bp:∀ l,Eh l=true→Ae l l=true
 | [],h=>by simp [Ae]
 | x::l,h=>by
  simp only [Eh,zN] at h;simp [Ae,tZ x h.1,Bp l h.2]
end
def R4 (H:Hp):List AV:=H.map fun b=>match b with
 | some b=>.tup [.int .i64 (b.esz:Int),.agg b.cells]
 | none=>.undef
def Xm (H:DHp):List EV:=H.map fun b=>match b with
 | some b=>.tup [.int .i64 (.lit (b.esz:Int)),.agg b.cells]
 | none=>.undef
theorem Li {G:Nat→List AV}:∀ H:DHp,vVs G (Xm H)=R4 (B7 G H)
 | []=>rfl
 | none::H=>by
  have:=Li (G:=G) H
  simp only [Xm,R4,B7,List.map_cons,vVs,vV,Option.map_none] at this ⊢;rw [this]
 | some b::H=>by
  have:=Li (G:=G) H
  simp only [Xm,R4,B7,List.map_cons,vVs,vV,vI,Option.map_some,D8] at this ⊢;rw [this]
theorem Zs:∀ H H':Hp,R4 H=R4 H'→H=H'
 | [],[],_=>rfl
 | [],_::_,h=>by simp [R4] at h
 | _::_,[],h=>by simp [R4] at h
 | b::H,b'::H',h=>by
  simp only [R4,List.map_cons,List.cons.injEq] at h;have h2:=Zs H H' h.2;subst h2;have h1:=h.1
  match b,b',h1 with
  | none,none,_=>rfl
  | none,some b',h1=>simp at h1
  | some b,none,h1=>simp at h1
  | some ⟨e,c⟩,some ⟨e',c'⟩,h1=>
   simp at h1;obtain ⟨h3,h4⟩:=h1
   have:e=e':=by omega
   subst this;subst h4;rfl
def lN (vs0:List AV) (H0:Hp):List AV→Bool:=fun xs=>match xs with
 | [.agg vs,.agg hs]=>Ae vs vs0&&Ae hs (R4 H0)
 | _=>false
theorem aT9 {vs0 vs:List AV} {H0 H:Hp} (h:lN vs0 H0 [.agg vs,.agg (R4 H)]=true):vs=vs0∧H=H0:=by
 simp only [lN,zN] at h;exact ⟨Fq _ _ h.1,Zs _ _ (Fq _ _ h.2)⟩
theorem xA {vs0:List AV} {H0:Hp} (h:Eh vs0=true) (h':Eh (R4 H0)=true):lN vs0 H0 [.agg vs0,.agg (R4 H0)]=true:=by
 simp only [lN,zN];exact ⟨Bp _ h,Bp _ h'⟩
def Pj (c:Bool) (vs0:List AV) (H0:Hp):List AV→Bool:=fun xs=>c&&lN vs0 H0 xs
theorem Av {c:Bool} {vs0:List AV} {H0:Hp} (hc:c=true) (h:Eh vs0=true) (h':Eh (R4 H0)=true):Pj c vs0 H0 [.agg vs0,.agg (R4 H0)]=true:=by
 simp only [Pj,zN];exact ⟨hc,xA h h'⟩
def LOut.post (G:Nat→List AV) (m:Nat):LOut→Ex→List AV→Hp→Prop
 | .one e vs H=>fun e' vs' H'=>e'=e∧((wk (vVs G vs) vs'∧H'=B7 G H)∨C2 m (vVs G vs) (B7 G H) vs' H')
 | .tst b x y=>fun e' vs' H'=>(vB G b=true∧x.post G m e' vs' H')∨(vB G b=false∧y.post G m e' vs' H')
 | .chk _ x=>x.post G m
 | _=>fun _ _ _=>False
theorem Gj {G:Nat→List AV} {m:Nat} {Q:Ex→List AV→Hp→Prop} {e:Ex} {vs:List AV} {H:Hp}:∀ (o:LOut) (n:Nat),K2 G (fun e vs' H'=>Q e (vVs G vs') (B7 G H')) n o→o.post G m e vs H→Lp m Q e vs H
 | .one e' vs' H',n,h,hp=>by
  simp only [K2] at h;obtain ⟨rfl,hp⟩:=hp;rcases hp with ⟨h1,rfl⟩ | hp
  ·exact .inl ⟨_,h1,h⟩
  ·exact .inr ⟨_,_,hp,h⟩
 | .tst b x y,n,h,hp=>by
  simp only [K2] at h;rcases hp with ⟨hb,hp⟩ | ⟨hb,hp⟩
  ·exact Gj x n (h.1 hb) hp
  ·exact Gj y n (h.2 hb) hp
 | .chk b x,n,h,hp=>by
  simp only [K2] at h;exact Gj x n h.2 hp
 | .imp ..,n,h,hp=>hp.elim
 | .allI ..,n,h,hp=>hp.elim
 | .allN ..,n,h,hp=>hp.elim
 | .allB ..,n,h,hp=>hp.elim
 | .allL ..,n,h,hp=>hp.elim
 | .namI ..,n,h,hp=>hp.elim
 | .namN ..,n,h,hp=>hp.elim
 | .namB ..,n,h,hp=>hp.elim
 | .namL ..,n,h,hp=>hp.elim
def D6 (j:Nat) (q:List AV→Bool) (ex N:Nat) (live:List Nat) (o:LOut):DL:=
 ⟨ex,N,live,fun vs H=>some (.chk (.uf j q [.agg (.of vs),.agg (.of (Xm H))]) o)⟩
theorem Dq {M:Nat} {c:Code} {j:Nat} {ex N:Nat} {live:List Nat} {o:LOut} {vs0:List AV} {H0:Hp} {q:List AV→Bool} {cb:Bool} (hq:q=Pj cb vs0 H0)
  (h:cb=true→AWp C M (.loop c) (fl N live vs0) H0 (lv N live (o.post C.G M))):H5 C M c (D6 j q ex N live o):=by
 refine .of fun vs H o' ho n Q hQ=>?_;simp only [D6,zK] at ho;subst ho;obtain ⟨h1,h2⟩:=hQ;simp only [vB,vVs,vV,vL,Li] at h1;rw [hq] at h1;simp only [Pj,zN] at h1;obtain ⟨e1,e2⟩:=aT9 h1.2;rw [e1,e2];exact (h h1.1).lmono fun e vs H hp=>Gj o n h2 hp
theorem S4.miss {M:Nat} {c:Code} {cs:List Code} {l:List DL} {i:Nat} (he:Ot c=some i) (hp:cG i l=none) (k:S4 C M cs (Cz l)):S4 C M (c::cs) (Cz l):=by
 intro m c' F H o hm hc ho n Q hQ;rcases List.mem_cons.1 hc with rfl | hc
 ·obtain ⟨d',h1,_⟩:=Ov he l ho;rw [hp] at h1;cases h1
 ·exact k m c' F H o hm hc ho n Q hQ
theorem ACalls.one {f:FuncId} {args:List AV} {K:AV→Hp→Prop} {v0:AV} {b:Blk} (h:ACalls C f args [] K) (hb:A3 0 b.cells=true) (hv:A8 1 v0=true) (hu:∀ j,C0 [j] v0≠.undef)
  (hk:∀ v H',K v H'→(∃ j,H'[j]?=some (some b)∧v=C0 [j] v0)∨(b.cells=[]∧mS H'.length (C0 [H'.length] v0) v)):ACalls C f args [] fun v H'=>v=v0∧H'=[some b]:=by
 have h1:=ACalls.nil (K':=fun v H'=>∃ j,H'[j]?=some (some b)∧v=C0 [j] v0) b.esz h (fun v H' hK=>by
  rcases hk v H' hK with h | ⟨h1,h2⟩
  ·exact .inl h
  ·refine .inr ⟨_,⟨H'.length,?_,rfl⟩,Fv _,h2⟩;rw [xN (zA1 _),Nat.sub_self];obtain ⟨e,cs⟩:=b
   simp only at h1;subst h1;rfl)
 refine h1.view fun v H' hj=>⟨v0,[some b],⟨rfl,rfl⟩,?_⟩;obtain ⟨j,hj,rfl⟩:=hj;have hjl:j<H'.length:=(zQ.1 hj).1;refine C2.ren (θ:=[j]) (by simp) ⟨⟨G6 (zA2 _) _ hb,?_⟩,trivial⟩ (by simp [A3,hv]) ?_
 ·rw [B9 _ _ hb];exact hj
 ·simp only [rens]
  have:=hu j
  cases hr:C0 [j] v0<;>simp_all [wk]
end
open Go.RowKit
structure Hg (ops ops':Array Oper) (σ τ:Nat→Nat) (p q:Nat):Prop where
 inv:∀ k,σ (τ k)=k∧τ (σ k)=k
 op:∀ (k:Nat) o,ops[k]?=some o→o.guard=none∧∃ es,ops'[σ k]?=some { o with after:=es }∧
  (∀ e'∈es,Region.binds .any e'=true→(∃ e∈o.after,Region.binds .any e=true∧e'.on=σ e.on)∨(k=q∧e'.on=σ p))∧
  (∀ e∈o.after,Region.binds .any e=true→∃ e'∈es,Region.binds .any e'=true∧e'.on=σ e.on)
 op':∀ (k:Nat) o',ops'[k]?=some o'→∃ o,ops[τ k]?=some o
section
variable {F:Fence} {n:Nat} {P:Program} {ops ops':Array Oper} {σ τ:Nat→Nat} {p q:Nat} {Q:Exit→Act→World→Prop}
def cY (σ:Nat→Nat) (listed listed':Array Bool):Prop:=∀ k,(∀ d,listed'.getD (σ k) d=listed.getD k d)
theorem cY.set {σ τ:Nat→Nat} (hi:∀ k,σ (τ k)=k∧τ (σ k)=k) {listed listed':Array Bool} (h:cY σ listed listed') (i:Nat):cY σ (listed.setIfInBounds i true) (listed'.setIfInBounds (σ i) true):=by
 intro k d;by_cases hk:i=k
 ·subst hk;have h1:=h i;by_cases hb:i<listed.size
  ·have h2:σ i<listed'.size:=by
    by_cases h2:σ i<listed'.size
    ·exact h2
    ·have a:=h1 true;have b:=h1 false;simp only [Array.getD,h2,hb,dite_true,dite_false] at a b;rw [←a] at b;simp at b
   simp [Array.getD,hb,h2]
  ·have h2:¬σ i<listed'.size:=by
    intro h2;have a:=h1 true;have b:=h1 false;simp only [Array.getD,h2,hb,dite_true,dite_false] at a b;rw [a] at b;simp at b
   simp [Array.getD,hb,h2]
 ·have hne:σ i≠σ k:=fun e=>hk (by rw [←(hi i).2,e,(hi k).2]);rw [getD_set_ne d hk,getD_set_ne d hne];exact h k d
theorem Hg.ready (V:Hg ops ops' σ τ p q) {listed listed':Array Bool} (h:cY σ listed listed') {k:Nat} (hk:k∈Region.ready .any ops listed) (hp:k=q→listed.getD p false=true):σ k∈Region.ready .any ops' listed':=by
 rw [mem_ready] at hk ⊢;obtain ⟨h1,o,ho,h2⟩:=hk;obtain ⟨_,es,g1,g2,_⟩:=V.op k o ho;refine ⟨by rw [h k];exact h1,_,g1,fun e' he' hb=>?_⟩;rcases g2 e' he' hb with ⟨e,x1,x2,x3⟩ | ⟨x1,x2⟩
 ·rw [x3,h];exact h2 e x1 x2
 ·rw [x2,h];exact hp x1
theorem Hg.back (V:Hg ops ops' σ τ p q) {listed listed':Array Bool} (h:cY σ listed listed') {k:Nat} (hk:k∈Region.ready .any ops' listed'):τ k∈Region.ready .any ops listed:=by
 rw [mem_ready] at hk ⊢;obtain ⟨h1,o',ho',h2⟩:=hk;obtain ⟨o,ho⟩:=V.op' k o' ho';obtain ⟨_,es,g1,_,g3⟩:=V.op (τ k) o ho;rw [(V.inv k).1,ho'] at g1;simp only [zK] at g1;have hk':∀ d,listed'.getD k d=listed.getD (τ k) d:=fun d=>by have:=h (τ k) d;rw [(V.inv k).1] at this;exact this
 refine ⟨by rw [←hk'];exact h1,o,ho,fun e he hb=>?_⟩;obtain ⟨e',x1,x2,x3⟩:=g3 e he hb
 have:=h2 e' (by rw [g1];exact x1) x2
 rw [x3,h] at this;exact this
theorem Hg.step (V:Hg ops ops' σ τ p q) {k:Nat} {K:Act→World→Prop} {a:Act} {w:World} (hk:k<ops.size) (h:wpOpIn F n P ops' Q (σ k) K a w):wpOpIn F n P ops Q k K a w:=by
 obtain ⟨o,ho⟩:∃ o,ops[k]?=some o:=⟨_,Array.getElem?_eq_getElem hk⟩;obtain ⟨gn,es,g1,_⟩:=V.op k o ho;unfold wpOpIn at h ⊢;simp only [ho,g1] at h ⊢;have w1:∀ y,Region.wanted o y=true:=fun y=>by unfold Region.wanted;rw [gn]
 have w2:∀ y,Region.wanted { o with after:=es } y=true:=fun y=>by unfold Region.wanted;simp only [gn]
 rw [w2,if_pos rfl] at h;rw [w1,if_pos rfl];exact h
theorem mB {listed:Array Bool} {k:Nat} (h:k∈Region.ready .any ops listed):k<ops.size:=by
 rw [mem_ready] at h;obtain ⟨_,o,ho,_⟩:=h;exact (Array.getElem?_eq_some_iff.1 ho).1
theorem Hg.nil (V:Hg ops ops' σ τ p q) {listed listed':Array Bool} (h:cY σ listed listed') (hn:Region.ready .any ops listed=[]):Region.ready .any ops' listed'=[]:=by
 refine List.eq_nil_iff_forall_not_mem.2 fun k hk=>?_
 have:=V.back h hk
 rw [hn] at this;simp at this
theorem Hg.one (V:Hg ops ops' σ τ p q):∀ (fuel:Nat) (listed listed':Array Bool) (a:Act) (w:World),cY σ listed listed'→listed.getD p false=true→wpAnyIn F n P .any ops' Q fuel listed' a w→wpAnyIn F n P .any ops Q fuel listed a w
 | 0,listed,listed',a,w,h,hp,hw=>by
  unfold wpAnyIn at hw ⊢;refine ⟨List.eq_nil_iff_forall_not_mem.2 fun k hk=>?_,hw.2⟩
  have:=V.ready h hk fun _=>hp
  rw [hw.1] at this;simp at this
 | fuel+1,listed,listed',a,w,h,hp,hw=>by
  unfold wpAnyIn at hw ⊢;refine ⟨fun hn=>hw.1 (V.nil h hn),fun k hk=>?_⟩;refine V.step (mB hk) (wpOpIn_mono (fun a w hr=>V.one fuel _ _ a w (h.set V.inv k) (getD_set_true hp) hr) (hw.2 (σ k) (V.ready h hk fun _=>hp)))
end
def cZ (ops:Array Oper):Nat→Array Bool→List Nat→Prop
 | 0,_,l=>l=[]
 | _+1,listed,[]=>Region.ready .any ops listed=[]
 | fuel+1,listed,k::l=>k∈Region.ready .any ops listed∧cZ ops fuel (listed.setIfInBounds k true) l
theorem zP (ops:Array Oper):∀ (fuel t:Nat) (listed:Array Bool),cZ ops fuel listed (Region.linearise.go .any ops fuel t listed [])
 | 0,t,listed=>by simp [Region.linearise.go,cZ]
 | fuel+1,t,listed=>by
  simp only [Region.linearise.go]
  change cZ ops (fuel+1) listed (match (Region.ready .any ops listed)[t % (Region.ready .any ops listed).length]? with
   | some i=>Region.linearise.go .any ops fuel (t / (Region.ready .any ops listed).length) (listed.setIfInBounds i true) [i]
   | none=>[].reverse)
  cases hi:(Region.ready .any ops listed)[t % (Region.ready .any ops listed).length]? with
  | none=>
   have hnil:Region.ready .any ops listed=[]:=by
    cases hr:Region.ready .any ops listed with
    | nil=>rfl
    | cons x xs=>
     rw [hr] at hi;have hlt:t % (x::xs).length<(x::xs).length:=Nat.mod_lt _ (by simp);simp at hi;simp at hlt;omega
   simpa [cZ] using hnil
  | some i=>
   simp only [];rw [linearise_go_acc,List.reverse_singleton,List.singleton_append];exact ⟨rM hi,zP ops fuel _ _⟩
section
variable {F:Fence} {n:Nat} {P:Program} {ops ops':Array Oper} {σ τ:Nat→Nat} {p q:Nat} {Q:Exit→Act→World→Prop}
theorem tG:∀ (fuel:Nat) (listed:Array Bool) (l:List Nat) (a:Act) (w:World),cZ ops fuel listed l→wpAnyIn F n P .any ops Q fuel listed a w→wpOpsIn F n P ops Q l a w
 | 0,listed,l,a,w,h,hw=>by
  simp only [cZ] at h;subst h;exact hw.2
 | fuel+1,listed,[],a,w,h,hw=>hw.1 h
 | fuel+1,listed,k::l,a,w,h,hw=>by
  rw [wpOpsIn_cons];exact wpOpIn_mono (fun a w hr=>tG fuel _ l a w h.2 hr) (hw.2 k h.1)
def Fst (p q:Nat):List Nat→Prop
 | []=>True
 | k::l=>k=p∨(k≠q∧Fst p q l)
theorem zR (p q:Nat):∀ l,Fst p q l∨Fst q p l
 | []=>.inl trivial
 | k::l=>by
  by_cases h1:k=p
  ·exact .inl (.inl h1)
  ·by_cases h2:k=q
   ·exact .inr (.inl h2)
   ·rcases zR p q l with h | h
    ·exact .inl (.inr ⟨h2,h⟩)
    ·exact .inr (.inr ⟨h1,h⟩)
theorem Hg.all (V:Hg ops ops' σ τ p q) (hpq:p≠q):∀ (fuel:Nat) (listed listed':Array Bool) (l:List Nat) (a:Act) (w:World),cY σ listed listed'→p<listed.size→Fst p q l→cZ ops fuel listed l→wpAnyIn F n P .any ops' Q fuel listed' a w→wpOpsIn F n P ops Q l a w
 | 0,listed,listed',l,a,w,h,hp,hf,ha,hw=>by
  simp only [cZ] at ha;subst ha;exact hw.2
 | fuel+1,listed,listed',[],a,w,h,hp,hf,ha,hw=>hw.1 (V.nil h ha)
 | fuel+1,listed,listed',k::l,a,w,h,hp,hf,ha,hw=>by
  rw [wpOpsIn_cons]
  have hkq:k≠q:=by
   rcases hf with rfl | hf
   ·exact hpq
   ·exact hf.1
  refine V.step (mB ha.1) (wpOpIn_mono (fun a w hr=>?_) (hw.2 (σ k) (V.ready h ha.1 fun e=>absurd e hkq)));rcases hf with rfl | hf
  ·exact tG fuel _ l a w ha.2 (V.one fuel _ _ a w (h.set V.inv k) (by simp [Array.getD,hp]) hr)
  ·exact V.all hpq fuel _ _ l a w (h.set V.inv k) (by simpa using hp) hf.2 ha.2 hr
end
theorem two {F:Fence} {n:Nat} {P:Program} {ops ops1 ops2:Array Oper} {σ1 σ2 τ1 τ2:Nat→Nat} {i j:Nat} {id:Nat} {Q:Exit→Act→World→Prop} (hij:i≠j) (hi:i<ops.size) (hj:j<ops.size) (V1:Hg ops ops1 σ1 τ1 i j) (V2:Hg ops ops2 σ2 τ2 j i)
  (s1:ops1.size=ops.size) (s2:ops2.size=ops.size) (b1:∀ k,σ1 k<ops.size↔k<ops.size) (b2:∀ k,σ2 k<ops.size↔k<ops.size) (hm:P.follows .mixedOrders=true) {a:Act} {w:World}
  (w1:wpAnyIn F n P .any ops1 Q ops1.size (Array.replicate ops1.size false) a { w with drawn:=w.drawn+1 }) (w2:wpAnyIn F n P .any ops2 Q ops2.size (Array.replicate ops2.size false) a { w with drawn:=w.drawn+1 }):(Code.region id ops true).wpIn F n P Q a w:=
 wpIn_region_draw fun t=>by
  simp only [Region.schedule,hm,Bool.true_or,if_true];show wpOpsIn F n P ops Q (Region.linearise.go .any ops ops.size t (Array.replicate ops.size false) []) a _;have ha:=zP ops ops.size t (Array.replicate ops.size false)
  have agr:∀ {σ:Nat→Nat},(∀ k,σ k<ops.size↔k<ops.size)→cY σ (Array.replicate ops.size false) (Array.replicate ops.size false):=fun hb k d=>by
   by_cases hk:k<ops.size
   ·simp [Array.getD,hk,(hb k).2 hk]
   ·simp [Array.getD,hk,mt (hb k).1 hk]
  rw [s1] at w1;rw [s2] at w2;rcases zR i j (Region.linearise.go .any ops ops.size t (Array.replicate ops.size false) []) with h | h
  ·exact V1.all hij _ _ _ _ _ _ (agr b1) (by simpa using hi) h ha w1
  ·exact V2.all (Ne.symm hij) _ _ _ _ _ _ (agr b2) (by simpa using hj) h ha w2
section
variable {K:Cfg} {lps:List Code}
theorem sU (hK:Fl K lps) {all:List Oper} {trs:List Tr} {F F':Fr} {H H':Hp} (ht:DT K all all F H trs F' H') (hd:X1 all trs=true) {ρ:Env} {a:Act} {w:World} (hH:B1 K.C ρ H w) (hF:D0 ρ F a)
  {r:Option Nat} {Q:Exit→Act→World→Prop} (hQ:∀ ρ' a' w',B1 K.C ρ' H' w'→D0 ρ' F' a'→ρ.le ρ'→Frm ρ w ρ' w'→Q .normal a' w'):wpAnyIn (W r) 0 K.C.P .any all.toArray Q all.toArray.size (Array.replicate all.toArray.size false) a { w with drawn:=w.drawn+1 }:=by
 obtain ⟨vs,h1,h2,h3,h4,h5⟩:=ht.spell;have hw:({ w with drawn:=w.drawn+1 }:World)=w.drew:=rfl;rw [hw];have hsz:all.toArray.size=all.length:=by simp
 rw [hsz];refine Zt (F0:=F) (H0:=H) (ρ0:=ρ) (w0:=w) hK hd h1 h2 h5 (fun a' w' hs=>?_) all.length _ a w.drew (by simp) ?_ ⟨fun j o _ hj=>?_,ρ,?_,?_,Env.le_refl ρ,(Frm.refl ρ w).drew⟩
 ·obtain ⟨ρ',g1,g2,g3,g4⟩:=hs.rel;rw [h4] at g1;rw [h3] at g2;exact hQ ρ' a' w' g1 g2 g3 g4
 ·rw [List.countP_eq_length.2]
  ·simp
  ·intro i hi
   have:=List.mem_range.1 hi
   simp [Array.getD]
 ·simp [Array.getD] at hj
 ·rw [Db]
  ·exact hH.drew
  ·intro k _;simp [Array.getD]
 ·have none:∀ (l:List Oper) (vs:List AV) (i:Nat) (F:Fr),FSel (fun i=>(Array.replicate all.length false).getD i false) i l vs F=F:=by
   intro l
   induction l with
   | nil=>intro vs i F;simp [FSel]
   | cons o l ih=>
    intro vs i F;cases vs with
    | nil=>simp [FSel]
    | cons x vs=>
     simp only [FSel]
     have:(Array.replicate all.length false).getD i false=false:=by simp [Array.getD]
     rw [this];exact ih vs _ F
  rw [none];exact hF
end
noncomputable def ddr (K:DCfg) (fuel n0 m:Nat) (all:List Oper) (N:Nat) (live:List Nat) (vs:List EV) (H:DHp):T:=
 dx K fuel m (.dr all all []) (Yf N live vs) H (f0 n0) (fL N live)
theorem sX {C:A0} {K:DCfg} {fuel n0 m:Nat} {all:List Oper} {N:Nat} {live:List Nat} {vs:List EV} {H:DHp} {Q:Ex→List AV→Hp→Prop} (hK:L6 C K [])
  (h:vT C.G Q (fun _ _=>False) (ddr K fuel n0 m all N live vs H)):∃ trs F' H',DT (K0 C) all all (fl N live (vVs C.G vs)) (B7 C.G H) trs F' H'∧X1 all trs=true∧lv N live Q .normal F' H':=by
 have:=Sn hK fuel m (.dr all all []) (Yf N live vs) H (f0 n0) _ (lv N live Q) Q (fun _ _=>False) (fun e F1 H1 fs1 ht=>by
  unfold fL at ht;split at ht
  ·rename_i hb;simp only [vT,To] at ht;simp only [lv,P6,hb];exact ht
  ·exact ht.elim) trivial h
 rw [aA] at this;obtain ⟨trs,F',H',h1,h2,h3⟩:=this;exact ⟨trs,F',H',h1,by simpa using h2,h3⟩
theorem aZ5 {C:A0} {K:DCfg} {fuel n0 m:Nat} {ops:Array Oper} {all1 all2:List Oper} {σ1 σ2 τ1 τ2:Nat→Nat} {i j id:Nat} {N:Nat} {live:List Nat} {vs:List EV} {H:DHp} {Q:Ex→List AV→Hp→Prop} (hK:L6 C K []) (hm:m≤H.length)
  (hij:i≠j) (hi:i<ops.size) (hj:j<ops.size) (V1:Hg ops all1.toArray σ1 τ1 i j) (V2:Hg ops all2.toArray σ2 τ2 j i)
  (s1:all1.toArray.size=ops.size) (s2:all2.toArray.size=ops.size) (b1:∀ k,σ1 k<ops.size↔k<ops.size) (b2:∀ k,σ2 k<ops.size↔k<ops.size)
  (h1:vT C.G Q (fun _ _=>False) (ddr K fuel n0 m all1 N live vs H)) (h2:vT C.G Q (fun _ _=>False) (ddr K fuel n0 m all2 N live vs H)):AWp C m (.region id ops true) (fl N live (vVs C.G vs)) (B7 C.G H) (lv N live Q):=by
 obtain ⟨t1,F1,H1,x1,x2,x3⟩:=sX hK h1;obtain ⟨t2,F2,H2,y1,y2,y3⟩:=sX hK h2;have hm':m≤(B7 C.G H).length:=by simpa [E3] using hm
 intro r hr ρ a w hH hF;refine two hij hi hj V1 V2 s1 s2 b1 b2 hK.mix ?_ ?_
 ·exact sU (Lg hK.mix []) x1 x2 hH hF fun ρ' a' w' q1 q2 q3 q4=>⟨.normal,ρ',F1,H1,rfl,x3,K9.of_le hH q3 hm',q1,q2,q4⟩
 ·exact sU (Lg hK.mix []) y1 y2 hH hF fun ρ' a' w' q1 q2 q3 q4=>⟨.normal,ρ',F2,H2,rfl,y3,K9.of_le hH q3 hm',q1,q2,q4⟩
theorem AWp.block {C:A0} {m id:Nat} {c:Code} {F:Fr} {H:Hp} {Q:Post} (h:AWp C m c F H (T0 id Q)):AWp C m (.block id c) F H Q:=by
 intro r hr ρ a w hH hF;refine wpIn_block (Code.wpIn_mono ?_ (h r (Uq hr) ρ a w hH hF));rintro e a' w' ⟨ae,ρ',F',H',rfl,h2,h3⟩;cases ae with
 | normal=>exact ⟨.normal,ρ',F',H',rfl,h2,h3⟩
 | ret=>exact ⟨.ret,ρ',F',H',rfl,h2,h3⟩
 | exit i=>
  simp only [T0] at h2;show (if i=id then AP C m ρ w Q .normal a' w' else AP C m ρ w Q (.exit i) a' w');split at h2
  ·rename_i hi;rw [if_pos (by simpa using hi)];exact ⟨.normal,ρ',F',H',rfl,h2,h3⟩
  ·rename_i hi;rw [if_neg (by simpa using hi)];exact ⟨.exit i,ρ',F',H',rfl,h2,h3⟩
def sw (i j k:Nat):Nat:=if k=i then j else if k=j then i else k
theorem tQ (i j k:Nat):sw i j (sw i j k)=k:=by unfold sw;split<;>split<;>(try split)<;>omega
def Um (ops:Array Oper) (i j:Nat):List Oper:=ops.toList.mapIdx fun k o=>{ o with after:=bif Nat.beq k j then o.after.push ⟨i,.data⟩ else o.after }
def reEdge (i j:Nat) (e:Edge):Edge:={ e with on:=sw i j e.on }
def ord2a (i j k:Nat) (o:Oper):Oper:={ o with after:=bif Nat.beq k j then (o.after.map (reEdge i j)).push ⟨i,.data⟩ else o.after.map (reEdge i j) }
def Ul (ops:Array Oper) (i j:Nat):List Oper:=ops.toList.mapIdx fun k o=>ord2a i j k ((ops[sw i j k]?).getD o)
def pE (ops:Array Oper):Bool:=ops.toList.all fun o=>o.guard.isNone
theorem tF {ops:Array Oper} (h:pE ops=true) {k:Nat} {o:Oper} (ho:ops[k]?=some o):o.guard=none:=by
 unfold pE at h;rw [xM] at h
 have:=h o (by rw [←Array.getElem?_toList] at ho;exact rM ho)
 simpa using this
theorem aI4 {ops:Array Oper} {i j:Nat} (h:pE ops=true):Hg ops (Um ops i j).toArray (fun k=>k) (fun k=>k) i j:=by
 have get:∀ k,(Um ops i j).toArray[k]?=(ops[k]?).map fun (o:Oper)=>{ o with after:=bif Nat.beq k j then o.after.push ⟨i,.data⟩ else o.after }:=fun k=>by
  unfold Um;rw [List.getElem?_toArray,List.getElem?_mapIdx,Array.getElem?_toList]
 refine ⟨fun _=>⟨rfl,rfl⟩,fun k o ho=>⟨tF h ho,_,by rw [get,ho];rfl,fun e' he' hb=>?_,fun e he hb=>?_⟩,fun k o' ho'=>?_⟩
 ·cases hk:Nat.beq k j with
  | true=>
   rw [hk] at he';simp only [cond_true,Array.mem_push] at he';rcases he' with he' | rfl
   ·exact .inl ⟨e',he',hb,rfl⟩
   ·exact .inr ⟨yV hk,rfl⟩
  | false=>
   rw [hk] at he';exact .inl ⟨e',he',hb,rfl⟩
 ·cases hk:Nat.beq k j with
  | true=>exact ⟨e,by simp only [cond_true,Array.mem_push];exact .inl he,hb,rfl⟩
  | false=>exact ⟨e,he,hb,rfl⟩
 ·rw [get] at ho';cases ho:ops[k]? with
  | none=>rw [ho] at ho';simp at ho'
  | some o=>exact ⟨o,rfl⟩
theorem tR {i j n:Nat} (hi:i<n) (hj:j<n) (k:Nat):sw i j k<n↔k<n:=by unfold sw;split<;>(try split)<;>omega
theorem aI3 {ops:Array Oper} {i j:Nat} (h:pE ops=true) (hi:i<ops.size) (hj:j<ops.size):Hg ops (Ul ops i j).toArray (sw i j) (sw i j) j i:=by
 have get:∀ k,(Ul ops i j).toArray[k]?=(ops[k]?).map fun (o:Oper)=>ord2a i j k ((ops[sw i j k]?).getD o):=fun k=>by
  unfold Ul;rw [List.getElem?_toArray,List.getElem?_mapIdx,Array.getElem?_toList]
 have bd:∀ (e:Edge),Region.binds .any (reEdge i j e)=Region.binds .any e:=fun e=>rfl;refine ⟨fun k=>⟨tQ i j k,tQ i j k⟩,fun k o ho=>?_,fun k o' ho'=>?_⟩
 ·have hk:k<ops.size:=(Array.getElem?_eq_some_iff.1 ho).1;have hs:sw i j k<ops.size:=(tR hi hj k).2 hk;obtain ⟨o2,ho2⟩:∃ o2,ops[sw i j k]?=some o2:=⟨_,Array.getElem?_eq_getElem hs⟩;refine ⟨tF h ho,_,by rw [get,ho2,Option.map_some,tQ,ho];rfl,fun e' he' hb=>?_,fun e he hb=>?_⟩
  ·cases hq:Nat.beq (sw i j k) j with
   | true=>
    rw [hq] at he';simp only [cond_true,Array.mem_push,Array.mem_map,Option.getD_some] at he';rcases he' with ⟨e,he,rfl⟩ | rfl
    ·exact .inl ⟨e,he,hb,rfl⟩
    ·refine .inr ⟨?_,?_⟩
     ·have:=yV hq
      unfold sw at this;split at this
      ·assumption
      ·split at this<;>omega
     ·show i=sw i j j;unfold sw;split<;>simp_all
   | false=>
    rw [hq] at he';simp only [cond_false,Array.mem_map,Option.getD_some] at he';obtain ⟨e,he,rfl⟩:=he';exact .inl ⟨e,he,hb,rfl⟩
  ·refine ⟨reEdge i j e,?_,hb,rfl⟩
   have:reEdge i j e∈o.after.map (reEdge i j):=Array.mem_map.2 ⟨e,he,rfl⟩
   cases hq:Nat.beq (sw i j k) j with
   | true=>simp only [cond_true,Array.mem_push,Option.getD_some];exact .inl this
   | false=>simp only [cond_false,Option.getD_some];exact this
 ·rw [get] at ho'
  have hk:k<ops.size:=by
   cases ho:ops[k]? with
   | none=>rw [ho] at ho';simp at ho'
   | some o=>exact (Array.getElem?_eq_some_iff.1 ho).1
  exact ⟨_,Array.getElem?_eq_getElem ((tR hi hj k).2 hk)⟩
theorem yI {ops:Array Oper} {i j:Nat}:(Um ops i j).toArray.size=ops.size:=by simp [Um]
theorem yH {ops:Array Oper} {i j:Nat}:(Ul ops i j).toArray.size=ops.size:=by simp [Ul]
theorem dtwo {C:A0} {K:DCfg} {fuel n0 m:Nat} {ops:Array Oper} {i j id:Nat} {N:Nat} {live:List Nat} {vs:List EV} {H:DHp} {Q:Ex→List AV→Hp→Prop} (hK:L6 C K []) (hm:m≤H.length)
  (hij:Nat.blt i j=true) (hj:Nat.blt j ops.size=true) (hb:pE ops=true)
  (h1:vT C.G Q (fun _ _=>False) (G3 K (fuel+1) n0 m (.region id (Um ops i j).toArray true) N live vs H)) (h2:vT C.G Q (fun _ _=>False) (G3 K (fuel+1) n0 m (.region id (Ul ops i j).toArray true) N live vs H)):AWp C m (.region id ops true) (fl N live (vVs C.G vs)) (B7 C.G H) (lv N live Q):=by
 have hij:i<j:=Nat.blt_eq ▸ hij;have hj:j<ops.size:=Nat.blt_eq ▸ hj;exact aZ5 hK hm (by omega) (by omega) hj (aI4 hb) (aI3 hb (by omega) hj) yI yH (fun _=>Iff.rfl) (fun k=>tR (by omega) hj k) h1 h2
def uI (C:A0):Rec:=fun m w F H Q=>match w with
 | .code c=>AWp C m c F H Q
 | _=>False
theorem AWp.seq {C:A0} {a b:Code} {F:Fr} {H:Hp} {Q:Post} {m:Nat} (hm:m≤H.length) (h:AWp C m a F H (Ik (uI C) m b Q)):AWp C m (.seq a b) F H Q:=by
 intro r hr ρ x w hH hF;refine wpIn_seq (Code.wpIn_mono (fun e a' w' h=>AP.seq hm hH (fun F' H' hrr ρ' a2 w2 hl g1 g2=>hrr r (La hr).2 ρ' a2 w2 g1 g2) h) (h r (La hr).1 ρ x w hH hF))
mutual
def fz (m k:Nat):AV→AV
 | .ptr (.rw i) off=>bif Nat.beq i m then .ptr (.ro k) off else .ptr (.rw i) off
 | .slice mb (.rw i) off len=>bif Nat.beq i m then .slice mb (.ro k) off len else .slice mb (.rw i) off len
 | .func f cap=>.func f (fzs m k cap)
 | .agg cs=>.agg (fzs m k cs)
 | .tup vs=>.tup (fzs m k vs)
 | v=>v
def fzs (m k:Nat):List AV→List AV
 | []=>[]
 | v::vs=>fz m k v::fzs m k vs
end
def fzB (m k:Nat) (b:Option Blk):Option Blk:=match b with
 | some b=>some ⟨b.esz,fzs m k b.cells⟩
 | none=>none
def Jy (m k:Nat) (H:Hp):Hp:=(H.map (fzB m k)).set m none
theorem An (m k:Nat):∀ l,fzs m k l=l.map (fz m k)
 | []=>by simp [fzs]
 | v::l=>by simp [fzs,An m k l]
def Env.frz (ρ:Env) (k:Nat) (x:Option R2):Env:=⟨ρ.rw,fun i b d=>ρ.ro i b d∨∃ e,x=some e∧i=k∧b=e.blk∧d=0,ρ.dfs⟩
theorem Env.le_frz (ρ:Env) (k:Nat) (x:Option R2):ρ.le (ρ.frz k x):=⟨fun _ _ h=>h,fun _ _ _ h=>.inl h,fun _ h=>h⟩
theorem bB6 {ρ:Env} {m k:Nat} {x:Option R2} (hx:ρ.rw[m]?=some x) {off:Nat} {v:Value} (h:S3 ρ (.rw m) off v):S3 (ρ.frz k x) (.ro k) off v:=by
 obtain ⟨e,h1,rfl⟩:=h;rw [hx] at h1;simp at h1;subst h1;exact ⟨e.blk,0,.inr ⟨e,rfl,rfl,rfl,rfl⟩,by rw [Nat.zero_add]⟩
theorem aC1 {ρ:Env} {m k:Nat} {x:Option R2} (hx:ρ.rw[m]?=some x) {mb:Bool} {off len:Nat} {v:Value} (h:X2 ρ mb (.rw m) off len v):X2 (ρ.frz k x) mb (.ro k) off len v:=by
 obtain ⟨ca,cap,hv,hl,hc⟩:=h;refine ⟨ca,cap,hv,hl,?_⟩;rcases hc with hc | hc | ⟨e,h1,h2,_⟩
 ·exact .inl hc
 ·exact .inr (.inl hc)
 ·rw [hx] at h1;simp at h1;subst h1;exact .inr (.inr ⟨e.blk,0,.inr ⟨e,rfl,rfl,rfl,rfl⟩,by rw [Nat.zero_add];exact h2⟩)
mutual
theorem kQ {ρ:Env} {m k:Nat} {x:Option R2} (hx:ρ.rw[m]?=some x):∀ (v:AV) (cv:Value),VR ρ v cv→VR (ρ.frz k x) (fz m k v) cv
 | .undef,_,_=>by simp [fz,VR]
 | .bool _,_,h=>by simpa [fz,VR] using h
 | .int _ _,_,h=>by simpa [fz,VR] using h
 | .str _,_,h=>by simpa [fz,VR] using h
 | .nilp,_,h=>by simpa [fz,VR] using h
 | .nils,_,h=>by simpa [fz,VR] using h
 | .nilf,_,h=>by simpa [fz,VR] using h
 | .ptr (.rw i) off,cv,h=>by
  simp only [fz];cases hi:Nat.beq i m with
  | true=>
   have:=yV hi
   subst this;simp only [cond_true,VR] at h ⊢;exact bB6 hx h
  | false=>exact VR.mono (Env.le_frz ρ k x) _ _ h
 | .ptr (.ro i) off,cv,h=>by simp only [fz];exact VR.mono (Env.le_frz ρ k x) _ _ h
 | .slice mb (.rw i) off len,cv,h=>by
  simp only [fz];cases hi:Nat.beq i m with
  | true=>
   have:=yV hi
   subst this;simp only [cond_true,VR] at h ⊢;exact aC1 hx h
  | false=>exact VR.mono (Env.le_frz ρ k x) _ _ h
 | .slice mb (.ro i) off len,cv,h=>by simp only [fz];exact VR.mono (Env.le_frz ρ k x) _ _ h
 | .func f cap,cv,h=>by
  simp only [fz,VR] at h ⊢;obtain ⟨cs,e,hs⟩:=h;exact ⟨cs,e,cQ hx cap _ hs⟩
 | .agg cap,cv,h=>by
  simp only [fz,VR] at h ⊢;obtain ⟨cs,e,hs⟩:=h;exact ⟨cs,e,cQ hx cap _ hs⟩
 | .tup cap,cv,h=>by
  simp only [fz,VR] at h ⊢;obtain ⟨cs,e,hs⟩:=h;exact ⟨cs,e,cQ hx cap _ hs⟩
 | .yld i,cv,h=>by simp only [fz];exact VR.mono (Env.le_frz ρ k x) _ _ h
 | .rcd ..,cv,h=>by simp only [VR] at h
theorem cQ {ρ:Env} {m k:Nat} {x:Option R2} (hx:ρ.rw[m]?=some x):∀ (l:List AV) (cl:List Value),VRs ρ l cl→VRs (ρ.frz k x) (fzs m k l) cl
 | [],_,h=>by simpa [fzs,VRs] using h
 | v::l,cl,h=>by
  simp only [fzs,VRs] at h ⊢;obtain ⟨y,ys,e,h1,h2⟩:=h;exact ⟨y,ys,e,kQ hx v y h1,cQ hx l ys h2⟩
end
mutual
/-- what names no block of the heap hangs on the read-only places alone -/
theorem tH {ρ ρ':Env} (h:∀ i b d,ρ.ro i b d→ρ'.ro i b d):∀ (v:AV) (cv:Value),H7 v=true→VR ρ v cv→VR ρ' v cv
 | .undef,_,_,_=>by simp [VR]
 | .bool _,_,_,hv=>by simpa [VR] using hv
 | .int _ _,_,_,hv=>by simpa [VR] using hv
 | .str _,_,_,hv=>by simpa [VR] using hv
 | .nilp,_,_,hv=>by simpa [VR] using hv
 | .nils,_,_,hv=>by simpa [VR] using hv
 | .nilf,_,_,hv=>by simpa [VR] using hv
 | .ptr (.rw i) off,_,hb,_=>by simp [H7] at hb
 | .ptr (.ro i) off,cv,_,hv=>by
  simp only [VR] at hv ⊢;obtain ⟨b,d,h1,h2⟩:=hv;exact ⟨b,d,h _ _ _ h1,h2⟩
 | .slice mb (.rw i) off len,_,hb,_=>by simp [H7] at hb
 | .slice mb (.ro i) off len,cv,_,hv=>by
  simp only [VR] at hv ⊢;obtain ⟨ca,cap,hv,hl,hc⟩:=hv;refine ⟨ca,cap,hv,hl,?_⟩;rcases hc with hc | hc | ⟨b,d,h1,h2⟩
  ·exact .inl hc
  ·exact .inr (.inl hc)
  ·exact .inr (.inr ⟨b,d,h _ _ _ h1,h2⟩)
 | .func f cap,cv,hb,hv=>by
  simp only [H7] at hb;simp only [VR] at hv ⊢;obtain ⟨cs,e,hs⟩:=hv;exact ⟨cs,e,Sx h cap _ hb hs⟩
 | .agg cap,cv,hb,hv=>by
  simp only [H7] at hb;simp only [VR] at hv ⊢;obtain ⟨cs,e,hs⟩:=hv;exact ⟨cs,e,Sx h cap _ hb hs⟩
 | .tup cap,cv,hb,hv=>by
  simp only [H7] at hb;simp only [VR] at hv ⊢;obtain ⟨cs,e,hs⟩:=hv;exact ⟨cs,e,Sx h cap _ hb hs⟩
 | .yld i,cv,hb,_=>by simp [H7] at hb
 | .rcd ..,cv,_,hv=>by simp only [VR] at hv
theorem Sx {ρ ρ':Env} (h:∀ i b d,ρ.ro i b d→ρ'.ro i b d):∀ (l:List AV) (cl:List Value),K7 l=true→VRs ρ l cl→VRs ρ' l cl
 | [],_,_,hv=>by simpa [VRs] using hv
 | v::l,cl,hb,hv=>by
  simp only [K7,zN] at hb;simp only [VRs] at hv ⊢;obtain ⟨x,xs,e,h1,h2⟩:=hv;exact ⟨x,xs,e,tH h v x hb.1 h1,Sx h l xs hb.2 h2⟩
end
def kR (x y:AV):Prop:=∀ (ρ:Env) cv,VR ρ x cv→VR ρ y cv
def wF (C:A0) (m k:Nat) (H:Hp):Prop:=
 ∃ b,H[m]?=some (some b)∧isRec b=false∧∀ (j:Nat) v,(C.G k)[j]?=some v→∃ x,b.cells[j]?=some x∧H7 x=true∧kR x v
theorem B1.frz {C:A0} {ρ:Env} {H:Hp} {w:World} {m k:Nat} (hH:B1 C ρ H w) (hf:wF C m k H) :
  ∃ ρ',ρ.le ρ'∧ρ'.rw=ρ.rw∧ρ'.dfs=ρ.dfs∧B1 C ρ' (Jy m k H) w∧Frm ρ w ρ' w∧∀ v cv,VR ρ v cv→VR ρ' (fz m k v) cv:=by
 obtain ⟨b,hb,hr,hc⟩:=hf;have hl:=hH.live m b hb
 obtain ⟨x,hx⟩:∃ x,ρ.rw[m]?=some x:=by
  cases h:ρ.rw[m]? with
  | none=>rw [h] at hl;exact hl.elim
  | some x=>exact ⟨x,rfl⟩
 have le:=Env.le_frz ρ k x
 have key:∀ (i:Nat) c,(Jy m k H)[i]?=some (some c)→i≠m∧∃ c0,H[i]?=some (some c0)∧c=⟨c0.esz,fzs m k c0.cells⟩:=fun i c h=>by
  unfold Jy at h;rw [qX] at h;by_cases hi:m=i
  ·rw [if_pos hi] at h;split at h<;>simp at h
  ·rw [if_neg hi,sH] at h;obtain ⟨o,ho,h⟩:=Option.map_eq_some_iff.1 h;cases o with
   | none=>simp [fzB] at h
   | some c0=>simp [fzB] at h;exact ⟨fun h=>hi h.symm,c0,ho,h.symm⟩
 refine ⟨ρ.frz k x,le,rfl,rfl,⟨by simp [Jy,Env.frz,hH.len],hH.base,hH.ents,fun i c h=>?_,fun i j c c' e e' h1 h2 h3 h4 h5=>?_,fun i b1 d hro=>?_,fun D hD=>⟨(hH.df D hD).1,(hH.df D hD).2.1,fun i d hro=>?_⟩⟩,
  ⟨rfl,rfl,rfl,zA1 _,fun _ _ _=>rfl,fun i e h=>.inl ⟨i,e,h,rfl⟩,fun _ _ _ h=>.inl h,fun i b1 d hro=>?_,fun _ h=>.inl h⟩,fun v cv h=>kQ hx v cv h⟩
 ·obtain ⟨_,c0,h1,rfl⟩:=key i c h;have hl:=hH.live i c0 h1;show V3 _ _ (ρ.rw[i]?) _
  match hxi:ρ.rw[i]?,hl with
  | some (some e),hl=>
   have hrr:isRec (⟨c0.esz,fzs m k c0.cells⟩:Blk)=isRec c0:=rfl;cases hr0:isRec c0 with
   | true=>
    obtain ⟨g1,r,g2,p,ps,a,bd,F,q1,q2,q3,q4,q5,q6,q7⟩:=hl.rec hr0;refine .ofRec (hrr.trans hr0) ⟨g1,r,g2,p,ps,a,bd,F.map (fz m k),by simp only [q1,An,List.map_cons,fz],q2,q3,q4,q5,by simpa using q6,fun j v hv=>?_⟩;simp only [sH,Option.map_eq_some_iff] at hv;obtain ⟨v0,hv0,rfl⟩:=hv;exact kQ hx v0 _ (q7 j v0 hv0)
   | false=>
    obtain ⟨g1,cs,ty,fz0,g2,g3,g4,g5,g6⟩:=hl.cs hr0;refine .of (hrr.trans hr0) ⟨g1,cs,ty,fz0,g2,g3,by simpa [An] using g4,fun j v hv=>?_,g6⟩;simp only [An,sH,Option.map_eq_some_iff] at hv;obtain ⟨v0,hv0,rfl⟩:=hv;obtain ⟨cv,p1,p2⟩:=g5 j v0 hv0;exact ⟨cv,p1,kQ hx v0 cv p2⟩
  | some none,hl=>
   have:c0.cells=[]:=hl
   show fzs m k c0.cells=[];rw [this];simp [fzs]
  | none,hl=>exact hl.elim
 ·obtain ⟨_,c0,g1,_⟩:=key i c h1;obtain ⟨_,c1,g2,_⟩:=key j c' h2;exact hH.inj i j c0 c1 e e' g1 g2 h3 h4 h5
 ·rcases hro with hro | ⟨e,rfl,rfl,rfl,rfl⟩
  ·obtain ⟨g1,g2,g3⟩:=hH.ro i b1 d hro;refine ⟨g1,fun j c e q1 q2=>?_,fun j v hv=>?_⟩
   ·obtain ⟨_,c0,q3,_⟩:=key j c q1;exact g2 j c0 e q3 q2
   ·obtain ⟨cv,q1,q2⟩:=g3 j v hv;exact ⟨cv,q1,VR.sub (ρ:=⟨[],ρ.ro,[]⟩) ⟨fun _ _ h=>by simp at h,fun _ _ _ h=>Or.inl h⟩ v cv q2⟩
  ·rw [hx] at hl;obtain ⟨g1,cs,ty,fz0,g2,g3,g4,g5,g6⟩:=hl.cs hr;refine ⟨(hH.ents m e hx).2,fun j c e' q1 q2 hbe=>?_,fun j v hv=>?_⟩
   ·obtain ⟨hne,c0,q3,_⟩:=key j c q1;exact hne (hH.inj j m c0 b e' e q3 hb q2 hx hbe)
   ·obtain ⟨y,q1,q2,q3⟩:=hc j v hv;obtain ⟨cv,q4,q5⟩:=g5 j y q1;refine ⟨cv,by simp [World.cell?,g2,q4],q3 _ _ (tH (fun i b d h=>?_) y cv q2 q5)⟩;exact .inl h
 ·rcases hro with hro | ⟨e,rfl,rfl,rfl,rfl⟩
  ·exact (hH.df _ hD).2.2 i d hro
  ·exact (hH.df _ hD).2.1 m e hx rfl
 ·rcases hro with hro | ⟨e,rfl,rfl,rfl,rfl⟩
  ·exact .inl hro
  ·exact .inr (.inl ⟨m,e,hx,rfl⟩)
theorem D0.frz {ρ ρ':Env} {m k:Nat} {F:Fr} {a:Act} (h:D0 ρ F a) (hd:ρ'.dfs=ρ.dfs) (hv:∀ v cv,VR ρ v cv→VR ρ' (fz m k v) cv):D0 ρ' (fzs m k F) a:=by
 refine ⟨by rw [hd];exact h.nod,by rw [An,List.length_map];exact h.len,fun i v hi=>?_⟩;rw [An,sH,Option.map_eq_some_iff] at hi;obtain ⟨v0,h0,rfl⟩:=hi;exact hv _ _ (h.val i v0 h0)
theorem AWp.frzQ {C:A0} {n:Nat} {c:Code} {F:Fr} {H:Hp} {Q Q':Post} (h:AWp C n c F H Q) (hq:∀ e F' H',Q e F' H'→∃ m k,wF C m k H'∧Q' e (fzs m k F') (Jy m k H')):AWp C n c F H Q':=by
 intro r hr ρ a w hH hF;refine Code.wpIn_mono ?_ (h r hr ρ a w hH hF);rintro e a' w' ⟨ae,ρ',F',H',rfl,h2,h3,h4,h5,h6⟩;obtain ⟨m,k,g1,g2⟩:=hq _ _ _ h2;obtain ⟨ρ2,q1,q2,q3,q4,q5,q6⟩:=h4.frz g1;exact ⟨ae,ρ2,_,_,rfl,g2,fun i hi=>by rw [q2];exact h3 i hi,q4,h5.frz q3 q6,h6.trans q5⟩
theorem kR.rfl {x:AV}:kR x x:=fun _ _ h=>h
theorem pD {i m:Nat} (h:i≠m):Nat.beq i m=false:=by
 cases hb:Nat.beq i m with
 | true=>exact absurd (yV hb) h
 | false=>rfl
mutual
theorem fz_bnd {n m k:Nat} (hm:n≤m):∀ v,A8 n v=true→fz m k v=v
 | .undef,_=>by simp [fz]
 | .bool _,_=>by simp [fz]
 | .int _ _,_=>by simp [fz]
 | .str _,_=>by simp [fz]
 | .nilp,_=>by simp [fz]
 | .nils,_=>by simp [fz]
 | .nilf,_=>by simp [fz]
 | .ptr (.rw i) off,h=>by
  simp only [A8,xE] at h;simp only [fz];rw [show Nat.beq i m=false from pD (by omega)];rfl
 | .ptr (.ro i) off,_=>by simp [fz]
 | .slice mb (.rw i) off len,h=>by
  simp only [A8,xE] at h;simp only [fz];rw [show Nat.beq i m=false from pD (by omega)];rfl
 | .slice mb (.ro i) off len,_=>by simp [fz]
 | .func f cap,h=>by simp only [A8] at h;simp only [fz,Do hm cap h]
 | .agg cs,h=>by simp only [A8] at h;simp only [fz,Do hm cs h]
 | .tup cs,h=>by simp only [A8] at h;simp only [fz,Do hm cs h]
 | .yld i,h=>by simp [fz]
 | .rcd ..,_=>by simp [fz]
theorem Do {n m k:Nat} (hm:n≤m):∀ l,A3 n l=true→fzs m k l=l
 | [],_=>by simp [fzs]
 | v::l,h=>by
  simp only [A3,zN] at h;simp only [fzs,fz_bnd hm v h.1,Do hm l h.2]
end
theorem rL (m k:Nat) (live:List Nat) (F:Fr):Ca live (fzs m k F)=fzs m k (Ca live F):=by
 simp only [Ca,An,List.map_map];congr 1;funext i;simp only [Function.comp,List.getD,sH];cases F[i]? with
 | none=>simp [fz]
 | some v=>rfl
theorem AWp.frzL {C:A0} {n:Nat} {c:Code} {F:Fr} {H:Hp} {N:Nat} {live:List Nat} {Q Q':Ex→List AV→Hp→Prop} (m k:Nat) (h:AWp C n c F H (lv N live Q)) (hq:∀ e vs H',Q e vs H'→wF C m k H'∧Q' e (fzs m k vs) (Jy m k H')):AWp C n c F H (lv N live Q'):=
 h.frzQ fun e F' H' h=>by
  obtain ⟨h1,h2⟩:=U6 h;obtain ⟨g1,g2⟩:=hq _ _ _ h2;refine ⟨m,k,g1,?_⟩;have hl:(fzs m k F').length=F'.length:=by rw [An,List.length_map]
  show chk (Nat.beq (fzs m k F').length N) (Q' e (Ca live (fzs m k F')) (Jy m k H'));rw [rL,hl,h1];exact g2
def aG (b b':Blk):Prop:=b=b'∨(b.esz=b'.esz∧isRec b=false∧b.cells.length=b'.cells.length∧∀ (j:Nat) v,b'.cells[j]?=some v→∃ x,b.cells[j]?=some x∧kR x v)
def Ka:Hp→Hp→Prop
 | [],[]=>True
 | none::H,none::H'=>Ka H H'
 | some b::H,some b'::H'=>aG b b'∧Ka H H'
 | _,_=>False
theorem Rc:∀ H:Hp,Ka H H
 | []=>trivial
 | none::H=>Rc H
 | some _::H=>⟨.inl rfl,Rc H⟩
theorem Ts:∀ {H H':Hp},Ka H H'→H.length=H'.length
 | [],[],_=>rfl
 | none::H,none::H',h=>by simp only [List.length_cons,Ts (H:=H) (H':=H') h]
 | some _::H,some _::H',h=>by simp only [List.length_cons,Ts (H:=H) (H':=H') h.2]
 | [],_::_,h=>h.elim
 | none::_,[],h=>h.elim
 | some _::_,[],h=>h.elim
 | none::_,some _::_,h=>h.elim
 | some _::_,none::_,h=>h.elim
theorem Hi:∀ {H H':Hp},Ka H H'→∀ (i:Nat) b',H'[i]?=some (some b')→∃ b,H[i]?=some (some b)∧aG b b'
 | [],[],_,i,b',h=>by simp at h
 | none::H,none::H',h,i,b',hb=>by
  cases i with
  | zero=>simp at hb
  | succ i=>exact Hi (H:=H) (H':=H') h i b' (by simpa using hb)
 | some b::H,some c::H',h,i,b',hb=>by
  cases i with
  | zero=>simp at hb;subst hb;exact ⟨b,rfl,h.1⟩
  | succ i=>exact Hi (H:=H) (H':=H') h.2 i b' (by simpa using hb)
 | [],_::_,h,_,_,_=>h.elim
 | none::_,[],h,_,_,_=>h.elim
 | some _::_,[],h,_,_,_=>h.elim
 | none::_,some _::_,h,_,_,_=>h.elim
 | some _::_,none::_,h,_,_,_=>h.elim
theorem Tt:∀ {A A' B B':Hp},Ka A A'→Ka B B'→Ka (A++B) (A'++B')
 | [],[],_,_,_,h=>h
 | none::A,none::A',_,_,h,h'=>Tt (A:=A) (A':=A') h h'
 | some _::A,some _::A',_,_,h,h'=>⟨h.1,Tt (A:=A) (A':=A') h.2 h'⟩
 | [],_::_,_,_,h,_=>h.elim
 | none::_,[],_,_,h,_=>h.elim
 | some _::_,[],_,_,h,_=>h.elim
 | none::_,some _::_,_,_,h,_=>h.elim
 | some _::_,none::_,_,_,h,_=>h.elim
theorem B1.tell {C:A0} {ρ:Env} {H H':Hp} {w:World} (hH:B1 C ρ H w) (h:Ka H H'):B1 C ρ H' w:=by
 refine ⟨by rw [←Ts h];exact hH.len,hH.base,hH.ents,fun i c hc=>?_,fun i j c c' e e' h1 h2 h3 h4 h5=>?_,fun i b d hr=>?_,hH.df⟩
 ·obtain ⟨b,hb,ht⟩:=Hi h i c hc;have hl:=hH.live i b hb;rcases ht with rfl | ⟨t1,t2,t3,t4⟩
  ·exact hl
  ·match hxi:ρ.rw[i]?,hl with
   | some (some e),hl=>
    obtain ⟨g1,cs,ty,fz0,g2,g3,g4,g5,g6⟩:=hl.cs t2
    have hrr:isRec c=false:=by
     unfold isRec at t2 ⊢;rw [←t1];exact t2
    refine .of hrr ⟨by rw [←t1];exact g1,cs,ty,fz0,g2,g3,by rw [←t3];exact g4,fun j v hv=>?_,g6⟩;obtain ⟨x,q1,q2⟩:=t4 j v hv;obtain ⟨cv,p1,p2⟩:=g5 j x q1;exact ⟨cv,p1,q2 _ _ p2⟩
   | some none,hl=>
    have:b.cells=[]:=hl
    show c.cells=[];rw [this] at t3;exact List.eq_nil_of_length_eq_zero t3.symm
   | none,hl=>exact hl.elim
 ·obtain ⟨b,hb,_⟩:=Hi h i c h1;obtain ⟨b',hb',_⟩:=Hi h j c' h2;exact hH.inj i j b b' e e' hb hb' h3 h4 h5
 ·obtain ⟨g1,g2,g3⟩:=hH.ro i b d hr;refine ⟨g1,fun j c e q1 q2=>?_,g3⟩;obtain ⟨b',hb',_⟩:=Hi h j c q1;exact g2 j b' e hb' q2
theorem AWp.tellH {C:A0} {m:Nat} {c:Code} {F:Fr} {H H':Hp} {Q:Post} (ht:Go.Am.Ka H H') (h:AWp C m c F H' Q):AWp C m c F H Q:=
 fun r hr ρ a w hH hF=>h r hr ρ a w (hH.tell ht) hF
theorem Fo {N:Nat} {g:Nat→Nat} {i:Nat} (hi:i<N):((List.range N).map g).getD i 0=g i:=by
 simp [List.getD,hi]
theorem C2.fn {m N:Nat} {F F':Fr} {H H':Hp} (g:Nat→Nat) (hN:H.length=N) (hm:m≤N) (hfix:∀ i,i<m→g i=i) (hinj:∀ i j,i<N→j<N→g i=g j→i=j)
  (hb:∀ i,i<N→∃ b b',H[i]?=some (some b)∧H'[g i]?=some (some b')∧b.esz=b'.esz∧A3 N b.cells=true∧((b.cells=[]∧b.esz=1)∨b'.cells=rens ((List.range N).map g) b.cells))
  (hF:A3 N F=true) (hF':wk (rens ((List.range N).map g) F) F'):C2 m F H F' H':=by
 have hl:((List.range N).map g).length=N:=by simp
 refine ⟨(List.range N).map g,by rw [hl,hN],by omega,fun i hi=>by rw [Fo (by omega)];exact hfix i hi,fun i hi=>?_,fun i j b b' h1 h2 he=>?_,fun i b h=>?_,by rw [←Tl hF',I7];simp,fun k v hk=>?_⟩
 ·rw [hl] at hi;rw [Fo hi];obtain ⟨b,b',_,h2,_⟩:=hb i hi;exact (zQ.1 h2).1
 ·have hi:=(zQ.1 h1).1;have hj:=(zQ.1 h2).1;rw [hN] at hi hj;rw [Fo hi,Fo hj] at he;exact hinj i j hi hj he
 ·have hi:=(zQ.1 h).1;rw [hN] at hi;obtain ⟨b1,b',h1,h2,h3,h4,h5⟩:=hb i hi;rw [h] at h1;simp only [zK] at h1;subst h1;rw [Fo hi];refine ⟨b',h2,?_,h3,fun k v hk=>?_,fun hr=>?_⟩
  ·rcases h5 with ⟨h5,_⟩ | h5
   ·rw [h5];exact zA2 _
   ·rw [h5,I7];simp
  ·rcases h5 with ⟨h5,_⟩ | h5
   ·rw [h5] at hk;simp at hk
   ·rw [L2,xM] at h4;refine ⟨by rw [hl];exact h4 v (rM hk),.inr ?_⟩;rw [h5,I7];simp [hk]
  ·rcases h5 with ⟨_,h5⟩ | h5
   ·unfold isRec at hr;rw [h5] at hr;cases hr
   ·rw [h5,I7];simp
 ·rw [L2,xM] at hF;refine ⟨by rw [hl];exact hF v (rM hk),?_⟩;rcases Tm hF' k (Go.Am.C0 ((List.range N).map g) v) (by rw [I7];simp [hk]) with h | h
  ·left;cases v with
   | undef=>rfl
   | ptr r o=>cases r<;>simp [Go.Am.C0] at h
   | slice m r o n=>cases r<;>simp [Go.Am.C0] at h
   | _=>simp [Go.Am.C0] at h
  ·exact .inr h
theorem AWp.pads {C:A0} {m:Nat} {c:Code} {F:Fr} {Q:Post}:∀ (k:Nat) {H:Hp},m≤H.length→AWp C m c F (H++List.replicate k (some ⟨1,[]⟩)) Q→AWp C m c F H Q
 | 0,H,_,h=>by rw [List.replicate_zero,List.append_nil] at h;exact h
 | k+1,H,hm,h=>by
  refine AWp.nil 1 hm (Ki _) (Fv H) (AWp.pads k (by rw [zA0];omega) ?_);rw [List.append_assoc,List.singleton_append,←List.replicate_succ];exact h
theorem fE {m:Nat}:∀ {H:Hp},(∀ (i:Nat) b,H[i]?=some (some b)→A3 m b.cells=true)→H9 m H=true
 | [],_=>rfl
 | none::H,h=>by simp only [H9];exact fE fun i b hb=>h (i+1) b hb
 | some b::H,h=>by
  simp only [H9,zN];exact ⟨h 0 b rfl,fE fun i b hb=>h (i+1) b hb⟩
section
variable {C:A0}
end
section
variable {C:A0}
open Classical in
noncomputable def D9 (vs0:List AV) (H0:Hp):List AV→Bool:=fun xs=>decide (xs=[.agg vs0,.agg (R4 H0)])
theorem Hw {vs0 vs:List AV} {H0 H:Hp} (h:D9 vs0 H0 [.agg vs,.agg (R4 H)]=true):vs=vs0∧H=H0:=by
 unfold D9 at h;simp only [xE,List.cons.injEq,AV.agg.injEq,and_true] at h;exact ⟨h.1,Zs _ _ h.2⟩
theorem C5 {vs0:List AV} {H0:Hp}:D9 vs0 H0 [.agg vs0,.agg (R4 H0)]=true:=by
 unfold D9;simp
def Ju (G:Nat→List AV) (H0:Hp):Outs→AV→Hp→Prop
 | .one v hs=>fun v' H'=>v'=vV G v∧H'=acts H0 (hs.map (J6 G))
 | .chk _ x=>Ju G H0 x
 | .tst b x y=>fun v' H'=>(vB G b=true∧Ju G H0 x v' H')∨(vB G b=false∧Ju G H0 y v' H')
 | _=>fun _ _=>False
theorem Rr {G:Nat→List AV} {H0:Hp} {P:EV→List DHop→Prop} (R:(AV→Hp→Prop)→Prop) (mono:∀ K K':AV→Hp→Prop,(∀ v H',K v H'→K' v H')→R K→R K') (abs:R (fun _ _=>False)→∀ v hs,P v hs)
  (one:∀ v hs,R (fun v' H'=>v'=vV G v∧H'=acts H0 (hs.map (J6 G)))→P v hs):∀ o,R (Ju G H0 o)→Ea G P o
 | .one v hs,h=>one v hs h
 | .chk b x,h=>fun _=>Rr R mono abs one x h
 | .tst b x y,h=>⟨fun hb=>Rr R mono abs one x (mono _ _ (fun v H' h=>by
   rcases h with ⟨_,h⟩ | ⟨h1,_⟩
   ·exact h
   ·rw [hb] at h1;cases h1) h),fun hb=>Rr R mono abs one y (mono _ _ (fun v H' h=>by
   rcases h with ⟨h1,_⟩ | ⟨_,h⟩
   ·rw [hb] at h1;cases h1
   ·exact h) h)⟩
 | .namI e f,h=>fun j=>oAll_of abs h _
 | .namN e f,h=>fun j=>oAll_of abs h _
 | .namB e f,h=>fun j=>oAll_of abs h _
 | .namL e f,h=>fun j=>oAll_of abs h _
where
 oAll_of {G:Nat→List AV} {P:EV→List DHop→Prop} {R:(AV→Hp→Prop)→Prop} (abs:R (fun _ _=>False)→∀ v hs,P v hs) (h:R (fun _ _=>False)):∀ o,Ea G P o
  | .one v hs=>abs h v hs
  | .chk b x=>fun _=>oAll_of abs h x
  | .tst b x y=>⟨fun _=>oAll_of abs h x,fun _=>oAll_of abs h y⟩
  | .namI e f=>fun j=>oAll_of abs h _
  | .namN e f=>fun j=>oAll_of abs h _
  | .namB e f=>fun j=>oAll_of abs h _
  | .namL e f=>fun j=>oAll_of abs h _
def Ee (j:Nat) (q:List AV→Bool) (o:Outs):DSum:=fun args H=>some (.chk (.uf j q [.agg (.of args),.agg (.of (Xm H))]) o)
theorem Lw {f j:Nat} {o:Outs} {vs0:List AV} {H0:Hp} {q:List AV→Bool} (hq:q=D9 vs0 H0) (h:ACalls C f vs0 H0 (Ju C.G H0 o)):D4 C f (Ee j q o):=by
 intro args H o' ho;simp only [Ee,zK] at ho;subst ho;intro h1;simp only [vB,vVs,vV,vL,Li,hq] at h1;obtain ⟨e1,e2⟩:=Hw h1;refine Rr (H0:=H0) (fun K=>ACalls C f vs0 H0 K) (fun K K' hk h=>h.monoK hk) (fun h v hs=>?_) (fun v hs h=>?_) o h
 ·unfold E0;rw [e1,e2];exact h.monoK fun _ _ h=>h.elim
 ·unfold E0;rw [e1,e2];exact h
theorem P1 {M:Nat} {c:Code} {j:Nat} {ex N:Nat} {live:List Nat} {o:LOut} {vs0:List AV} {H0:Hp} {q:List AV→Bool} (hq:q=D9 vs0 H0)
  (h:AWp C M (.loop c) (fl N live vs0) H0 (lv N live (o.post C.G M))):H5 C M c (D6 j q ex N live o):=by
 refine .of fun vs H o' ho n Q hQ=>?_;simp only [D6,zK] at ho;subst ho;obtain ⟨h1,h2⟩:=hQ;simp only [vB,vVs,vV,vL,Li,hq] at h1;obtain ⟨e1,e2⟩:=Hw h1;rw [e1,e2];exact h.lmono fun e vs H hp=>Gj o n h2 hp
end
def tl (T:List Deferred) (a:Act):Act:=⟨a.tmps,a.defers++T⟩
theorem Tq (T:List Deferred) (a:Act) (d:Option Tmp) (v:Value):(tl T a).put d v=tl T (a.put d v):=by cases d<;>rfl
theorem qR (T:List Deferred) (a:Act):(tl T a).eval=a.eval:=rfl
theorem Oper.wpIn_tail {F:Fence} {n:Nat} {P:Program} {o:Oper} {a:Act} {w:World} (T:List Deferred) {K K':Act→World→Prop} {Q Q':Exit→Act→World→Prop} (hk:∀ a w,K a w→K' (tl T a) w) (hq:∀ e a w,Q e a w→Q' e (tl T a) w) (h:o.wpIn F n P a w K Q):o.wpIn F n P (tl T a) w K' Q':=by
 unfold Oper.wpIn at *;rw [qR];refine ⟨h.1,?_⟩;have h:=h.2;generalize (o.semAt F.round a.eval).run P w=r at *;have hl:LetsOut Q→LetsOut Q':=fun ⟨a,w,h⟩=>⟨_,w,hq _ _ _ h⟩;have hp:∀ v w,K (a.put o.dst v) w→K' ((tl T a).put o.dst v) w:=fun v w h=>by rw [Tq];exact hk _ _ h
 have hd:∀ d w,K ({ a with defers:=d::a.defers }.put o.dst undef) w→K' ({ (tl T a) with defers:=d::(tl T a).defers }.put o.dst undef) w:=fun d w h=>by
  have:=hk _ _ h
  rw [←Tq] at this;exact this
 cases r with
 | ok n w'=>
  cases n<;>simp only [Oper.uponIn] at h ⊢ <;>
   first
    | exact hp _ _ h
    | exact hd _ _ h
    | exact ⟨h.1,CallsIn.mono h.2 (fun e w'' he=>by cases e<;>first | exact hp _ _ he | exact hq _ _ _ he | exact hl he)⟩
    | exact ⟨h.1,RowsIn.mono h.2 (fun _ _ he=>hp _ _ he)⟩
    | exact ⟨h.1,RoundIn.mono h.2 (fun e w'' he=>by cases e<;>first | exact hp _ _ he | exact hq _ _ _ he | exact hl he)⟩
 | halt x w'=>cases x<;>simp only [Oper.uponIn] at h ⊢<;>exact hq _ _ _ h
theorem pR {F:Fence} {n:Nat} {P:Program} {ops:Array Oper} (T:List Deferred) {i:Nat} {a:Act} {w:World} {K K':Act→World→Prop} {Q Q':Exit→Act→World→Prop} (hk:∀ a w,K a w→K' (tl T a) w) (hq:∀ e a w,Q e a w→Q' e (tl T a) w) (h:wpOpIn F n P ops Q i K a w):wpOpIn F n P ops Q' i K' (tl T a) w:=by
 unfold wpOpIn at *;cases ho:ops[i]? with
 | none=>rw [ho] at h;exact hk _ _ h
 | some o=>
  rw [ho] at h;simp only at h ⊢;split
  ·rename_i hw;rw [if_pos (show Region.wanted o (yielded ops a.tmps)=true from hw)] at h;exact Oper.wpIn_tail T hk hq h
  ·rename_i hw;rw [if_neg (show ¬Region.wanted o (yielded ops a.tmps)=true from hw)] at h;refine ⟨h.1,?_⟩;rw [Tq];exact hk _ _ h.2
theorem Tk {F:Fence} {n:Nat} {P:Program} {md:Region.Mode} {ops:Array Oper} (T:List Deferred) {Q Q':Exit→Act→World→Prop} (hq:∀ e a w,Q e a w→Q' e (tl T a) w):∀ (k:Nat) (ls:Array Bool) (a:Act) (w:World),wpAnyIn F n P md ops Q k ls a w→wpAnyIn F n P md ops Q' k ls (tl T a) w
 | 0,ls,a,w,h=>⟨h.1,hq _ _ _ h.2⟩
 | k+1,ls,a,w,h=>⟨fun hr=>hq _ _ _ (h.1 hr),fun i hi=>pR T (Tk T hq k _) hq (h.2 i hi)⟩
section
variable {K:Cfg} {lps:List Code}
theorem zZ (hK:Fl K lps) (T:List Deferred) {all:List Oper} {trs:List Tr} {F F':Fr} {H H':Hp} (ht:DT K all all F H trs F' H') (hd:X1 all trs=true) {ρ:Env} {a:Act} {w:World} (hH:B1 K.C ρ H w) (hF:D0 ρ F a)
  {id:Nat} {r:Option Nat} {Q Q':Exit→Act→World→Prop} (hq:∀ e a w,Q e a w→Q' e (tl T a) w) (hQ:∀ ρ' a' w',B1 K.C ρ' H' w'→D0 ρ' F' a'→ρ.le ρ'→Frm ρ w ρ' w'→Q .normal a' w'):(Code.region id all.toArray true).wpIn (W r) 0 K.C.P Q' (tl T a) w:=by
 obtain ⟨vs,h1,h2,h3,h4,h5⟩:=ht.spell;refine wpIn_region_any hK.mix (Tk T hq _ _ a _ ?_);have hw:({ w with drawn:=w.drawn+1 }:World)=w.drew:=rfl;rw [hw];have hsz:all.toArray.size=all.length:=by simp
 rw [hsz];refine Zt (F0:=F) (H0:=H) (ρ0:=ρ) (w0:=w) hK hd h1 h2 h5 (fun a' w' hs=>?_) all.length _ a w.drew (by simp) ?_ ⟨fun j o _ hj=>?_,ρ,?_,?_,Env.le_refl ρ,(Frm.refl ρ w).drew⟩
 ·obtain ⟨ρ',g1,g2,g3,g4⟩:=hs.rel;rw [h4] at g1;rw [h3] at g2;exact hQ ρ' a' w' g1 g2 g3 g4
 ·rw [List.countP_eq_length.2]
  ·simp
  ·intro i hi
   have:=List.mem_range.1 hi
   simp [Array.getD]
 ·simp [Array.getD] at hj
 ·rw [Db]
  ·exact hH.drew
  ·intro k _;simp [Array.getD]
 ·have none:∀ (l:List Oper) (vs:List AV) (i:Nat) (F:Fr),FSel (fun i=>(Array.replicate all.length false).getD i false) i l vs F=F:=by
   intro l
   induction l with
   | nil=>intro vs i F;simp [FSel]
   | cons o l ih=>
    intro vs i F;cases vs with
    | nil=>simp [FSel]
    | cons x vs=>
     simp only [FSel]
     have:(Array.replicate all.length false).getD i false=false:=by simp [Array.getD]
     rw [this];exact ih vs _ F
  rw [none];exact hF
end
theorem Kl {P:Program} {fn:Func} {tmps:Array Value} {R:Ending→World→Prop} {rest:List Deferred} {u:FrameMode} (hu:u≠.run):∀ (ds:List Nat) (w:World),ds.Nodup→(∀ D∈ds,w.heap[D]?=some (.deferred (some [])))→
  (∀ w':World,w'.heap.size=w.heap.size→(∀ k,k ∉ ds→w'.heap[k]?=w.heap[k]?)→w'.os=w.os→w'.tape=w.tape→w'.output=w.output→LeavesInM Fence.wide 0 P fn tmps R rest u w')→
  LeavesInM Fence.wide 0 P fn tmps R ((ds.map fun D=>{ target:=.collected D,args:=#[] })++rest) u w
 | [],w,_,_,h=>h w rfl (fun _ _=>rfl) rfl rfl rfl
 | D::ds,w,hn,hd,h=>by
  refine ⟨hu,.inl ⟨D,w.putObj D (.deferred none),rfl,run_takeDeferred (hd D (by simp)),?_⟩⟩;refine Kl hu ds _ (List.nodup_cons.1 hn).2 (fun D' hD'=>?_) fun w' h1 h2 h3 h4 h5=>?_
  ·rw [World.putObj_heap_other (fun e:D'=D=>(List.nodup_cons.1 hn).1 (by rw [←e];exact hD'))];exact hd D' (by simp [hD'])
  ·refine h w' (by rw [h1];simp) (fun k hk=>?_) h3 h4 h5;rw [h2 k (fun hh=>hk (by simp [hh])),World.putObj_heap_other (fun e=>hk (by simp [e]))]
def Idle (P:Program) (D:Deferred):Prop:=∃ fv cap g cargs,D.target=.fn fv cap∧∀ w,(invoke D.target D.args).run P w=.ok (.enter g cargs) w∧
 CallsDIn Fence.wide 0 P g cargs .returning w fun e u' w'=>e=.returned (.tuple #[])∧u'=.returning∧w'=w
theorem qA {P:Program} {fn:Func} {tmps:Array Value} {R:Ending→World→Prop} {D:Deferred} {w:World} (hD:Idle P D) (h:∃ v,(results fn tmps).run P w=.ok v w∧R (.returned v) w):LeavesInM Fence.wide 0 P fn tmps R [D] .returning w:=by
 obtain ⟨fv,cap,g,cargs,h1,h2⟩:=hD;obtain ⟨h3,h4⟩:=h2 w;refine ⟨by simp,.inr ⟨fun h=>by simp [Fence.wide] at h,fv,cap,g,cargs,h1,h3,fun _ _=>trivial,h4.mono ?_⟩⟩;rintro e u' w' ⟨rfl,rfl,rfl⟩;exact h
def pmE:EV:=.func 987654 []
def pmV:AV:=.func 987654 []
def panRg (l:List Oper):Option (Nat×Nat):=match l with
 | [⟨some a,.build t ps,_,_,_,none⟩,⟨some b,.makeInterface t' (.tmp a'),_,_,_,none⟩,⟨_,.panic (.tmp b'),_,_,_,none⟩]=>
  if Nat.beq a a'&&(Nat.beq b b'&&(Nat.beq t t'&&(ps.toList.isEmpty&&Nat.beq (a+1) b))) then some (t,b) else none
 | _=>none
def Bd {α:Type} (H:List (Option α)) (l:List Nat):List (Option α):=l.foldl (fun H j=>H.set j none) H
structure Ha where
 K:DCfg
 rt:Nat
 ps:FuncId→List EV→DHp→Option (EB×EB×EV×List DHop×List Nat)
 /-- loops that surely panic -/
 lp:DFr→DHp→Option EB
 lc:Code
noncomputable def qW (Z:Ha) (rec:DRec) (m:Nat) (all l:List Oper) (dst:Option Tmp) (op:Op) (F:DFr) (H:DHp) (fs:Facts) (Q:DK):T:=
 match kdOf Z.K.P op with
 | .call=>match Sr F op with
  | some (f,args)=>match Z.ps f args H with
   | some (c,b,v,hs,hp)=>Bv c (Ad fs b (fun fs=>rec m (.ops all l) (K4 F dst v) (Gu H hs) fs Q) (fun _=>.ret pmE (Bd H hp)))
   | none=>Hj Z.K rec m all l dst op F H fs Q
  | none=>.fail
 | _=>Hj Z.K rec m all l dst op F H fs Q
noncomputable def Yp (Z:Ha) (rec:DRec) (m:Nat) (all l:List Oper) (F:DFr) (H:DHp) (fs:Facts) (Q:DK):T:=
 match l with
 | []=>Q .normal F H fs
 | ⟨dst,op,_,_,_,guard⟩::l=>
  Mp fs all guard F (fun F fs=>qW Z rec m all l dst op F H fs Q) (fun F fs=>rec m (.ops all l) (K4 F dst (.tup [])) H fs Q)
noncomputable def Ix (Z:Ha) (n:Nat) (rec:DRec) (m:Nat) (c:Code) (F:DFr) (H:DHp) (fs:Facts) (Q:DK):T:=
 match c with
 | .skip=>Q .normal F H fs
 | .region _ ops draw=>match draw with
  | true=>dx Z.K n m (.dr ops.toList ops.toList []) F H fs Q
  | false=>match panRg ops.toList with
   | some (t,k)=>match Nat.beq t Z.rt&&Nat.blt k F.length with
    | true=>.ret pmE H
    | false=>.fail
   | none=>rec m (.ops ops.toList ops.toList) F H fs Q
 | .seq a b=>rec m (.code a) F H fs (aF rec m b Q)
 | .cond c x y=>Iw Z.K rec m c x y F H fs Q
 | .block id c=>rec m (.code c) F H fs (Mu id Q)
 | .loop c=>match Nat.ble m Z.K.M with
  | true=>match Z.lp F H with
   | some b=>Bv b (.ret pmE H)
   | none=>.fail
  | false=>.fail
 | .exit id=>Q (.exit id) F H fs
 | .ret=>Q .ret F H fs
 | _=>.fail
noncomputable def Vm (Z:Ha):Nat→DRec
 | 0=>fun _ _ _ _ _ _=>.fail
 | n+1=>fun m wk F H fs Q=>match wk with
  | .ops all l=>Yp Z (Vm Z n) m all l F H fs Q
  | .dr _ _ _=>.fail
  | .code c=>Ix Z n (Vm Z n) m c F H fs Q
noncomputable def Wm (Z:Ha) (fuel n0 m:Nat) (c:Code) (N:Nat) (live:List Nat) (vs:List EV) (H:DHp):T:=
 Vm Z fuel m (.code c) (Yf N live vs) H (f0 n0) (fL N live)
noncomputable def ppan (Z:Ha) (fuel n0:Nat) (fn:Func) (args:List EV) (H:DHp):T:=
 Vm Z fuel H.length (.code (C6 fn)) (Cx fn args) H (f0 n0) (Mb Z.K.P fn fun _ _ _=>.fail)
def PX (rt:Nat):List PanicEntry:=[{ v:=.iface rt (.agg #[]),recovered:=false }]
def XP (rt:Nat) (Q:Post) (Qp:Hp→Prop) (e:Exit) (F:Fr) (H:Hp):Prop:=(∃ ae,e=Pg ae∧Q ae F H)∨(e=.panic (PX rt)∧Qp H)
def Z1 (C:A0) (m:Nat) (ρ:Env) (w:World) (X:Exit→Fr→Hp→Prop):Exit→Act→World→Prop:=fun e a' w'=>
 ∃ ρ' F' H',X e F' H'∧K9 m ρ ρ'∧B1 C ρ' H' w'∧D0 ρ' F' a'∧Frm ρ w ρ' w'
theorem Z1.link {C:A0} {m:Nat} {ρ0 ρ:Env} {w0 w:World} {X:Exit→Fr→Hp→Prop} (hp:K9 m ρ0 ρ) (hf:Frm ρ0 w0 ρ w) {e:Exit} {a:Act} {w':World} (h:Z1 C m ρ w X e a w'):Z1 C m ρ0 w0 X e a w':=by
 obtain ⟨ρ',F',H',h2,h3,h4,h5,h6⟩:=h;exact ⟨ρ',F',H',h2,hp.trans h3,h4,h5,hf.trans h6⟩
theorem Z1.of {C:A0} {m:Nat} {ρ:Env} {w:World} {rt:Nat} {Q:Post} {Qp:Hp→Prop} {e:Exit} {a:Act} {w':World} (h:AP C m ρ w Q e a w'):Z1 C m ρ w (XP rt Q Qp) e a w':=by
 obtain ⟨ae,ρ',F',H',h1,h2,h3⟩:=h;exact ⟨ρ',F',H',.inl ⟨ae,h1,h2⟩,h3⟩
def ACallsX (C:A0) (rt:Nat) (f:FuncId) (args:List AV) (H:Hp) (K:AV→Hp→Prop) (Kp:Hp→Prop):Prop:=
 Qw C.P f∧∀ (ρ:Env) (w:World) (cargs:List Value),B1 C ρ H w→VRs ρ args cargs→
  Calls C.P f cargs.toArray w fun e w'=>(∃ v cv ρ' H',e=.returned cv∧K v H'∧ρ.le ρ'∧B1 C ρ' H' w'∧VR ρ' v cv∧Frm ρ w ρ' w')∨(e=.panicked (PX rt)∧∃ ρ' H',Kp H'∧ρ.le ρ'∧B1 C ρ' H' w'∧Frm ρ w ρ' w')
theorem aD {C:A0} {ρ ρ':Env} {H H':Hp} {w w' w'':World} {ds:List Nat} {m:Nat} (hH:B1 C ρ H w) (hm:H.length≤m) (hp:K9 m ⟨ρ.rw,ρ.ro,[]⟩ ρ') (hH':B1 C ρ' H' w') (hfr:Frm ⟨ρ.rw,ρ.ro,[]⟩ w ρ' w') (hD:∀ D∈ds,D∈ρ'.dfs)
  (hs:w''.heap.size=w'.heap.size) (hk:∀ k,k ∉ ds→w''.heap[k]?=w'.heap[k]?) (ho2:w''.os=w'.os) (ht:w''.tape=w'.tape) (hou:w''.output=w'.output) :
  B1 C ⟨ρ'.rw,ρ'.ro,ρ.dfs⟩ H' w''∧ρ.le ⟨ρ'.rw,ρ'.ro,ρ.dfs⟩∧Frm ρ w ⟨ρ'.rw,ρ'.ro,ρ.dfs⟩ w'':=by
 have fresh:∀ D∈ds,w.heap.size≤D:=fun D h=>by
  rcases hfr.mkn D (hD D h) with h1 | h1
  ·simp at h1
  ·exact h1
 refine ⟨?_,?_,?_⟩
 ·refine ⟨hH'.len,by rw [hs];exact hH'.base,fun i e he=>by rw [hs];exact hH'.ents i e he,fun i b hb=>(hH'.live i b hb).sub (Env.sub_dfs ρ' ρ.dfs) fun e he=>hk e.blk fun hin=>(hH'.df _ (hD _ hin)).2.1 i e he rfl,hH'.inj,fun i b d hr=>?_,fun D hDD=>⟨?_,fun i e he=>?_,fun i d hr=>?_⟩⟩
  ·obtain ⟨g1,g2,g3⟩:=hH'.ro i b d hr;refine ⟨by rw [hs];exact g1,g2,fun k v hv=>?_⟩;obtain ⟨cv,g4,g5⟩:=g3 k v hv;refine ⟨cv,?_,g5⟩;rw [World.cell?_of_block (w:=w') (hk b fun hin=>(hH'.df b (hD b hin)).2.2 i d hr)];exact g4
  ·have hlt:=hH.df_lt hDD;rw [hk D fun hin=>by have:=fresh D hin;omega,hfr.keep D hlt (.inr (hH.df D hDD).2.1)];exact (hH.df D hDD).1
  ·have hlt:=hH.df_lt hDD;rcases hfr.news i e he with ⟨j,e',hj,hje⟩ | hge
   ·rw [←hje];exact (hH.df D hDD).2.1 j e' hj
   ·omega
  ·have hlt:=hH.df_lt hDD;rcases hfr.newro i D d hr with h1 | ⟨j,e,he,heb⟩ | h1
   ·exact (hH.df D hDD).2.2 i d h1
   ·exact (hH.df D hDD).2.1 j e he heb
   ·omega
 ·exact ⟨fun i x hx=>by
   have hlt:i<ρ.rw.length:=(zQ.1 hx).1;show ρ'.rw[i]?=_
   rw [hp i (by rw [hH.len] at hlt;omega)];exact hx,hfr.ro,fun _ h=>h⟩
 ·exact ⟨ho2.trans hfr.os,ht.trans hfr.tape,hou.trans hfr.output,by rw [hs];exact hfr.size,
   fun b hb hn=>(hk b fun hin=>by have:=fresh b hin;omega).trans (hfr.keep b hb hn),hfr.news,hfr.ro,hfr.newro,fun _ h=>.inl h⟩
theorem cO {C : A0} {rt : Nat} {f : FuncId} {fn : Func} {c : Code} {args : List AV} {H : Hp} {K : AV → Hp → Prop} {Kp : Hp → Prop} (hf : C.P.funcs[f]? = some fn) (hb : fn.body = some c) (hn : (fn.name == "runtime.NumGoroutine") = false)
  (h:∀ (ρ:Env) (a:Act) (w:World),B1 C ρ H w→D0 ρ (N3 fn args) a→c.wpIn (W none) 0 C.P (Z1 C H.length ρ w (XP rt (N0 C fn K) Kp)) a w):ACallsX C rt f args H K Kp:=by
 refine ⟨⟨fn,c,hf,hb,hn⟩,fun ρ w cargs hH hv=>callsIn_wide.1 (callsIn_of_wp_marks (n:=0) hf hb trivial (wpIn_mono (h ⟨ρ.rw,ρ.ro,[]⟩ _ w (hH.setDfs [] (fun _ h=>by simp at h)) (Sh (VRs.sub (Env.sub_dfs ρ []) _ _ hv))) ?_))⟩;rintro e a' w' ⟨ρ',F',H',hX,hp,hH',hF',hfr⟩;obtain ⟨ds,hds,hnd,hD⟩:=hF'.nod;rcases hX with ⟨ae,rfl,hQ⟩ | ⟨rfl,hQ⟩
 ·have fin:Up (On C fn F' H') (fun v=>K v H')→LeavesInM Fence.wide 0 C.P fn a'.tmps (fun e w'=>(∃ v cv ρ' H',e=.returned cv∧K v H'∧ρ.le ρ'∧B1 C ρ' H' w'∧VR ρ' v cv∧Frm ρ w ρ' w')∨(e=.panicked (PX rt)∧∃ ρ' H',Kp H'∧ρ.le ρ'∧B1 C ρ' H' w'∧Frm ρ w ρ' w')) a'.defers .returning w':=by
   intro ho;rw [hds];refine Mm ds w' hnd (fun D h=>(hH'.df D (hD D h)).1) fun w'' hs hk ho2 ht hou=>?_;obtain ⟨v,h1,h2⟩:=U4 ho;obtain ⟨q1,q2,q3⟩:=aD hH (zA1 _) hp hH' hfr hD hs hk ho2 ht hou;have hF'':D0 ⟨ρ'.rw,ρ'.ro,ρ.dfs⟩ F' ⟨a'.tmps,[]⟩:=⟨⟨[],rfl,List.nodup_nil,fun _ h=>by simp at h⟩,hF'.len,fun i v hv=>VR.sub (Env.sub_dfs ρ' ρ.dfs) v _ (hF'.val i v hv)⟩;obtain ⟨cv,g1,g2⟩:=Em q1 hF'' h1;exact ⟨cv,g1,.inl ⟨v,cv,_,H',rfl,h2,q2,q1,g2,q3⟩⟩
  cases ae with
  | normal=>exact fin hQ
  | ret=>exact fin hQ
  | exit i=>exact hQ.elim
 ·show LeavesInM Fence.wide 0 C.P fn a'.tmps _ a'.defers (.panicking (PX rt)) w';rw [hds,←List.append_nil (ds.map _)];refine Kl (by simp) ds w' hnd (fun D h=>(hH'.df D (hD D h)).1) fun w'' hs hk ho2 ht hou=>?_;obtain ⟨q1,q2,q3⟩:=aD hH (zA1 _) hp hH' hfr hD hs hk ho2 ht hou;exact .inr ⟨rfl,_,H',hQ,q2,q1,q3⟩
def Dj (S:List Nat) (d:Option Tmp):Bool:=match d with | none=>true | some t=>!(S.any (Nat.beq t))
def aC2 (P:Program) (rt k:Nat) (ops:List Oper):Prop:=∀ (r:Option Nat) (Q:Exit→Act→World→Prop) (a:Act) (w:World),k<a.tmps.size→∀ S:List Nat,(ops.all fun o=>Dj S o.dst)=true→(∀ a':Act,a'.defers=a.defers→a'.tmps.size=a.tmps.size→(∀ t∈S,a'.tmps.getD t undef=a.tmps.getD t undef)→Q (.panic (PX rt)) a' w)→wpListIn (W r) 0 P ops.toArray Q ops a w
def pJ (C:A0) (rt:Nat) (f:FuncId) (args:List EV) (H:DHp) (l:List Nat):Prop:=
 ACallsX C rt f (vVs C.G args) (B7 C.G H) (fun _ _=>False) fun H'=>H'=Bd (B7 C.G H) l
theorem gL {G:Nat→List AV}:∀ (l:List Nat) (H:DHp),B7 G (Bd H l)=Bd (B7 G H) l
 | [],H=>rfl
 | j::l,H=>by
  show B7 G (Bd (H.set j none) l)=Bd ((B7 G H).set j none) l;rw [gL l];congr 1;simp [B7,List.map_set]
structure Xw (C:A0) (Z:Ha):Prop where
 g:L6 C Z.K []
 ps:∀ f args H c b v hs hp,Z.ps f args H=some (c,b,v,hs,hp)→vB C.G c=true→(vB C.G b=true→E0 C f args H v hs)∧(vB C.G b=false→pJ C Z.rt f args H hp)
 lp:∀ F H b,Z.lp F H=some b→vB C.G b=true→∀ (m:Nat) (ρ:Env) (a:Act) (w:World),m≤Z.K.M→m≤(B7 C.G H).length→B1 C ρ (B7 C.G H) w→D0 ρ (vVs C.G F) a→(Code.loop Z.lc).wpIn (W none) 0 C.P (Z1 C m ρ w (XP Z.rt (fun _ _ _=>False) fun _=>True)) a w
 pan:∀ ops k,panRg ops=some (Z.rt,k)→aC2 C.P Z.rt k ops
def Nx (S:List Nat) (a1 a:Act):Prop:=∀ t∈S,a.tmps.getD t undef=a1.tmps.getD t undef
def Lq (T:List Deferred) (S:List Nat) (a1:Act) (Q:Exit→Act→World→Prop):Exit→Act→World→Prop:=fun e a w=>∃ a0,a=tl T a0∧Nx S a1 a0∧Q e a0 w
theorem Rz {S:List Nat} {a1 a:Act} {d:Option Tmp} {v:Value} (h:Nx S a1 a) (hd:Dj S d=true):Nx S a1 (a.put d v):=by
 cases d with
 | none=>exact h
 | some d=>
  intro t ht;rw [←h t ht]
  have hne:d≠t:=fun e=>by
   subst e;simp only [Dj,Bool.not_eq_true',List.any_eq_false] at hd;exact hd d ht (zA3 d)
  simp only [Act.put,Array.getD_eq_getD_getElem?];rw [Array.getElem?_setIfInBounds_ne hne]
def Gk (S:List Nat):jH→Bool
 | .ops _ l=>l.all fun o=>Dj S o.dst
 | .dr _ _ _=>true
 | .code c=>okC S c
where okC (S:List Nat):Code→Bool
 | .region _ ops draw=>S.isEmpty||(!draw&&ops.toList.all fun o=>Dj S o.dst)
 | .seq x y=>okC S x&&okC S y
 | .cond _ x y=>okC S x&&okC S y
 | .block _ c=>okC S c
 | _=>true
def LpZ (Z:Ha):jH→Prop
 | .code c=>∀ b∈B5 c,b=Z.lc
 | _=>True
def SndP (C:A0) (rt:Nat) (r:Option Nat) (T:List Deferred) (S:List Nat) (m:Nat) (wk:jH) (F:Fr) (H:Hp) (Q:Post) (Qp:Hp→Prop):Prop:=
 match wk with
 | .code c=>∀ (ρ:Env) (a:Act) (w:World),m≤H.length→B1 C ρ H w→D0 ρ F a→c.wpIn (W r) 0 C.P (Lq T S a (Z1 C m ρ w (XP rt Q Qp))) (tl T a) w
 | .ops all l=>∀ (a1:Act) (ρ:Env) (a:Act) (w:World),Nx S a1 a→m≤H.length→B1 C ρ H w→D0 ρ F a→wpListIn (W r) 0 C.P all.toArray (Lq T S a1 (Z1 C m ρ w (XP rt Q Qp))) l (tl T a) w
 | .dr _ _ _=>True
theorem iG (d:Option Tmp):Dj [] d=true:=by cases d<;>rfl
theorem aI9 (c:Code):Gk.okC [] c=true:=by
 induction c<;>simp_all [Gk.okC]
theorem Ur (c:Code):Gk [] (.code c)=true:=aI9 c
theorem Iv (a:Act):tl [] a=a:=by cases a;simp [tl]
theorem Aq {C:A0} {r:Option Nat} {lps:List Code} (g0:Fl (K0 C) lps) {T:List Deferred} {S:List Nat} {all:List Oper} {o:Oper} {l:List Oper} {F:Fr} {H H':Hp} {tr:Tr} {v:AV} {m:Nat} {X:Exit→Fr→Hp→Prop} (hd:Dj S o.dst=true) (hst:St (K0 C) all o F H tr v H')
  (hr:∀ (a1:Act) (ρ:Env) (a:Act) (w:World),Nx S a1 a→m≤H'.length→B1 C ρ H' w→D0 ρ (put F o.dst v) a→wpListIn (W r) 0 C.P all.toArray (Lq T S a1 (Z1 C m ρ w X)) l (tl T a) w) :
  ∀ (a1:Act) (ρ:Env) (a:Act) (w:World),Nx S a1 a→m≤H.length→B1 C ρ H w→D0 ρ F a→wpListIn (W r) 0 C.P all.toArray (Lq T S a1 (Z1 C m ρ w X)) (o::l) (tl T a) w:=by
 intro a1 ρ a w hkp hm hH hF
 have key:=St.sound g0 hst hH hF (r:=r) (next:=fun a' w'=>wpListIn (W r) 0 C.P all.toArray (Lq T S a1 (Z1 C m ρ w X)) l (tl T a') w') (Q:=fun e a' w'=>Lq T S a1 (Z1 C m ρ w X) e (tl T a') w') (fun ρ' cv w' h1 h2 h3 h4=>by
  have hp:=K9.of_le hH h3 hm
  exact N6 (fun e a w ⟨a0,e0,e1,h⟩=>⟨a0,e0,e1,Z1.link hp h4 h⟩) l _ _ (hr a1 ρ' _ w' (Rz hkp hd) (T3 hm hH h1 hp) h1 ((hF.mono h3).put _ _ _ h2)))
 unfold wpListIn;by_cases hw:Region.wanted o (yielded all.toArray a.tmps)=true
 ·rw [if_pos hw] at key;rw [if_pos (show Region.wanted o (yielded all.toArray (tl T a).tmps)=true from hw)];exact Oper.wpIn_tail T (fun _ _ h=>h) (fun _ _ _ h=>h) key
 ·rw [if_neg hw] at key;rw [if_neg (show ¬Region.wanted o (yielded all.toArray (tl T a).tmps)=true from hw)];refine ⟨key.1,?_⟩;rw [Tq];exact key.2
theorem Sq {C:A0} {r:Option Nat} {rt:Nat} {T:List Deferred} {S:List Nat} {all:List Oper} {o:Oper} {l:List Oper} {F:Fr} {H:Hp} {m:Nat} {Q:Post} {Qp:Hp→Prop} {f:FuncId} {args:List AV} {K:AV→Hp→Prop} {Kp:Hp→Prop} (hd:Dj S o.dst=true) (hw:wantA all o.guard F=some true) (hc:callOp F o.op=some (f,args)) (hcall:ACallsX C rt f args H K Kp)
  (hp:∀ H',Kp H'→Qp H') (hr:∀ v H',K v H'→∀ (a1:Act) (ρ:Env) (a:Act) (w:World),Nx S a1 a→m≤H'.length→B1 C ρ H' w→D0 ρ (put F o.dst v) a→wpListIn (W r) 0 C.P all.toArray (Lq T S a1 (Z1 C m ρ w (XP rt Q Qp))) l (tl T a) w) :
  ∀ (a1:Act) (ρ:Env) (a:Act) (w:World),Nx S a1 a→m≤H.length→B1 C ρ H w→D0 ρ F a→wpListIn (W r) 0 C.P all.toArray (Lq T S a1 (Z1 C m ρ w (XP rt Q Qp))) (o::l) (tl T a) w:=by
 intro a1 ρ a w hkp hm hH hF;unfold wpListIn;rw [if_pos (show Region.wanted o (yielded all.toArray (tl T a).tmps)=true from S7 hF hw)];obtain ⟨cargs,hv,h1⟩:=Iq (w:=w) hF hc hcall.1;refine U0 (Wv hc) ?_;rw [qR,h1];refine ⟨fun h=>by simp [W,Fence.wide] at h,Jk.2 ((hcall.2 ρ w cargs hH hv).mono ?_)⟩;rintro e w' (⟨v,cv,ρ',H',rfl,g1,g2,g3,g4,g5⟩ | ⟨rfl,ρ',H',g1,g2,g3,g5⟩)
 ·have hpn:=K9.of_le hH g2 hm;show wpListIn _ _ _ _ _ l ((tl T a).put o.dst cv) w';rw [Tq];exact N6 (fun e a w ⟨a0,e0,e1,h⟩=>⟨a0,e0,e1,Z1.link hpn g5 h⟩) l _ _ (hr v H' g1 a1 ρ' _ w' (Rz hkp hd) (T3 hm hH g3 hpn) g3 ((hF.mono g2).put _ _ _ g4))
 ·exact ⟨a,rfl,hkp,ρ',F,H',.inr ⟨rfl,hp _ g1⟩,K9.of_le hH g2 hm,g3,hF.mono g2,g5⟩
theorem ACallsX.of {C:A0} {rt:Nat} {f:FuncId} {args:List AV} {H:Hp} {K:AV→Hp→Prop} {Kp:Hp→Prop} (h:ACalls C f args H K):ACallsX C rt f args H K Kp:=
 ⟨h.1,fun ρ w cargs h1 h2=>(h.2 ρ w cargs h1 h2).mono fun _ _ h=>.inl h⟩
theorem iX {C:A0} {Z:Ha} (hZ:Xw C Z):∀ n (r:Option Nat) (T:List Deferred) (S:List Nat) m wk F H fs q (Q:Post) (Qp:Hp→Prop) (QQ:Ex→List AV→Hp→Prop) (RR:AV→Hp→Prop),
    (∀ e F H fs,vT C.G QQ RR (q e F H fs)→Q e (vVs C.G F) (B7 C.G H))→(∀ H,RR pmV H→Qp H)→((∀ F H,Z.lp F H=none)∨(r=none∧T=[]∧S=[]∧(∀ H,Qp H)∧LpZ Z wk))→Gk S wk=true→vT C.G QQ RR (Vm Z n m wk F H fs q)→SndP C Z.rt r T S m wk (vVs C.G F) (B7 C.G H) Q Qp:=by
  have hK:=hZ.g;have hG:C.G=C.G:=rfl;have hP:=hK.hP;intro n
  induction n with
  | zero => intro r T S m wk F H fs q Q Qp QQ RR _ _ _ _ h; exact h.elim
  | succ n ih=>
    intro r T S m wk F H fs q Q Qp QQ RR hq hR hL hS h;have g0:=Lg (C:=C) hK.mix [];cases wk with
    | dr all l trs => trivial
    | ops all l=>
      have hLo:∀ l',(∀ F H,Z.lp F H=none)∨(r=none∧T=[]∧S=[]∧(∀ H,Qp H)∧LpZ Z (.ops all l')):=fun _=>hL.imp (fun h=>h) fun h=>⟨h.1,h.2.1,h.2.2.1,h.2.2.2.1,trivial⟩;change vT C.G QQ RR (Yp Z (Vm Z n) m all l F H fs q) at h;cases l with
      | nil=>exact fun a1 ρ a w hkp hm hH hF=>⟨a,rfl,hkp,ρ,_,_,.inl ⟨.normal,rfl,hq _ _ _ _ h⟩,K9.refl m ρ,hH,hF,Frm.refl ρ w⟩
      | cons o l=>
        obtain ⟨dst,op,ty,pos,after,guard⟩:=o;have hS':Dj S dst=true∧Gk S (.ops all l)=true:=by simpa only [Gk,List.all_cons,zN] using hS
        obtain ⟨hd,hSl⟩:=hS';simp only [Yp] at h;obtain ⟨F',fs',hFe,_,h⟩:=Zn h;rw [← hFe];rw [← hFe] at h
        have plain:wantA all guard (vVs C.G F')=some true→vT C.G QQ RR (Hj Z.K (Vm Z n) m all l dst op F' H fs' q)→SndP C Z.rt r T S m (.ops all (⟨dst,op,ty,pos,after,guard⟩::l)) (vVs C.G F') (B7 C.G H) Q Qp:=by
          intro hw h;unfold Hj at h;rw [hP] at h;split at h
          · rename_i hk;obtain ⟨c,v,h1,h2,h3⟩:=Cf h
            have:=ih r T S m (.ops all l) _ _ _ _ _ _ _ _ hq hR (hLo l) hSl h3
            rw [N1] at this;exact Aq g0 (o:=⟨dst,op,ty,pos,after,guard⟩) hd (.pure hw hk (eK _ _ h1 h2)) this
          · rename_i hk;split at h
            · rename_i o ho;obtain ⟨fs2,v,h1,h3⟩:=fM hG (o:=o) ho h
              have:=ih r T S m (.ops all l) _ _ _ _ _ _ _ _ hq hR (hLo l) hSl h3
              rw [N1] at this;exact Aq g0 (o:=⟨dst,op,ty,pos,after,guard⟩) hd (.read hw hk h1) this
            · obtain ⟨c,v,h1,h2,h3⟩:=Cf h
              have:=ih r T S m (.ops all l) _ _ _ _ _ _ _ _ hq hR (hLo l) hSl h3
              rw [N1] at this;exact Aq g0 (o:=⟨dst,op,ty,pos,after,guard⟩) hd (.read hw hk (eD hG _ _ h1 h2)) this
          · rename_i hk;split at h
            · rename_i c v x hx;obtain ⟨h2,h3⟩:=Q6 c h
              have:=ih r T S m (.ops all l) _ _ _ _ _ _ _ _ hq hR (hLo l) hSl h3
              rw [N1,Rb] at this;exact Aq g0 (o:=⟨dst,op,ty,pos,after,guard⟩) hd (.write hw hk (Yk hG _ _ _ hx h2)) this
            · split at h
              · rename_i c hs hx;obtain ⟨h2,h3⟩:=Q6 c h;obtain ⟨hp,e1,e2⟩:=gH hG hx h2
                have:=ih r T S m (.ops all l) _ _ _ _ _ _ _ _ hq hR (hLo l) hSl h3
                rw [N1,V5,←e2] at this;simp only [vV,vVs] at this;exact Aq g0 (o:=⟨dst,op,ty,pos,after,guard⟩) hd (.write hw hk e1) this
              · exact h.elim
          · rename_i hk;split at h
            · rename_i f args hc;have hc:=Xs (G:=C.G) hc;split at h
              · rename_i hi;split at h
                · rename_i fn hfn;split at h
                  · rename_i c hb;split at h
                    · exact h.elim
                    · rename_i hnm
                      have hbody:=ih none [] [] H.length (.code c) (Cx fn args) H fs' _ (N0 C fn fun v' H'=>∃ v H1 fs,v'=vV C.G v∧H'=B7 C.G H1∧vT C.G QQ RR (Vm Z n m (.ops all l) (K4 F' dst v) H1 fs q)) Qp QQ RR (fun e F1 H1 fs1 ht=>by
                        unfold Mb at ht;split at ht
                        · exact ht.elim
                        · rename_i hne;obtain ⟨cc,v,q1,q2,q3⟩:=Cf ht;have e1:=aQ hG _ _ q1 q2;cases e with
                          | exit i=>exact absurd rfl (hne i)
                          | normal=>simp only [N0];rw [e1];exact ⟨v,H1,fs1,rfl,rfl,q3⟩
                          | ret=>simp only [N0];rw [e1];exact ⟨v,H1,fs1,rfl,rfl,q3⟩) hR (hL.imp (fun h=>h) fun h=>⟨rfl,rfl,rfl,h.2.2.2.1,fun b hb'=>by have:=hK.inl f fn c hi hfn hb b hb';cases this⟩) (Ur _) h
                      rw [Mq] at hbody;rw [←E3 (G:=C.G) H] at hbody
                      have hcall:=cO (rt:=Z.rt) (f:=f) (C:=C) (fn:=fn) (Kp:=Qp) (K:=fun v' H'=>∃ v H1 fs,v'=vV C.G v∧H'=B7 C.G H1∧vT C.G QQ RR (Vm Z n m (.ops all l) (K4 F' dst v) H1 fs q)) hfn hb hnm (fun ρ a w hH hF=>by
                        have:=hbody ρ a w (zA1 _) hH hF
                        rw [Iv] at this;refine Code.wpIn_mono ?_ this;rintro e _ w' ⟨a0,rfl,_,h⟩
                        rw [Iv];exact h)
                      refine Sq (o:=⟨dst,op,ty,pos,after,guard⟩) hd hw hc hcall (fun _ h=>h) ?_;rintro v' H' ⟨v,H1,fs1,rfl,rfl,g1⟩
                      have:=ih r T S m (.ops all l) _ _ _ _ _ _ _ _ hq hR (hLo l) hSl g1
                      rw [N1] at this;exact this
                  · exact h.elim
                · exact h.elim
              · split at h
                · rename_i o ho;obtain ⟨fs1,v,hs,h1,h2⟩:=V7 o fs' h (hK.calls _ _ _ _ ho)
                  have:=ih r T S m (.ops all l) _ _ _ _ _ _ _ _ hq hR (hLo l) hSl h2
                  rw [N1,V5] at this;exact Aq g0 (o:=⟨dst,op,ty,pos,after,guard⟩) hd (.call hw hk hc h1) this
                · exact h.elim
            · split at h
              · rename_i i args hy;have hy:=kT (G:=C.G) hy;split at h
                · rename_i o ho;obtain ⟨fs1,v,hs,h1,h2⟩:=V7 o fs' h (hK.ylds _ _ _ _ ho)
                  have:=ih r T S m (.ops all l) _ _ _ _ _ _ _ _ hq hR (hLo l) hSl h2
                  rw [N1,V5] at this;exact Aq g0 (o:=⟨dst,op,ty,pos,after,guard⟩) hd (.yld hw hy h1) this
                · exact h.elim
              · exact h.elim
        rcases h with ⟨hw,h⟩ | ⟨hw,h⟩
        · unfold qW at h;split at h
          · split at h
            · rename_i f args hc;split at h
              · rename_i c b v hs hp hps;have hc:=Xs (G:=C.G) hc;obtain ⟨h1,h2⟩:=Q6 c h;obtain ⟨k1,k2⟩:=hZ.ps _ _ _ _ _ _ _ _ hps h1;rcases V6 b fs' _ _ h2 with ⟨e1,fs1,_,h3⟩ | ⟨e1,fs1,_,h3⟩
                · have:=ih r T S m (.ops all l) _ _ _ _ _ _ _ _ hq hR (hLo l) hSl h3
                  rw [N1,V5] at this;refine Sq (o:=⟨dst,op,ty,pos,after,guard⟩) (Kp:=fun _=>False) hd hw hc (ACallsX.of (k1 e1)) (fun _ h=>h.elim) ?_;rintro v' H' ⟨rfl,rfl⟩;exact this
                · have h3:RR pmV (B7 C.G (Bd H hp)):=h3;rw [gL] at h3;exact Sq (o:=⟨dst,op,ty,pos,after,guard⟩) hd hw hc (k2 e1) (fun H' e=>by rw [e];exact hR _ h3) (fun _ _ h=>h.elim)
              · exact plain hw h
            · exact h.elim
          · exact plain hw h
        · have:=ih r T S m (.ops all l) _ _ _ _ _ _ _ _ hq hR (hLo l) hSl h
          rw [N1] at this;simp only [vV,vVs] at this;exact Aq g0 (o:=⟨dst,op,ty,pos,after,guard⟩) hd (.skip hw) this
    | code c=>
      change vT C.G QQ RR (Ix Z n (Vm Z n) m c F H fs q) at h;intro ρ a w hm hH hF;have here:∀ ae,Q ae (vVs C.G F) (B7 C.G H)→Lq T S a (Z1 C m ρ w (XP Z.rt Q Qp)) (Pg ae) (tl T a) w:=fun ae hq=>⟨a,rfl,fun _ _=>rfl,ρ,_,_,.inl ⟨ae,rfl,hq⟩,K9.refl m ρ,hH,hF,Frm.refl ρ w⟩;cases c with
      | skip => exact wpIn_skip (here .normal (hq _ _ _ _ h))
      | region id ops draw=>
        cases draw with
        | true=>
          have hnil:S=[]:=by
            have:(S.isEmpty||(!true&&ops.toList.all fun o=>Dj S o.dst))=true:=hS
            simpa using this
          obtain ⟨trs',F',H',g1,g2,g3⟩:=Sn hK n m (.dr ops.toList ops.toList []) F H fs q Q QQ RR hq trivial h
          have:=zZ (id:=id) (r:=r) (Q:=AP C m ρ w Q) (Q':=Lq T S a (Z1 C m ρ w (XP Z.rt Q Qp))) (lps:=[]) g0 T g1 (by simpa using g2) hH hF (fun e a' w h=>⟨a',rfl,(by rw [hnil];intro t ht;cases ht),Z1.of h⟩) fun ρ' a' w' q1 q2 q3 q4=>⟨.normal,ρ',F',H',rfl,g3,K9.of_le hH q3 hm,q1,q2,q4⟩
          rwa [Array.toArray_toList] at this
        | false=>
          simp only [Ix] at h;split at h
          · rename_i t k hp;split at h
            · rename_i ht;obtain ⟨ht,hk⟩:=Bool.and_eq_true_iff.1 ht;have ht:=yV ht;subst ht
              have hk:k<(tl T a).tmps.size:=by
                have e1:=hF.len;rw [P6] at e1;have e2:k+1≤F.length:=by simpa [Nat.blt] using hk
                show k<a.tmps.size;omega
              have h:RR pmV (B7 C.G H):=h;refine wpIn_region_list ?_
              have:=hZ.pan _ _ hp r (Lq T S a (Z1 C m ρ w (XP Z.rt Q Qp))) (tl T a) w hk S (by
                rcases Bool.or_eq_true_iff.1 (show (S.isEmpty||(!false&&ops.toList.all fun o=>Dj S o.dst))=true from hS) with h1 | h1
                · have:S=[]:=by simpa using h1
                  subst this;exact xM.2 fun o _=>iG _
                · simpa only [Bool.not_false,Bool.true_and] using h1) (fun a' e1 e2 e3=>by
                refine ⟨⟨a'.tmps,a.defers⟩,?_,e3,ρ,List.replicate a'.tmps.size .undef,_,.inr ⟨rfl,hR _ h⟩,K9.refl m ρ,hH,?_,Frm.refl ρ w⟩
                · cases a';simp only [tl] at e1 ⊢;rw [e1]
                · refine ⟨hF.nod,by simp,fun i v hi=>?_⟩;simp only [List.getElem?_replicate] at hi;split at hi
                  · simp at hi;subst hi;simp [VR]
                  · simp at hi)
              rwa [Array.toArray_toList] at this
            · exact h.elim
          · have:=ih r T S m (.ops ops.toList ops.toList) F H fs q Q Qp QQ RR hq hR (hL.imp (fun h=>h) fun h=>⟨h.1,h.2.1,h.2.2.1,h.2.2.2.1,trivial⟩) (by
              rcases Bool.or_eq_true_iff.1 (show (S.isEmpty||(!false&&ops.toList.all fun o=>Dj S o.dst))=true from hS) with h1 | h1
              · have:S=[]:=by simpa using h1
                subst this;exact xM.2 fun o _=>iG _
              · exact (show (ops.toList.all fun o=>Dj S o.dst)=true by simpa only [Bool.not_false,Bool.true_and] using h1)) h a ρ a w (fun _ _=>rfl) hm hH hF
            rw [Array.toArray_toList] at this;exact wpIn_region_list this
      | seq x y=>
        have hLx:=hL.imp (fun h=>h) fun h:r=none∧T=[]∧S=[]∧(∀ H,Qp H)∧LpZ Z (.code (Code.seq x y))=>(⟨h.1,h.2.1,h.2.2.1,h.2.2.2.1,fun b hb=>h.2.2.2.2 b (List.mem_append.2 (.inl hb))⟩:r=none∧T=[]∧S=[]∧(∀ H,Qp H)∧LpZ Z (.code x));have hLy:=hL.imp (fun h=>h) fun h:r=none∧T=[]∧S=[]∧(∀ H,Qp H)∧LpZ Z (.code (Code.seq x y))=>(⟨h.1,h.2.1,h.2.2.1,h.2.2.2.1,fun b hb=>h.2.2.2.2 b (List.mem_append.2 (.inr hb))⟩:r=none∧T=[]∧S=[]∧(∀ H,Qp H)∧LpZ Z (.code y));obtain ⟨hSx,hSy⟩:=Bool.and_eq_true_iff.1 (show (Gk.okC S x&&Gk.okC S y)=true from hS)
        have key:=ih r T S m (.code x) F H fs (aF (Vm Z n) m y q) (fun e F1 H1=>match e with
          | .normal=>∀ ρ' a' w',m≤H1.length→B1 C ρ' H1 w'→D0 ρ' F1 a'→y.wpIn (W r) 0 C.P (Lq T S a' (Z1 C m ρ' w' (XP Z.rt Q Qp))) (tl T a') w'
          | e=>Q e F1 H1) Qp QQ RR (fun e F1 H1 fs1 ht=>by
            cases e with
            | normal=>exact fun ρ' a' w' q1 q2 q3=>ih r T S m (.code y) F1 H1 fs1 q Q Qp QQ RR hq hR hLy hSy ht ρ' a' w' q1 q2 q3
            | exit i=>exact hq _ _ _ _ ht
            | ret=>exact hq _ _ _ _ ht) hR hLx hSx h ρ a w hm hH hF
        refine wpIn_seq (Code.wpIn_mono ?_ key);rintro e _ w' ⟨a',rfl,hkp,ρ',F',H',hX,h3,h4,h5,h6⟩;rcases hX with ⟨ae,rfl,h2⟩ | ⟨rfl,h2⟩
        · cases ae with
          | normal=>exact Code.wpIn_mono (fun e a w ⟨a0,e0,e1,h⟩=>⟨a0,e0,fun t ht=>(e1 t ht).trans (hkp t ht),Z1.link h3 h6 h⟩) (h2 ρ' a' w' (T3 hm hH h4 h3) h4 h5)
          | exit i=>exact ⟨a',rfl,hkp,ρ',F',H',.inl ⟨.exit i,rfl,h2⟩,h3,h4,h5,h6⟩
          | ret=>exact ⟨a',rfl,hkp,ρ',F',H',.inl ⟨.ret,rfl,h2⟩,h3,h4,h5,h6⟩
        · exact ⟨a',rfl,hkp,ρ',F',H',.inr ⟨rfl,h2⟩,h3,h4,h5,h6⟩
      | cond c x y=>
        have hLx:=hL.imp (fun h=>h) fun h:r=none∧T=[]∧S=[]∧(∀ H,Qp H)∧LpZ Z (.code (Code.cond c x y))=>(⟨h.1,h.2.1,h.2.2.1,h.2.2.2.1,fun b hb=>h.2.2.2.2 b (List.mem_append.2 (.inl hb))⟩:r=none∧T=[]∧S=[]∧(∀ H,Qp H)∧LpZ Z (.code x));have hLy:=hL.imp (fun h=>h) fun h:r=none∧T=[]∧S=[]∧(∀ H,Qp H)∧LpZ Z (.code (Code.cond c x y))=>(⟨h.1,h.2.1,h.2.2.1,h.2.2.2.1,fun b hb=>h.2.2.2.2 b (List.mem_append.2 (.inr hb))⟩:r=none∧T=[]∧S=[]∧(∀ H,Qp H)∧LpZ Z (.code y));obtain ⟨hSx,hSy⟩:=Bool.and_eq_true_iff.1 (show (Gk.okC S x&&Gk.okC S y)=true from hS);simp only [Ix,Iw] at h;split at h
        · rename_i t;rw [Ff] at h;split at h
          · rename_i b hb;have hv:=hF.at t;rw [Z2,hb] at hv;simp only [vV,VR] at hv
            have hs:∀ x:Bool,vB C.G b=x→vVs C.G (K4 F (some t) (.bool (.lit x)))=vVs C.G F:=fun x hx=>by
              rw [N1];simp only [put,vV,vB];refine W2 ?_ (by simp);rw [Z2,hb];simp only [vV,hx]
            rcases V6 b fs _ _ h with ⟨h1,fs1,_,h2⟩ | ⟨h1,fs1,_,h2⟩
            · rw [h1] at hv
              have:=ih r T S m (.code x) _ H fs1 q Q Qp QQ RR hq hR hLx hSx h2 ρ a w hm hH
              rw [hs _ h1] at this;exact wpIn_cond_true hv (this hF)
            · rw [h1] at hv
              have:=ih r T S m (.code y) _ H fs1 q Q Qp QQ RR hq hR hLy hSy h2 ρ a w hm hH
              rw [hs _ h1] at this;exact wpIn_cond_false hv (this hF)
          · exact h.elim
        · rename_i b;cases b with
          | true=>exact wpIn_cond_true rfl (ih r T S m (.code x) F H fs q Q Qp QQ RR hq hR hLx hSx h ρ a w hm hH hF)
          | false=>exact wpIn_cond_false rfl (ih r T S m (.code y) F H fs q Q Qp QQ RR hq hR hLy hSy h ρ a w hm hH hF)
        · exact h.elim
      | block id c=>
        have key:=ih r T S m (.code c) F H fs (Mu id q) (T0 id Q) Qp QQ RR (fun e F1 H1 fs1 ht=>by
          cases e with
          | normal=>exact hq _ _ _ _ ht
          | ret=>exact hq _ _ _ _ ht
          | exit i=>
            simp only [Mu] at ht;simp only [T0];cases hb:(i==id) with
            | true=>rw [hb] at ht;exact hq _ _ _ _ ht
            | false=>rw [hb] at ht;exact hq _ _ _ _ ht) hR (hL.imp (fun h=>h) fun h=>⟨h.1,h.2.1,h.2.2.1,h.2.2.2.1,fun b hb=>h.2.2.2.2 b hb⟩) hS h ρ a w hm hH hF
        refine wpIn_block (Code.wpIn_mono ?_ key);rintro e _ w' ⟨a',rfl,hkp,ρ',F',H',hX,h3⟩;rcases hX with ⟨ae,rfl,h2⟩ | ⟨rfl,h2⟩
        · cases ae with
          | normal=>exact ⟨a',rfl,hkp,ρ',F',H',.inl ⟨.normal,rfl,h2⟩,h3⟩
          | ret=>exact ⟨a',rfl,hkp,ρ',F',H',.inl ⟨.ret,rfl,h2⟩,h3⟩
          | exit i=>
            simp only [T0] at h2;show (if i=id then Lq T S a (Z1 C m ρ w (XP Z.rt Q Qp)) .normal (tl T a') w' else Lq T S a (Z1 C m ρ w (XP Z.rt Q Qp)) (.exit i) (tl T a') w');split at h2
            · rename_i hi;rw [if_pos (by simpa using hi)];exact ⟨a',rfl,hkp,ρ',F',H',.inl ⟨.normal,rfl,h2⟩,h3⟩
            · rename_i hi;rw [if_neg (by simpa using hi)];exact ⟨a',rfl,hkp,ρ',F',H',.inl ⟨.exit i,rfl,h2⟩,h3⟩
        · exact ⟨a',rfl,hkp,ρ',F',H',.inr ⟨rfl,h2⟩,h3⟩
      | loop c=>
        simp only [Ix] at h;split at h
        case h_2=>exact h.elim
        rename_i hM;split at h
        · rename_i b hb;obtain ⟨h1,_⟩:=Q6 b h;rcases hL with hL | ⟨rfl,rfl,rfl,hQ,hlc⟩
          · rw [hL] at hb;cases hb
          · rw [Iv,hlc c (List.mem_cons_self ..)];refine Code.wpIn_mono ?_ (hZ.lp _ _ _ hb h1 m ρ a w (rR hM) hm hH hF);rintro e a' w' ⟨ρ',F',H',hX,h3⟩;rcases hX with ⟨_,_,h2⟩ | ⟨rfl,_⟩
            · exact h2.elim
            · exact ⟨a',(Iv a').symm,(fun t ht=>by cases ht),ρ',F',H',.inr ⟨rfl,hQ _⟩,h3⟩
        · exact h.elim
      | exit i=>exact wpIn_exit (here (.exit i) (hq _ _ _ _ h))
      | ret=>exact wpIn_ret (here .ret (hq _ _ _ _ h))
      | _=>exact h.elim
section
variable {C:A0}
def AWpP (C:A0) (rt m:Nat) (c:Code) (F:Fr) (H:Hp) (Q:Post) (Qp:Hp→Prop):Prop:=
 ∀ (r:Option Nat),Cb r c=true→∀ (ρ:Env) (a:Act) (w:World),m≤H.length→B1 C ρ H w→D0 ρ F a→c.wpIn (W r) 0 C.P (Z1 C m ρ w (XP rt Q Qp)) a w
theorem AWpP.of {rt m:Nat} {c:Code} {F:Fr} {H:Hp} {Q:Post} {Qp:Hp→Prop} (h:AWp C m c F H Q):AWpP C rt m c F H Q Qp:=
 fun r hr ρ a w _ hH hF=>Code.wpIn_mono (fun _ _ _ h=>Z1.of h) (h r hr ρ a w hH hF)
theorem AWpP.all {rt m:Nat} {c:Code} {F:Fr} {H:Hp} {Q:Post} {Qp:Hp→Prop} (h:AWpP C rt m c F H Q Qp) (hm:m≤H.length) (hp:∀ H,¬Qp H):AWp C m c F H Q:=by
 intro r hr ρ a w hH hF;refine Code.wpIn_mono ?_ (h r hr ρ a w hm hH hF);rintro e a' w' ⟨ρ',F',H',hX,h3⟩;rcases hX with ⟨ae,rfl,h2⟩ | ⟨_,h2⟩
 ·exact ⟨ae,ρ',F',H',rfl,h2,h3⟩
 ·exact absurd h2 (hp _)
theorem AWpP.mono {rt m:Nat} {c:Code} {F:Fr} {H:Hp} {Q Q':Post} {Qp Qp':Hp→Prop} (h:AWpP C rt m c F H Q Qp) (hq:∀ e F H,Q e F H→Q' e F H) (hp:∀ H,Qp H→Qp' H):AWpP C rt m c F H Q' Qp':=
 fun r hr ρ a w hm hH hF=>Code.wpIn_mono (fun e a' w' ⟨ρ',F',H',hX,h⟩=>⟨ρ',F',H',hX.imp (fun ⟨ae,e1,e2⟩=>⟨ae,e1,hq _ _ _ e2⟩) (fun ⟨e1,e2⟩=>⟨e1,hp _ e2⟩),h⟩) (h r hr ρ a w hm hH hF)
theorem mJ {Z:Ha} {fuel n0 m:Nat} {c:Code} {N:Nat} {live:List Nat} {vs:List EV} {H:DHp} {Q:Ex→List AV→Hp→Prop} {Qp:Hp→Prop} (hZ:Xw C Z) (hL:∀ F H,Z.lp F H=none)
  (h:vT C.G Q (fun _ H=>Qp H) (Wm Z fuel n0 m c N live vs H)) (r:Option Nat) (T:List Deferred) (S:List Nat) (hS:Gk S (.code c)=true) {ρ:Env} {a:Act} {w:World} (hm:m≤H.length) (hH:B1 C ρ (B7 C.G H) w) (hF:D0 ρ (fl N live (vVs C.G vs)) a):c.wpIn (W r) 0 C.P (Lq T S a (Z1 C m ρ w (XP Z.rt (lv N live Q) Qp))) (tl T a) w:=by
 have:=iX hZ fuel r T S m (.code c) (Yf N live vs) H (f0 n0) _ (lv N live Q) Qp Q (fun _ H=>Qp H) (fun e F1 H1 fs1 ht=>by
  unfold fL at ht;split at ht
  ·rename_i hb;simp only [vT,To] at ht;simp only [lv,P6,hb];exact ht
  ·exact ht.elim) (fun _ h=>h) (.inl hL) hS h
 rw [aA] at this;exact this ρ a w (by simpa [E3] using hm) hH hF
theorem iB {Z:Ha} {fuel n0 m:Nat} {c:Code} {N:Nat} {live:List Nat} {vs:List EV} {H:DHp} {Q:Ex→List AV→Hp→Prop} {Qp:Hp→Prop} (hZ:Xw C Z) (hL:∀ F H,Z.lp F H=none) (hm:m≤H.length)
  (h:vT C.G Q (fun _ H=>Qp H) (Wm Z fuel n0 m c N live vs H)):AWpP C Z.rt m c (fl N live (vVs C.G vs)) (B7 C.G H) (lv N live Q) Qp:=by
 intro r _ ρ a w _ hH hF
 have:=mJ hZ hL h r [] [] (Ur c) hm hH hF
 rw [Iv] at this;refine Code.wpIn_mono ?_ this;rintro e _ w' ⟨a0,rfl,_,h⟩;rw [Iv];exact h
theorem AWpP.frzL {rt n:Nat} {c:Code} {F:Fr} {H:Hp} {N:Nat} {live:List Nat} {Q Q':Ex→List AV→Hp→Prop} {Qp:Hp→Prop} (m k:Nat) (h:AWpP C rt n c F H (lv N live Q) Qp) (hq:∀ e vs H',Q e vs H'→wF C m k H'∧Q' e (fzs m k vs) (Jy m k H')):AWpP C rt n c F H (lv N live Q') Qp:=by
 intro r hr ρ a w hm hH hF;refine Code.wpIn_mono ?_ (h r hr ρ a w hm hH hF);rintro e a' w' ⟨ρ',F',H',hX,h3,h4,h5,h6⟩;rcases hX with ⟨ae,rfl,h2⟩ | ⟨rfl,h2⟩
 ·obtain ⟨h7,h8⟩:=U6 h2;obtain ⟨g1,g2⟩:=hq _ _ _ h8;obtain ⟨ρ2,q1,q2,q3,q4,q5,q6⟩:=h4.frz g1;refine ⟨ρ2,_,_,.inl ⟨ae,rfl,?_⟩,fun i hi=>by rw [q2];exact h3 i hi,q4,h5.frz q3 q6,h6.trans q5⟩;have hl:(fzs m k F').length=F'.length:=by rw [An,List.length_map]
  show chk (Nat.beq (fzs m k F').length N) (Q' ae (Ca live (fzs m k F')) (Jy m k H'));rw [rL,hl,h7];exact g2
 ·exact ⟨ρ',F',H',.inr ⟨rfl,h2⟩,h3,h4,h5,h6⟩
theorem aB8 {rt m:Nat} {c:Code} {N:Nat} {live:List Nat} {vs:List AV} {H:Hp} {Q:Ex→List AV→Hp→Prop} {Qp:Hp→Prop} (I:Nat→List AV→Hp→Prop) (k0:Nat) (h0:I k0 vs H)
  (round:∀ k vs H,I k vs H→AWpP C rt m c (fl N live vs) H (lv N live fun e vs' H'=>match e with
   | .normal=>∃ k',k'<k∧(I k' vs' H'∨∃ vs'' H'',I k' vs'' H''∧C2 m vs'' H'' vs' H')
   | e=>Q e vs' H') Qp):AWpP C rt m (.loop c) (fl N live vs) H (lv N live Q) Qp:=by
 intro r hr ρ a w hm hH hF;refine wpIn_loop_ghost (fun n a' w'=>∃ ρ' vs' H',I n vs' H'∧B1 C ρ' H' w'∧D0 ρ' (fl N live vs') a'∧K9 m ρ ρ'∧Frm ρ w ρ' w') k0 ⟨ρ,vs,H,h0,hH,hF,K9.refl m ρ,Frm.refl ρ w⟩ ?_;rintro n a1 w1 ⟨ρ1,F1,H1,hI,hH1,hF1,hp1,hf1⟩;refine Code.wpIn_mono ?_ (round n F1 H1 hI r (Yy hr) ρ1 a1 w1 (T3 hm hH hH1 hp1) hH1 hF1);rintro e a2 w2 ⟨ρ2,F2,H2,hX,h3,h4,h5,h6⟩;rcases hX with ⟨ae,rfl,h2⟩ | ⟨rfl,h2⟩
 ·obtain ⟨h7,h8⟩:=U6 h2;have hN:F2.length=N:=yV h7;have hF2:=Mc (live:=live) h5 hN;cases ae with
  | normal=>
   obtain ⟨n',hlt,hi | ⟨vs'',H'',hI',hv⟩⟩:=h8
   ·exact ⟨n',hlt,ρ2,_,H2,hi,h4,hF2,hp1.trans h3,hf1.trans h6⟩
   ·obtain ⟨ρ3,g1,g2,g3,g4⟩:=hv.live (N:=N) (live:=live) (a:=a2) h4 h5.nod (by rw [←h5.len,hN]) (by simp [Ca]) fun j i v q1 q2=>by
     simp only [Ca,sH,q1,Option.map_some,zK] at q2;subst q2;by_cases hi:i<F2.length
     ·exact h5.val i _ (by simp [List.getD,hi])
     ·simp [List.getD,hi,VR]
    exact ⟨n',hlt,ρ3,vs'',H'',hI',g1,g2,(hp1.trans h3).trans g3,(hf1.trans h6).trans g4⟩
  | exit i=>exact ⟨ρ2,_,H2,.inl ⟨.exit i,rfl,by simp only [lv];rw [show F2.length.beq N=true from h7];exact h8⟩,hp1.trans h3,h4,h5,hf1.trans h6⟩
  | ret=>exact ⟨ρ2,_,H2,.inl ⟨.ret,rfl,by simp only [lv];rw [show F2.length.beq N=true from h7];exact h8⟩,hp1.trans h3,h4,h5,hf1.trans h6⟩
 ·exact ⟨ρ2,F2,H2,.inr ⟨rfl,h2⟩,hp1.trans h3,h4,h5,hf1.trans h6⟩
theorem rQ {Z : Ha} {f : FuncId} {fn : Func} {fuel n0 : Nat} {args : List EV} {H : DHp} (hZ : Xw C Z) (hl : ∀ b ∈ B5 (C6 fn), b = Z.lc) (hf : C.P.funcs[f]? = some fn) (hb : fn.body = some (C6 fn)) (hn : (fn.name == "runtime.NumGoroutine") = false)
  (h:vT C.G (fun _ _ _=>False) (fun _ _=>True) (ppan Z fuel n0 fn args H)):ACallsX C Z.rt f (vVs C.G args) (B7 C.G H) (fun _ _=>False) fun _=>True:=by
 have:=iX hZ fuel none [] [] H.length (.code (C6 fn)) (Cx fn args) H (f0 n0) _ (N0 C fn fun _ _=>False) (fun _=>True) (fun _ _ _=>False) (fun _ _=>True) (fun e F1 H1 fs1 ht=>by
  unfold Mb at ht;split at ht
  ·exact ht.elim
  ·obtain ⟨cc,v,q1,q2,q3⟩:=Cf ht
   exact q3.elim) (fun _ _=>trivial) (.inr ⟨rfl,rfl,rfl,fun _=>trivial,hl⟩) (Ur _) h
 rw [Mq,←E3 (G:=C.G) H] at this;refine cO hf hb hn fun ρ a w hH hF=>?_
 have:=this ρ a w (zA1 _) hH hF
 rw [Iv] at this;refine Code.wpIn_mono ?_ this;rintro e _ w' ⟨a0,rfl,_,h⟩;rw [Iv];exact h
noncomputable def gD (j:Nat) (q:List AV→Bool) (N:Nat) (live:List Nat):DFr→DHp→Option EB:=fun F H=>match Nat.beq F.length N with
 | true=>some (.uf j q [.agg (.of (rdD live F)),.agg (.of (Xm H))])
 | false=>none
theorem tJ {rt M j:Nat} {q:List AV→Bool} {N:Nat} {live:List Nat} {vs0:List AV} {H0:Hp} {c:Code} {Q:Ex→List AV→Hp→Prop} (hq:q=D9 vs0 H0) (h:AWpP C rt M (.loop c) (fl N live vs0) H0 (lv N live Q) fun _=>True) (hQ:∀ e vs H,¬Q e vs H) (hM:M≤H0.length) :
  ∀ F H b,gD j q N live F H=some b→vB C.G b=true→∀ (m:Nat) (ρ:Env) (a:Act) (w:World),m≤M→m≤(B7 C.G H).length→B1 C ρ (B7 C.G H) w→D0 ρ (vVs C.G F) a→(Code.loop c).wpIn (W none) 0 C.P (Z1 C m ρ w (XP rt (fun _ _ _=>False) fun _=>True)) a w:=by
 intro F H b hb hv m ρ a w hm _ hH hF;unfold gD at hb;split at hb
 ·rename_i hN;simp only [zK] at hb;subst hb;simp only [vB,vVs,vV,vL,Li,hq] at hv;obtain ⟨e1,e2⟩:=Hw hv;rw [e2] at hH;have hN:=yV hN
  have hF':D0 ρ (fl N live vs0) a:=by
   have:=Mc (N:=N) (live:=live) hF (by rw [P6];exact hN)
   rw [←e1,To];exact this
  refine Code.wpIn_mono ?_ (h none rfl ρ a w hM hH hF');rintro e a' w' ⟨ρ',F',H',hX,h3,h4⟩;rcases hX with ⟨ae,_,h2⟩ | ⟨rfl,h2⟩
  ·obtain ⟨_,h8⟩:=U6 h2;exact absurd h8 (hQ _ _ _)
  ·exact ⟨ρ',F',H',.inr ⟨rfl,h2⟩,fun i hi=>h3 i (by omega),h4⟩
 ·cases hb
end
section
variable {C:A0}
theorem iP {α:Type}:∀ (l:List Nat) (H:List (Option α)) (i:Nat),(Bd H l)[i]?=if i∈l∧i<H.length then some none else H[i]?
 | [],H,i=>by simp [Bd]
 | j::l,H,i=>by
  show (Bd (H.set j none) l)[i]?=_;rw [iP l,List.length_set,qX];by_cases h1:i∈l∧i<H.length
  ·rw [if_pos h1,if_pos ⟨List.mem_cons_of_mem _ h1.1,h1.2⟩]
  ·rw [if_neg h1];by_cases h2:j=i
   ·subst h2;by_cases h3:j<H.length
    ·rw [if_pos rfl,if_pos h3,if_pos ⟨List.mem_cons_self,h3⟩]
    ·rw [if_pos rfl,if_neg h3,if_neg (fun h=>h3 h.2)];rw [qK (by omega)]
   ·rw [if_neg h2,if_neg (fun h=>?_)];rcases List.mem_cons.1 h.1 with e | e
    ·exact h2 e.symm
    ·exact h1 ⟨e,h.2⟩
theorem iO {α:Type}:∀ (l:List Nat) (H:List (Option α)),(Bd H l).length=H.length
 | [],H=>rfl
 | j::l,H=>by
  show (Bd (H.set j none) l).length=_;rw [iO l,List.length_set]
theorem yG {rt:Nat} {f:FuncId} {args0:List AV} {H0 H:Hp} {Kp:Hp→Prop} (h:ACallsX C rt f args0 H0 (fun _ _=>False) Kp) (θ:List Nat) (hθ:θ.length=H0.length) (hnd:θ.Nodup)
  (hlive:∀ (i:Nat) b,H0[i]?=some b→∃ b0,b=some b0∧isRec b0=false∧A3 θ.length b0.cells=true∧H[θ.getD i 0]?=some (some (K3 θ b0)))
  (hargs:A3 θ.length args0=true):ACallsX C rt f (rens θ args0) H (fun _ _=>False) fun H'=>H'=Bd H θ:=by
 refine ⟨h.1,fun ρ w cargs hH hv=>?_⟩
 have hlt:∀ i,i<θ.length→θ.getD i 0<H.length:=fun i hi=>by
  obtain ⟨b,hb⟩:∃ b,H0[i]?=some b:=⟨_,yO (by omega)⟩;obtain ⟨b0,_,_,_,h2⟩:=hlive i b hb;exact (zQ.1 h2).1
 let ρ0:Env:=⟨θ.map fun j=>(ρ.rw[j]?).getD none,ρ.ro,[]⟩
 have get:∀ i,i<θ.length→ρ.rw[θ.getD i 0]?=ρ0.rw[i]?:=fun i hi=>by
  have h1:θ.getD i 0<ρ.rw.length:=by rw [hH.len];exact hlt i hi
  have h2:ρ0.rw[i]?=some ((ρ.rw[θ.getD i 0]?).getD none):=by
   simp only [ρ0,sH,yO hi,Option.map_some,List.getD,Option.getD_some]
  rw [h2,yO h1];rfl
 have hr:Vx θ ρ0 ρ:=⟨get,rfl⟩
 have ents0:∀ (i:Nat) e,ρ0.rw[i]?=some (some e)→i<θ.length∧ρ.rw[θ.getD i 0]?=some (some e):=fun i e hi=>by
  have hl:i<θ.length:=by have:=(zQ.1 hi).1;simpa [ρ0] using this
  exact ⟨hl,(get i hl).trans hi⟩
 have nodup:∀ i j,i<θ.length→j<θ.length→θ.getD i 0=θ.getD j 0→i=j:=fun i j hi hj he=>by
  simp only [List.getD,yO hi,yO hj,Option.getD_some] at he;exact (List.getElem_inj hnd).1 he
 have hH0:B1 C ρ0 H0 w:=by
  refine ⟨by simp [ρ0,hθ],hH.base,fun i e hi=>hH.ents _ e (ents0 i e hi).2,fun i b hb=>?_,?_,fun i b d hr=>⟨(hH.ro i b d hr).1,fun j x e h1 h2=>?_,(hH.ro i b d hr).2.2⟩,fun D hD=>by simp [ρ0] at hD⟩
  ·have hi:i<θ.length:=by rw [hθ];exact (zQ.1 hb).1
   obtain ⟨b0,hb0,hr0,hbd,h2⟩:=hlive i _ hb;simp at hb0;subst hb0;have hl:=hH.live _ _ h2;rw [get i hi] at hl;generalize ρ0.rw[i]?=x at hl
   match x,hl with
   | some (some e),hl=>
    have hrr:isRec (K3 θ b)=isRec b:=rfl;obtain ⟨g1,cs,ty,fz,g2,g3,g4,g5,g6⟩:=hl.cs (hrr.trans hr0);refine .of hr0 ⟨g1,cs,ty,fz,g2,g3,by simpa [K3,I7] using g4,fun k v hkv=>?_,g6⟩
    have hbv:A8 θ.length v=true:=by
     rw [L2,xM] at hbd;exact hbd v (rM hkv)
    obtain ⟨cv,q1,q2⟩:=g5 k (C0 θ v) (by simp [K3,I7,hkv]);exact ⟨cv,q1,(Bo hr v cv hbv).1 q2⟩
   | some none,hl=>
    have:rens θ b.cells=[]:=hl
    rw [I7] at this;exact List.map_eq_nil_iff.1 this
   | none,hl=>exact hl.elim
  ·intro i j b b' e e' h1 h2 h3 h4 h5;have hi:i<θ.length:=(ents0 i e h3).1;have hj:j<θ.length:=(ents0 j e' h4).1;obtain ⟨b0,hb0,_,_,g1⟩:=hlive i _ h1;obtain ⟨b1,hb1,_,_,g2⟩:=hlive j _ h2;exact nodup i j hi hj (hH.inj _ _ _ _ e e' g1 g2 (ents0 i e h3).2 (ents0 j e' h4).2 h5)
  ·obtain ⟨b0,_,_,_,g1⟩:=hlive j _ h1;exact (hH.ro i b d hr).2.1 _ _ e g1 (ents0 j e h2).2
 refine (h.2 ρ0 w cargs hH0 ((Bt hr args0 cargs hargs).1 hv)).mono ?_;rintro e w' (⟨_,_,_,_,_,hF,_⟩ | ⟨rfl,ρ0',H0',_,hle,hH',hfr⟩)
 ·exact hF.elim
 -- what lies apart from what was handed in stays
 have kp:∀ b,b<w.heap.size→(∀ (i:Nat) e,ρ0.rw[i]?=some (some e)→e.blk≠b)→w'.heap[b]?=w.heap[b]?:=fun b hb hn=>hfr.keep b hb (.inr hn)
 have ne:∀ (j:Nat) b e,H[j]?=some (some b)→ρ.rw[j]?=some (some e)→j ∉ θ→∀ (i:Nat) e',ρ0.rw[i]?=some (some e')→e'.blk≠e.blk:=fun j b e hj he hjn i e' hi heq=>by
  obtain ⟨hil,h3⟩:=ents0 i e' hi;obtain ⟨b1,hb1⟩:∃ b1,H0[i]?=some b1:=⟨_,yO (by omega)⟩;obtain ⟨b0,_,_,_,g1⟩:=hlive i _ hb1
  have:=hH.inj _ _ _ _ e' e g1 hj h3 he heq
  apply hjn;rw [←this];simp only [List.getD,yO hil,Option.getD_some];exact List.getElem_mem hil
 have lk:∀ (j:Nat) b,(Bd H θ)[j]?=some (some b)→H[j]?=some (some b)∧j ∉ θ:=fun j b hj=>by
  rw [iP] at hj;split at hj
  ·cases hj
  ·rename_i hc;refine ⟨hj,fun hin=>hc ⟨hin,(zQ.1 hj).1⟩⟩
 refine .inr ⟨rfl,ρ,Bd H θ,rfl,Env.le_refl ρ,?_,?_⟩
 ·refine ⟨by rw [iO];exact hH.len,Nat.le_trans hH.base hfr.size,fun i e he=>⟨(hH.ents i e he).1,Nat.lt_of_lt_of_le (hH.ents i e he).2 hfr.size⟩,fun i b hb=>?_,fun i j b b' e e' h1 h2 h3 h4 h5=>hH.inj i j b b' e e' (lk i b h1).1 (lk j b' h2).1 h3 h4 h5,fun i b d hro=>?_,fun D hD=>?_⟩
  ·obtain ⟨g1,g2⟩:=lk i b hb;exact (hH.live i b g1).sub (w':=w') (ρ':=ρ) ⟨fun _ _ h=>h,fun _ _ _ h=>h⟩ fun e he=>kp e.blk (hH.ents i e he).2 (ne i b e g1 he g2)
  ·obtain ⟨g1,g2,g3⟩:=hH.ro i b d hro;refine ⟨Nat.lt_of_lt_of_le g1 hfr.size,fun j x e h1 h2=>g2 j x e (lk j x h1).1 h2,fun k v hv=>?_⟩;obtain ⟨cv,q1,q2⟩:=g3 k v hv;refine ⟨cv,?_,q2⟩;rw [World.cell?_of_block (w:=w) (hfr.keep b g1 (.inl ⟨i,d,hro⟩))];exact q1
  ·obtain ⟨g1,g2,g3⟩:=hH.df D hD;refine ⟨?_,g2,g3⟩;rw [kp D (hH.df_lt hD) fun i e hi=>g2 _ e (ents0 i e hi).2];exact g1
 ·exact ⟨hfr.os,hfr.tape,hfr.output,hfr.size,fun b hb hn=>hfr.keep b hb (hn.imp id fun hn i e hi=>hn _ e (ents0 i e hi).2),fun i e he=>.inl ⟨i,e,he,rfl⟩,fun _ _ _ h=>h,fun _ _ _ h=>.inl h,fun _ h=>.inl h⟩
end
def Saved (C:A0) (rt:Nat) (fn:Func) (D:Deferred) (tmps:Array Value) (ρ':Env) (H':Hp) (m:Nat) (K:AV→Hp→Prop):Prop:=
 ∀ (d:List Nat) (w2:World),B1 C ⟨ρ'.rw,ρ'.ro,d⟩ H' w2→∃ fv cap g cargs,D.target=.fn fv cap∧(invoke D.target D.args).run C.P w2=.ok (.enter g cargs) w2∧
  CallsDIn Fence.wide 0 C.P g cargs (.panicking (PX rt)) w2 fun e u' w3=>e=.returned (.tuple #[])∧settle u'=.returning∧
   ∃ cv v ρ3 H3,(results fn tmps).run C.P w3=.ok cv w3∧K v H3∧(K9 m ⟨ρ'.rw,ρ'.ro,d⟩ ρ3∧(∀ i b k,ρ'.ro i b k→ρ3.ro i b k)∧∀ D,D∈d→D∈ρ3.dfs)∧B1 C ρ3 H3 w3∧VR ρ3 v cv∧Frm ⟨ρ'.rw,ρ'.ro,d⟩ w2 ρ3 w3
theorem jT {C : A0} {rt : Nat} {f : FuncId} {fn : Func} {c : Code} {args : List AV} {H : Hp} {K : AV → Hp → Prop} (hf : C.P.funcs[f]? = some fn) (hb : fn.body = some c) (hn : (fn.name == "runtime.NumGoroutine") = false)
  (h:∀ (ρ:Env) (a:Act) (w:World),B1 C ρ H w→D0 ρ (N3 fn args) a→a.defers=[]→c.wpIn (W none) 0 C.P (fun e a' w'=>∃ D a0,a'=tl [D] a0∧((Idle C.P D∧AP C H.length ρ w (N0 C fn K) e a0 w')∨
   (e=.panic (PX rt)∧∃ ρ' F' H',K9 H.length ρ ρ'∧B1 C ρ' H' w'∧D0 ρ' F' a0∧Frm ρ w ρ' w'∧Saved C rt fn D a0.tmps ρ' H' H.length K))) a w):ACalls C f args H K:=by
 refine ⟨⟨fn,c,hf,hb,hn⟩,fun ρ w cargs hH hv=>callsIn_wide.1 (callsIn_of_wp_marks (n:=0) hf hb trivial (wpIn_mono (h ⟨ρ.rw,ρ.ro,[]⟩ _ w (hH.setDfs [] (fun _ h=>by simp at h)) (Sh (VRs.sub (Env.sub_dfs ρ []) _ _ hv)) rfl) ?_))⟩;rintro e _ w' ⟨Dd,a',rfl,⟨hDd,ae,ρ',F',H',rfl,hQ,hp,hH',hF',hfr⟩ | ⟨rfl,ρ',F',H',hp,hH',hF',hfr,hsv⟩⟩
 ·have fin:Up (On C fn F' H') (fun v=>K v H')→LeavesInM Fence.wide 0 C.P fn (tl [Dd] a').tmps (fun e w''=>∃ v cv ρ' H',e=.returned cv∧K v H'∧ρ.le ρ'∧B1 C ρ' H' w''∧VR ρ' v cv∧Frm ρ w ρ' w'') (tl [Dd] a').defers .returning w':=by
   intro ho;obtain ⟨ds,hds,hnd,hD⟩:=hF'.nod;show LeavesInM Fence.wide 0 C.P fn a'.tmps _ (a'.defers++[Dd]) .returning w';rw [hds];refine Kl (by simp) ds w' hnd (fun D h=>(hH'.df D (hD D h)).1) fun w'' hs hk ho2 ht hou=>qA hDd ?_;obtain ⟨v,h1,h2⟩:=U4 ho;obtain ⟨q1,q2,q3⟩:=aD hH (zA1 _) hp hH' hfr hD hs hk ho2 ht hou;have hF'':D0 ⟨ρ'.rw,ρ'.ro,ρ.dfs⟩ F' ⟨a'.tmps,[]⟩:=⟨⟨[],rfl,List.nodup_nil,fun _ h=>by simp at h⟩,hF'.len,fun i v hv=>VR.sub (Env.sub_dfs ρ' ρ.dfs) v _ (hF'.val i v hv)⟩;obtain ⟨cv,g1,g2⟩:=Em q1 hF'' h1
   exact ⟨cv,g1,v,cv,_,H',rfl,h2,q2,q1,g2,q3⟩
  cases ae with
  | normal=>exact fin hQ
  | ret=>exact fin hQ
  | exit i=>exact hQ.elim
 ·obtain ⟨ds,hds,hnd,hD⟩:=hF'.nod;show LeavesInM Fence.wide 0 C.P fn a'.tmps _ (a'.defers++[Dd]) (.panicking (PX rt)) w';rw [hds];refine Kl (by simp) ds w' hnd (fun D h=>(hH'.df D (hD D h)).1) fun w2 hs hk ho2 ht hou=>?_;obtain ⟨q1,q2,q3⟩:=aD hH (zA1 _) hp hH' hfr hD hs hk ho2 ht hou;obtain ⟨fv,cap,g,cargs,e1,e2,e3⟩:=hsv ρ.dfs w2 q1;refine ⟨by simp,.inr ⟨fun h=>by simp [Fence.wide] at h,fv,cap,g,cargs,e1,e2,fun _ _=>trivial,e3.mono ?_⟩⟩;rintro e u' w3 ⟨rfl,hu,cv,v,ρ3,H3,r1,r2,⟨r3,r3a,r3b⟩,r4,r5,r6⟩;show LeavesInM Fence.wide 0 C.P fn a'.tmps _ [] (settle u') w3;rw [hu]
  refine ⟨cv,r1,v,cv,ρ3,H3,rfl,r2,⟨fun i x hx=>?_,fun i b k hr=>r3a i b k (q2.right i b k hr),fun D hDD=>r3b D hDD⟩,r4,r5,q3.trans r6⟩
  have hi:i<H.length:=by
   rw [←hH.len];rcases Nat.lt_or_ge i ρ.rw.length with h | h
   ·exact h
   ·rw [qK h] at hx;cases hx
  exact (r3 i hi).trans ((hp i hi).trans hx)
def σS (src:Nat→Option Nat):Sig:=fun k=>match src k with
 | some k1=>(.ro k1,0)
 | none=>(.rw 0,0)
def Told (src:Nat→Option Nat) (G G':Nat→List AV):Prop:=∀ k k1,src k=some k1→∀ (j:Nat) v,(G' k)[j]?=some v→∃ x,(G k1)[j]?=some x∧H7 v=true∧∀ (ρ:Env) cv,VR ρ x cv→VR ρ (sb (σS src) 0 v) cv
theorem vM {P:Program} {G G':Nat→List AV} {B:Nat} {src:Nat→Option Nat} (hG:Told src G G') {ρ:Env} {w:World} (hH:B1 ⟨P,G,B⟩ ρ [] w):B1 ⟨P,G',w.heap.size⟩ ⟨[],Jq (σS src) ρ,[]⟩ [] w:=by
 refine ⟨rfl,zA1 _,fun i e h=>by simp at h,fun i b h=>by simp at h,fun i j b b' e e' h=>by simp at h,fun i b d hr=>?_,fun D h=>by simp at h⟩;have hlen:ρ.rw=[]:=List.eq_nil_of_length_eq_zero hH.len
 obtain ⟨k1,hs,hr1⟩:∃ k1,src i=some k1∧ρ.ro k1 b d:=by
  simp only [Jq] at hr;cases h:src i with
  | some k1=>
   have:σS src i=(.ro k1,0):=by unfold σS;rw [h]
   rw [this] at hr;obtain ⟨d0,h1,h2⟩:=hr;simp only [Nat.add_zero] at h2;exact ⟨k1,rfl,by rw [h2];exact h1⟩
  | none=>
   have:σS src i=(.rw 0,0):=by unfold σS;rw [h]
   rw [this] at hr;obtain ⟨e,h1,_⟩:=hr;rw [hlen] at h1;simp at h1
 obtain ⟨g1,g2,g3⟩:=hH.ro k1 b d hr1;refine ⟨g1,fun j x e h=>by simp at h,fun k v hv=>?_⟩;obtain ⟨x,q1,q2,q3⟩:=hG i k1 hs k v hv;obtain ⟨cv,g4,g5⟩:=g3 k x q1;refine ⟨cv,g4,wD (n:=0) v cv q2 (q3 ρ cv ?_)⟩;exact VR.sub (ρ:=⟨[],ρ.ro,[]⟩) (ρ':=ρ) ⟨fun i x hx=>by simp at hx,fun _ _ _ h=>h⟩ x cv g5
theorem yW {P:Program} {G G':Nat→List AV} {B:Nat} {f:FuncId} {args args':List AV} {R:AV→Prop} {src:Nat→Option Nat} (hG:Told src G G')
  (h:∀ B,ACalls ⟨P,G',B⟩ f args' [] fun v _=>R v) (ha:K7 args'=true) (hb:∀ (ρ:Env) vs,VRs ρ args vs→VRs ρ (sbs (σS src) 0 args') vs) (hR:∀ v,R v→A8 0 v=true∧U5 v=true):ACalls ⟨P,G,B⟩ f args [] fun v _=>R v:=by
 refine ⟨(h 0).1,fun ρ w cargs hH hv=>?_⟩;refine ((h w.heap.size).2 ⟨[],Jq (σS src) ρ,[]⟩ w cargs (vM hG hH) (Qv args' cargs ha (hb ρ cargs hv))).mono ?_;rintro e w' ⟨v,cv,ρ',H',rfl,h2,h3,h4,h5,h6⟩;obtain ⟨hb,hn⟩:=hR v h2;have hkeep:∀ b,b<w.heap.size→w'.heap[b]?=w.heap[b]?:=fun b hb=>h6.keep b hb (.inr fun i e h=>by simp at h);refine ⟨v,cv,ρ,[],rfl,h2,Env.le_refl ρ,?_,?_,?_⟩
 ·refine ⟨hH.len,Nat.le_trans hH.base h6.size,fun i e he=>⟨(hH.ents i e he).1,Nat.lt_of_lt_of_le (hH.ents i e he).2 h6.size⟩,fun i b hb=>?_,hH.inj,fun i b d hr=>?_,fun D hD=>⟨(hkeep D (hH.df_lt hD)).trans (hH.df D hD).1,(hH.df D hD).2⟩⟩
  ·exact (hH.live i b hb).mono (Env.le_refl ρ) fun e he=>hkeep _ (hH.ents i e he).2
  ·obtain ⟨g1,g2,g3⟩:=hH.ro i b d hr;refine ⟨Nat.lt_of_lt_of_le g1 h6.size,g2,fun k v hv=>?_⟩;obtain ⟨cv,g4,g5⟩:=g3 k v hv;refine ⟨cv,?_,g5⟩;rw [←g4];simp only [World.cell?,hkeep b g1]
 ·exact tI hb hn h5
 ·exact ⟨h6.os,h6.tape,h6.output,h6.size,fun b hb _=>hkeep b hb,fun i e he=>.inl ⟨i,e,he,rfl⟩,fun _ _ _ h=>h,fun _ _ _ h=>.inl h,fun _ h=>.inl h⟩
end Go.Am
