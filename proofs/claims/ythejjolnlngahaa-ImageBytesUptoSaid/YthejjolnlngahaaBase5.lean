/-
  Methods: a call over one block of its own, told in every heap that has A nil list, looked at as an empty one of its own; views that leave the
-/
import Derived.Test.YthejjolnlngahaaBase4
import Derived.Test.YthejjolnlngahaaBase3
import Derived.RecoverIn
namespace Go.Am
variable {C:A2}
theorem ACalls.keep {f:FuncId} {args:List AV} {H H1:Hp} {v1:AV} {k:Nat} (h:ACalls C f args H fun v H'=>v=v1∧H'.take k=H1) (hk:H.length≤H1.length) (hb:J5 H1.length H1=true) (hv:A8 H1.length v1=true) (hu:v1≠.undef) :
  ACalls C f args H fun v H'=>v=v1∧H'=H1:=
 h.view fun v H' ⟨e1,e2⟩=>⟨v1,H1,⟨rfl,rfl⟩,by
  subst e1;have e:H'=H1++H'.drop k:=by rw [←e2,List.take_append_drop]
  rw [e];refine C2.same hk hb ?_
  cases v<;>first | exact absurd rfl hu | exact ⟨⟨hv,rfl⟩,trivial⟩⟩
end Go.Am
namespace Go.Am
def Mu (k:Nat) (x x':AV):Prop:=x'=x∨(x=.slice true (.rw k) 0 0∧x'=.nils)
def Bd (k:Nat):List AV→List AV→Prop
 | [],[]=>True
 | x::l,y::m=>Mu k x y∧Bd k l m
 | _,_=>False
def Pd (k:Nat):Hp→Hp→Prop
 | [],[]=>True
 | none::H,none::H'=>Pd k H H'
 | some b::H,some b'::H'=>(b.esz=b'.esz∧Bd k b.cells b'.cells)∧Pd k H H'
 | _,_=>False
theorem Zt {k:Nat} (x:AV):Mu k x x:=.inl rfl
theorem Bc {k:Nat}:∀ (l:List AV),Bd k l l
 | []=>trivial
 | x::l=>⟨Zt x,Bc l⟩
theorem Pb {k:Nat}:∀ {l m:List AV},Bd k l m→l.length=m.length∧∀ (i:Nat) v,l[i]?=some v→∃ v',m[i]?=some v'∧Mu k v v'
 | [],[],_=>⟨rfl,fun i v h=>by simp at h⟩
 | [],_::_,h=>h.elim
 | _::_,[],h=>h.elim
 | x::l,y::m,h=>by
  obtain ⟨h1,h2⟩:=Pb h.2;refine ⟨by simp [h1],fun i v hv=>?_⟩;cases i with
  | zero=>simp at hv;subst hv;exact ⟨y,rfl,h.1⟩
  | succ i=>simpa using h2 i v (by simpa using hv)
theorem Te {k:Nat}:∀ {H H':Hp},Pd k H H'→H.length=H'.length∧∀ (i:Nat) b,H[i]?=some (some b)→∃ b',H'[i]?=some (some b')∧b.esz=b'.esz∧Bd k b.cells b'.cells
 | [],[],_=>⟨rfl,fun i v h=>by simp at h⟩
 | [],_::_,h=>h.elim
 | none::_,[],h=>h.elim
 | some _::_,[],h=>h.elim
 | none::_,some _::_,h=>h.elim
 | some _::_,none::_,h=>h.elim
 | none::H,none::H',h=>by
  obtain ⟨h1,h2⟩:=Te (show Pd k H H' from h);refine ⟨by simp [h1],fun i v hv=>?_⟩;cases i with
  | zero=>simp at hv
  | succ i=>simpa using h2 i v (by simpa using hv)
 | some b::H,some b'::H',h=>by
  obtain ⟨h1,h2⟩:=Te h.2;refine ⟨by simp [h1],fun i v hv=>?_⟩;cases i with
  | zero=>simp at hv;subst hv;exact ⟨b',rfl,h.1⟩
  | succ i=>simpa using h2 i v (by simpa using hv)
theorem Ii {ρ:Env} {x x':AV} {cv:Value} (h:Mu ρ.rw.length x x') (hv:VR ρ x' cv):VR (ρ.push none) x cv:=by
 rcases h with rfl | ⟨rfl,rfl⟩
 ·exact VR.mono (Env.le_push ρ none) _ _ hv
 ·simp only [VR] at hv ⊢;subst hv;exact ⟨none,0,rfl,Nat.le_refl _,.inl ⟨rfl,rfl,rfl⟩⟩
theorem iV {C:A2} {ρ:Env} {H H':Hp} {w:World} (e:Nat) (hH:Pd H'.length H H') (h4:B0 C ρ H' w):B0 C (ρ.push none) (H++[some ⟨e,[]⟩]) w:=by
 have hl:=h4.len;obtain ⟨hle,hget⟩:=Te hH;have low:∀ i,i<H'.length→(ρ.push none).rw[i]?=ρ.rw[i]?:=fun i hi=>by simp [Env.push,List.getElem?_append_left (show i<ρ.rw.length by omega)]
 have none':∀ (i:Nat) x,(ρ.push none).rw[i]?=some (some x)→ρ.rw[i]?=some (some x):=fun i x hx=>by
  rcases R9 ρ none i _ hx with ⟨_,h⟩ | ⟨_,h⟩
  ·exact h
  ·simp at h
 have blk:∀ (i:Nat) b,(H++[some (⟨e,[]⟩:Blk)])[i]?=some (some b)→(i<H'.length∧H[i]?=some (some b))∨(i=H'.length∧b=⟨e,[]⟩):=fun i b hb=>by
  by_cases hi:i<H.length
  ·rw [List.getElem?_append_left hi] at hb;exact .inl ⟨by omega,hb⟩
  ·rw [List.getElem?_append_right (by omega)] at hb
   have:i=H.length:=by have:=(List.getElem?_eq_some_iff.1 hb).1;simp at this;omega
   subst this;simp at hb;exact .inr ⟨hle,hb.symm⟩
 refine ⟨by simp [Env.push,hl,hle],h4.base,fun i x hx=>h4.ents i x (none' i x hx),fun i b hb=>?_,fun i j b b' x x' q1 q2 q3 q4 q5=>?_,fun i b d hr=>⟨(h4.ro i b d hr).1,fun j x e q1 q2=>?_,(h4.ro i b d hr).2.2⟩,fun D hD=>⟨(h4.df D hD).1,fun i x hx=>(h4.df D hD).2.1 i x (none' i x hx),(h4.df D hD).2.2⟩⟩
 ·rcases blk i b hb with ⟨hi,hb⟩ | ⟨rfl,rfl⟩
  ·rw [low i hi];obtain ⟨b',g1,g2,g3⟩:=hget i b hb;obtain ⟨gl,gg⟩:=Pb g3
   have:=h4.live i b' g1
   match hx:ρ.rw[i]?,this with
   | some (some en),this=>
    have hrr:isRec b=isRec b':=by unfold isRec;rw [g2]
    cases hr0:isRec b' with
    | true=>
     obtain ⟨h1,r,h2,p,ps,a,bd,F,q1,q2,q3,q4,q5,q6,q7⟩:=this.rec hr0;rw [q1] at g3 gl gg
     obtain ⟨F',hF'⟩:∃ F',b.cells=.rcd p ps a bd::F':=by
      cases hc:b.cells with
      | nil=>rw [hc] at gl;simp at gl
      | cons x F'=>
       rw [hc] at g3;rcases g3.1 with h | ⟨_,h⟩
       ·exact ⟨F',by rw [h]⟩
       ·simp at h
     refine .ofRec (hrr.trans hr0) ⟨by rw [h1,g2],r,h2,p,ps,a,bd,F',hF',q2,q3,q4,q5,?_,fun k v hv=>?_⟩
     ·rw [hF'] at gl;rw [←q6];simpa using gl
     ·obtain ⟨v',e1,e2⟩:=gg (k+1) v (by rw [hF'];simpa using hv);exact Ii (by rw [hl];exact e2) (q7 k v' (by simpa using e1))
    | false=>
    obtain ⟨h1,cs,ty,fz,h2,h3,h5,h6,h7⟩:=this.cs hr0;refine .of (hrr.trans hr0) ⟨by rw [h1,g2],cs,ty,fz,h2,h3,by omega,fun k v hv=>?_,h7⟩;obtain ⟨v',e1,e2⟩:=gg k v hv;obtain ⟨cv,e3,e4⟩:=h6 k v' e1;exact ⟨cv,e3,Ii (by rw [hl];exact e2) e4⟩
   | some none,this=>
    have hc:b'.cells=[]:=this;show b.cells=[];rw [hc] at gl;exact List.length_eq_zero_iff.1 (by simpa using gl)
  ·have:(ρ.push none).rw[H'.length]?=some none:=by simp [Env.push,←hl]
   rw [this];rfl
 ·have r3:=none' i x q3;have r4:=none' j x' q4;have l3:i<H'.length:=by rw [←hl];exact (List.getElem?_eq_some_iff.1 r3).1
  have l4:j<H'.length:=by rw [←hl];exact (List.getElem?_eq_some_iff.1 r4).1
  rw [List.getElem?_append_left (by omega)] at q1;rw [List.getElem?_append_left (by omega)] at q2;obtain ⟨b1,g1,_⟩:=hget i b q1;obtain ⟨b2,g2,_⟩:=hget j b' q2;exact h4.inj i j b1 b2 x x' g1 g2 r3 r4 q5
 ·have r2:=none' j e q2;have l2:j<H'.length:=by rw [←hl];exact (List.getElem?_eq_some_iff.1 r2).1
  rw [List.getElem?_append_left (by omega)] at q1;obtain ⟨b1,g1,_⟩:=hget j x q1;exact (h4.ro i b d hr).2.1 j b1 e g1 r2
theorem oP {C:A2} {ρ:Env} {H':Hp} {w:World} {F F':Fr} {a:Act} (h4:B0 C ρ H' w) (hF:Bd H'.length F F') (h:D5 ρ F' a):D5 (ρ.push none) F a:=by
 obtain ⟨gl,gg⟩:=Pb hF;refine ⟨h.nod,by rw [gl,h.len],fun i v hv=>?_⟩;obtain ⟨v',e1,e2⟩:=gg i v hv;exact Ii (by rw [h4.len];exact e2) (h.val i v' e1)
theorem iW {ρ:Env} {w:World}:Frm ρ w (ρ.push none) w:=by
 have none':∀ (i:Nat) x,(ρ.push none).rw[i]?=some (some x)→ρ.rw[i]?=some (some x):=fun i x hx=>by
  rcases R9 ρ none i _ hx with ⟨_,h⟩ | ⟨_,h⟩
  ·exact h
  ·simp at h
 exact ⟨rfl,rfl,rfl,Nat.le_refl _,fun _ _ _=>rfl,fun i x hx=>.inl ⟨i,x,none' i x hx,rfl⟩,fun _ _ _ h=>h,fun _ _ _ h=>.inl h,fun _ h=>.inl h⟩
theorem AWp.nil {C:A2} {m:Nat} {c:Code} {F F':Fr} {H H':Hp} {Q:Post} (e:Nat) (hm:m≤H'.length) (hF:Bd H'.length F F') (hH:Pd H'.length H H') (h:AWp C m c F (H++[some ⟨e,[]⟩]) Q):AWp C m c F' H' Q:=by
 intro r hr ρ a w h4 h5
 have:=h r hr (ρ.push none) a w (iV e hH h4) (oP h4 hF h5)
 refine Code.wpIn_mono (fun e' a' w' h=>AP.link ?_ iW h) this;intro i hi
 have:i<ρ.rw.length:=by rw [h4.len];omega
 simp [Env.push,List.getElem?_append_left this]
theorem fixes1 {θ:List Nat}:∀ i,i<1→(0::θ).getD i 0=i:=fun i hi=>by
 have:i=0:=by omega
 subst this;rfl
theorem fA {θ:List Nat}:∀ i,i<2→(0::1::θ).getD i 0=i:=fun i hi=>by
 have:i=0∨i=1:=by omega
 rcases this with rfl | rfl<;>rfl
theorem C2.renM {m:Nat} {θ:List Nat} {F F':Fr} {H H':Hp} (hm:m≤H.length) (hfix:∀ i,i<m→θ.getD i 0=i) (hnd:θ.Nodup) (hb:Nr θ H' H.length θ H) (hF:A4 H.length F=true) (hF':wk (rens θ F) F'):C2 m F H F' H':=by
 obtain ⟨θ',g1,_,_,g2,g3,g4,g5,g6⟩:=(C2.ren hnd hb hF hF').ex;have hl:=Np hb;have hg:=Nq hb;refine ⟨θ,hl,hm,hfix,fun i hi=>(hg i hi).1,fun i j b b' h1 h2 he=>?_,fun i b h=>?_,g5,fun k v hk=>?_⟩
 ·have hi:i<θ.length:=by rw [hl];exact (List.getElem?_eq_some_iff.1 h1).1
  have hj:j<θ.length:=by rw [hl];exact (List.getElem?_eq_some_iff.1 h2).1
  simp only [List.getD,List.getElem?_eq_getElem hi,List.getElem?_eq_getElem hj,Option.getD_some] at he;exact (List.getElem_inj hnd).1 he
 ·have hi:i<θ.length:=by rw [hl];exact (List.getElem?_eq_some_iff.1 h).1
  obtain ⟨q1,q2⟩:=(hg i hi).2 b h;refine ⟨_,q2,by rw [K8];simp,rfl,fun k v hk=>?_,fun _=>⟨by rw [K8];simp,by rw [K8];simp⟩⟩;rw [J8,List.all_eq_true] at q1;refine ⟨by rw [hl];exact q1 v (List.mem_of_getElem? hk),.inr ?_⟩;rw [K8];simp [hk]
 ·rw [J8,List.all_eq_true] at hF;refine ⟨by rw [hl];exact hF v (List.mem_of_getElem? hk),?_⟩;rcases Uc hF' k (Go.Am.C1 θ v) (by rw [K8];simp [hk]) with h | h
  ·left;cases v with
   | undef=>rfl
   | ptr r o=>cases r<;>simp [Go.Am.C1] at h
   | slice m r o n=>cases r<;>simp [Go.Am.C1] at h
   | _=>simp [Go.Am.C1] at h
  ·exact .inr h
theorem Zs {k:Nat} {f g:Nat→AV}:∀ (l:List Nat),(∀ i∈l,Mu k (f i) (g i))→Bd k (l.map f) (l.map g)
 | [],_=>trivial
 | x::l,h=>⟨h x (by simp),Zs l fun i hi=>h i (by simp [hi])⟩
theorem Ve {k i:Nat}:∀ (live:List Nat) (vs vs':List AV),Bd k vs vs'→Mu k ((((live.zip vs).find? fun p=>Nat.beq p.1 i).map (·.2)).getD .undef) ((((live.zip vs').find? fun p=>Nat.beq p.1 i).map (·.2)).getD .undef)
 | [],_,_,_=>by simp [Mu]
 | j::live,[],[],_=>by simp [Mu]
 | j::live,[],_::_,h=>h.elim
 | j::live,_::_,[],h=>h.elim
 | j::live,x::vs,y::vs',h=>by
  simp only [List.zip_cons_cons,List.find?_cons];split
  ·simpa using h.1
  ·exact Ve live vs vs' h.2
theorem sM {k N:Nat} {live:List Nat} {vs vs':List AV} (h:Bd k vs vs'):Bd k (fl N live vs) (fl N live vs'):=
 Zs _ fun i _=>Ve live vs vs' h
theorem AWp.pin {C:A2} {m m':Nat} {c:Code} {F:Fr} {H:Hp} {Q:Post} (hm:m'≤m) (h:AWp C m c F H Q):AWp C m' c F H Q:=by
 intro r hr ρ a w hH hF;refine Code.wpIn_mono ?_ (h r hr ρ a w hH hF);rintro e a' w' ⟨ae,ρ',F',H',h1,h2,h3,h4⟩;exact ⟨ae,ρ',F',H',h1,h2,fun i hi=>h3 i (by omega),h4⟩
theorem H5.of {C:A2} {M:Nat} {c:Code} {d:DL} (h:∀ vs H o,d.S vs H=some o→∀ n (Q:Ex→List AV→Hp→Prop),I0 C.G (fun e vs' H'=>Q e (vVs C.G vs') (B8 C.G H')) n o→
  AWp C M (.loop c) (fl d.N d.live (vVs C.G vs)) (B8 C.G H) (lv d.N d.live (Lp M Q))):H5 C M c d:=
 fun m vs H o hm ho n Q hQ=>((h vs H o ho n Q hQ).pin hm).lmono fun e vs H' hl=>hl.pin hm
theorem jF {n:Nat}:∀ (F:Fr),A4 n F=true→fv n F F
 | [],_=>trivial
 | x::F,h=>by
  simp only [A4,Bool.and_eq_true] at h
  have:=jF F h.2
  cases x<;>first | exact this | exact ⟨⟨h.1,rfl⟩,this⟩
theorem zA {n N:Nat} {live:List Nat} {vs:List AV} (h:A4 n vs=true):A4 n (fl N live vs)=true:=by
 rw [J8,List.all_eq_true];intro v hv;obtain ⟨i,hi⟩:=List.getElem?_of_mem hv;rcases eZ hi with rfl | ⟨j,_,h2⟩
 ·rfl
 ·rw [J8,List.all_eq_true] at h;exact h v (List.mem_of_getElem? h2)
theorem AWp.forget {C:A2} {m:Nat} {c:Code} {N:Nat} {live:List Nat} {vs:List AV} {H G:Hp} {Q:Post} (hm:m≤H.length) (hb:J5 H.length H=true) (hv:A4 H.length vs=true) (h:AWp C m c (fl N live vs) H Q):AWp C m c (fl N live vs) (H++G) Q:=
 h.pre (C2.same hm hb (jF _ (zA hv)))
end Go.Am
namespace Go
theorem DataW.TrodAll.len {H:Type} {enc:TypeId×Value→H} {P:Program} {w:World} {base:Nat} {spare:Nat→Bool} {held:Bool}:∀ {ts:List TypeId} {vs:List Value} {ds:List (DataW H)} {ps:List MemPlace},DataW.TrodAll enc P w base spare held ts vs ds ps→vs.length=ts.length∧ds.length=ts.length
 | [],vs,ds,ps,h=>by
  obtain ⟨rfl,rfl,rfl⟩:=ChangeShapes.trodAll_nil h;exact ⟨rfl,rfl⟩
 | t::ts,vs,ds,ps,h=>by
  obtain ⟨v,vs,d,ds,p,q,rfl,rfl,rfl,h1,h2⟩:=ChangeShapes.trodAll_cons h
  have:=DataW.TrodAll.len h2
  simp [this]
end Go
namespace Go.Am
section
variable {H:Type} {P:Program} {L:List RoE} {n:Nat} {t e:TypeId} {cs:List AV} {a:AV} {d:DataW H}
theorem F7.asBool (ht:P.underlying t=some .bool) (h:F7 P L (n+1) t cs d):∃ b,cs=[.bool b]∧d=.lit (.bool b):=by unfold F7 at h;rw [ht] at h;exact h
theorem F7.asInt {k:IntKind} (ht:P.underlying t=some (.int k)) (h:F7 P L (n+1) t cs d):∃ i,cs=[.int k i]∧(Lit.int k i).wf=true∧d=.lit (.int k i):=by unfold F7 at h;rw [ht] at h;exact h
theorem F7.asSlice (ht:P.underlying t=some (.slice e)) (h:F7 P L (n+1) t cs d):(cs=[.nils]∧d=.nil)∨∃ (k:Nat) (ds sp:List (DataW H)) (en:RoE),cs=[.slice false (.ro k) 0 ds.length]∧d=.slice ds sp∧L[k]?=some en∧
    en.cells.length=ds.length*P.cellsOf e∧ds.length+sp.length≤maxLen∧∀ (i:Nat) x,ds[i]?=some x→F7 P L n e ((en.cells.drop (i*P.cellsOf e)).take (P.cellsOf e)) x:=by unfold F7 at h;rw [ht] at h;exact h
theorem F7.asStruct {fs:Array Field} (ht:P.underlying t=some (.struct fs)) (h:F7 P L (n+1) t cs d):cs.length=P.cellsOf t∧∃ ds,d=.agg ds∧ds.length=fs.size∧∀ (i:Nat) f x,fs[i]?=some f→ds[i]?=some x→F7 P L n f.type ((cs.drop f.offset).take (P.cellsOf f.type)) x:=by unfold F7 at h;rw [ht] at h;exact h
theorem Wt {k:Nat} {en:RoE} (h:L[k]?=some en):GL L k=en.cells:=by simp [GL,h]
theorem wf_u8 {i:Int} (h:(Lit.int .u8 i).wf=true):0≤i∧i≤255:=by simpa [Lit.wf,IntKind.min,IntKind.max,IntKind.signed,IntKind.bits] using h
theorem zG {i:Int} (h:(Lit.int .i64 i).wf=true):-9223372036854775808≤i∧i≤9223372036854775807:=by simpa [Lit.wf,IntKind.min,IntKind.max,IntKind.signed,IntKind.bits] using h
theorem Cs.struct {fs:Array Field} (ht:P.underlying t=some (.struct fs)) (h:Cs P L n t a d):∃ cs,a=.agg cs∧F7 P L n t cs d:=by unfold Cs at h;rw [ht] at h;exact h
theorem Fu.nil {xs:List AV} {ds:List (DataW H)} (h:Fu P L n [] xs ds):xs=[]∧ds=[]:=by
 match xs,ds,h with
 | [],[],_=>exact ⟨rfl,rfl⟩
theorem Fu.cons {ts:List TypeId} {xs:List AV} {ds:List (DataW H)} (h:Fu P L n (t::ts) xs ds):∃ x xs' d ds',xs=x::xs'∧ds=d::ds'∧Cs P L n t x d∧Fu P L n ts xs' ds':=by
 match xs,ds,h with
 | x::xs,d::ds,h=>exact ⟨x,xs,d,ds,rfl,rfl,h.1,h.2⟩
theorem Ws {L:List RoE} {k:Nat} (h:L.length≤k):GL L k=[]:=by simp [GL,h]
theorem Hu {ρ:Env} {v:Value} (k o:Nat) (h:VR ρ .nils v):VR ρ (.slice true (.ro k) o 0) v:=by
 simp only [VR] at h ⊢;subst h;exact ⟨none,0,rfl,Nat.le_refl _,.inl ⟨rfl,rfl,rfl⟩⟩
theorem N3 {ρ:Env} {v:Value} {mb:Bool} {r:Ref} {o m:Nat} (h:VR ρ (.slice mb r o m) v):VR ρ (.slice true r o m) v:=by
 simp only [VR] at h ⊢;obtain ⟨ca,cap,h1,h2,h3⟩:=h;refine ⟨ca,cap,h1,h2,?_⟩;rcases h3 with ⟨h3,h4,_⟩ | h3
 ·exact .inl ⟨h3,h4,rfl⟩
 ·exact .inr h3
end
end Go.Am
namespace Go.Am
variable {C:A2}
theorem Dj {G:Nat→List AV} {H:DHp} {i:Nat} {b:Iw} (hi:H[i]?=some (some b)):(B8 G H).set i (some (C8 G b))=B8 G H:=by
 have hg:=E9 (G:=G) hi;have hlt:i<(B8 G H).length:=(List.getElem?_eq_some_iff.1 hg).1
 have:(B8 G H)[i]=some (C8 G b):=by
  have:=hg
  rw [List.getElem?_eq_getElem hlt] at this;simpa using this
 rw [←this];exact List.set_getElem_self hlt
theorem E0.new0 {f:FuncId} {args0:List AV} {args:List EV} {H:DHp} {b:Iw} {v:EV} {v0:AV} (h:ACalls C f args0 [] fun v' H'=>v'=v0∧H'=[some (C8 C.G b)])
  (hb:A4 0 (vL C.G b.cells)=true) (ha:A4 0 args0=true) (he:vVs C.G args=args0) (hv0:A8 1 v0=true) (hv:vV C.G v=C1 [H.length] v0):E0 C f args H v [.new b]:=by
 have key:=Vu h [] rfl (by simp) (fun k b hk=>by simp at hk) (H:=B8 C.G H) (by simpa using ha) (fun v1 H0' hk=>by
  obtain ⟨rfl,rfl⟩:=hk;refine ⟨by simp,hv0,fun k b' hb'=>?_⟩
  match k with
  | 0=>simp at hb';subst hb';exact I3 (Nat.zero_le _) _ hb
  | k+1=>simp at hb')
 unfold E0;rw [he,show args0=rens [] args0 from (B5 _ _ ha).symm];refine key.monoK ?_;rintro v' H' ⟨v1,H0',⟨rfl,rfl⟩,rfl,rfl⟩;refine ⟨by rw [hv];simp [R3,D9],?_⟩;simp only [List.map_cons,List.map_nil,acts,Hop.act,I1,T8,lay,List.length_nil,List.drop_zero,U4,Option.map_some];congr 2;simp only [K2,C8,B5 _ _ hb]
end Go.Am
namespace Go.Am
variable {C:A2}
theorem Xy {n:Nat}:∀ {H:Hp},J5 n H=true→∀ (i:Nat) b,H[i]?=some (some b)→A4 n b.cells=true
 | [],_,i,b,h=>by simp at h
 | none::H,hb,i,b,h=>by
  cases i with
  | zero=>simp at h
  | succ i=>exact Xy (H:=H) (by simpa [J5] using hb) i b (by simpa using h)
 | some b0::H,hb,i,b,h=>by
  simp only [J5,Bool.and_eq_true] at hb;cases i with
  | zero=>simp at h;subst h;exact hb.1
  | succ i=>exact Xy (H:=H) hb.2 i b (by simpa using h)
theorem E0.fr {f:FuncId} {args0:List AV} {args:List EV} {H:DHp} {θ:List Nat} {H0 H1:Hp} {v0:AV} {v:EV} {hs:List DHop} (hnd:θ.Nodup) (hl:θ.length=H0.length)
  (hlive:∀ (i:Nat) b,H0[i]?=some b→∃ b0,b=some b0∧A4 θ.length b0.cells=true∧(B8 C.G H)[θ.getD i 0]?=some (some (K2 θ b0)))
  (ha:A4 θ.length args0=true) (he:vVs C.G args=rens θ args0) (h:ACalls C f args0 H0 fun v' H'=>v'=v0∧H'=H1) (hle:H0.length≤H1.length) (hv0:A8 H1.length v0=true) (hb:J5 H1.length H1=true)
  (hv:vV C.G v=C1 (R3 θ H.length (H1.length - θ.length)) v0) (hm:acts (B8 C.G H) (hs.map (I1 C.G))=T8 θ (B8 C.G H) H1):E0 C f args H v hs:=by
 have key:=Vu h θ hl hnd hlive ha (fun v1 H0' hk=>by
  obtain ⟨rfl,rfl⟩:=hk
  exact ⟨hle,hv0,Xy hb⟩)
 unfold E0;rw [he];refine key.monoK ?_;rintro v' H' ⟨v1,H0',⟨rfl,rfl⟩,rfl,rfl⟩;exact ⟨by rw [hv,D9],hm.symm⟩
theorem dX (θ':List Nat):∀ (θ:List Nat) (bs:List (Option Blk)) (H:Hp),(∀ (i:Nat) b,i<θ.length→bs[i]?=some b→H[θ.getD i 0]?=some (U4 θ' b))→lay θ' θ bs H=H
 | [],_,_,_=>by simp [lay]
 | _::_,[],_,_=>by simp [lay]
 | j::θ,b::bs,H,h=>by
  have h0:=h 0 b (by simp) rfl;have hj:H[j]?=some (U4 θ' b):=by simpa using h0
  have hlt:j<H.length:=(List.getElem?_eq_some_iff.1 hj).1
  have e:H.set j (U4 θ' b)=H:=by
   have:H[j]=U4 θ' b:=by rw [List.getElem?_eq_getElem hlt] at hj;simpa using hj
   rw [←this];exact List.set_getElem_self hlt
  simp only [lay,e]
  exact dX θ' θ bs H fun i b' hi hb=>by
   have:=h (i+1) b' (by simpa using hi) (by simpa using hb)
   simpa using this
theorem E0.newN {f:FuncId} {args0:List AV} {args:List EV} {H:DHp} {θ:List Nat} {H0:Hp} {b:Iw} {v0:AV} {v:EV} (hnd:θ.Nodup) (hl:θ.length=H0.length)
  (hlive:∀ (i:Nat) b,H0[i]?=some b→∃ b0,b=some b0∧A4 θ.length b0.cells=true∧(B8 C.G H)[θ.getD i 0]?=some (some (K2 θ b0)))
  (ha:A4 θ.length args0=true) (he:vVs C.G args=rens θ args0) (h:ACalls C f args0 H0 fun v' H'=>v'=v0∧H'=H0++[some (C8 C.G b)]) (hb:A4 0 (vL C.G b.cells)=true) (hv0:A8 (H0.length+1) v0=true)
  (hv:vV C.G v=C1 (R3 θ H.length 1) v0):E0 C f args H v [.new b]:=by
 have hH0:∀ (i:Nat) x,H0[i]?=some (some x)→A4 θ.length x.cells=true:=fun i x hx=>by
  obtain ⟨b0,e,g,_⟩:=hlive i _ hx;simp at e;subst e;exact g
 have hpb:J5 (H0++[some (C8 C.G b)]).length (H0++[some (C8 C.G b)])=true:=by
  have key:∀ (n:Nat) (A:Hp),(∀ (i:Nat) x,A[i]?=some (some x)→A4 n x.cells=true)→J5 n A=true:=by
   intro n A
   induction A with
   | nil=>intro _;rfl
   | cons x A ih=>
    intro g
    have:=ih fun i y hy=>g (i+1) y (by simpa using hy)
    cases x with
    | none=>simpa [J5] using this
    | some x=>simp only [J5,Bool.and_eq_true];exact ⟨g 0 x rfl,this⟩
  refine key _ _ fun i x hx=>?_;by_cases hi:i<H0.length
  ·rw [List.getElem?_append_left hi] at hx;exact I3 (by simp;omega) _ (hH0 i x hx)
  ·rw [List.getElem?_append_right (by omega)] at hx
   have:i - H0.length=0:=by have:=(List.getElem?_eq_some_iff.1 hx).1;simp at this;omega
   rw [this] at hx;simp at hx;subst hx;exact I3 (Nat.zero_le _) _ hb
 have hd:(H0++[some (C8 C.G b)]).length - θ.length=1:=by simp;omega
 refine E0.fr hnd hl hlive ha he h (by simp) (by simpa using hv0) hpb (by rw [hd];exact hv) ?_;unfold T8;rw [hd]
 have e1:lay (R3 θ (B8 C.G H).length 1) θ (H0++[some (C8 C.G b)]) (B8 C.G H)=B8 C.G H:=by
  refine dX _ _ _ _ fun i x hi hx=>?_;rw [List.getElem?_append_left (by omega)] at hx;obtain ⟨b0,rfl,g1,g2⟩:=hlive i x hx;rw [g2];simp only [U4,Option.map_some,K2,Fz _ g1]
 rw [e1,hl];simp [acts,Hop.act,I1,U4,K2,C8,B5 _ _ hb]
end Go.Am
namespace Go.Am
end Go.Am
namespace Go.Am
open Go.ChangeShapes Go.WideShapes Go.ChangeAt Go.RowKit
end Go.Am
namespace Go.Am
variable {C:A2}
def Zk (H:DHp) (x:EV):Option (EL×EN):=
 match x with
 | .nils=>some (.of [],.lit 0)
 | .slice _ (.ro k) (.lit 0) n=>some (.ro k,n)
 | .slice _ (.rw i) (.lit 0) n=>match H[i]? with
  | some (some b)=>match Pk b with
   | true=>none
   | false=>some (b.cells,n)
  | _=>none
 | _=>none
theorem nZ {H:DHp} {x:EV} {L:EL} {n:EN} (h:Zk H x=some (L,n)) :
  ∃ r:Ref,(∀ (ρ:Env) v,VR ρ (vV C.G x) v→VR ρ (.slice true r 0 (vN C.G n)) v)∧(vL C.G L=[]∨D0 C (B8 C.G H) r=some (vL C.G L)):=by
 unfold Zk at h;split at h
 ·simp only [Option.some.injEq,Prod.mk.injEq] at h;obtain ⟨rfl,rfl⟩:=h;exact ⟨.ro 0,fun ρ v hv=>Hu _ _ (by simpa only [vV] using hv),.inl (by simp only [vL,vVs])⟩
 ·simp only [Option.some.injEq,Prod.mk.injEq] at h;obtain ⟨rfl,rfl⟩:=h;rename_i mb k n';refine ⟨.ro (vN C.G k),fun ρ v hv=>?_,.inr (by simp only [D0,vL])⟩;simp only [vV,vR,vN] at hv;exact N3 hv
 ·rename_i mb i n';split at h
  ·rename_i b hb;split at h
   ·simp at h
   ·rename_i hr;simp only [Option.some.injEq,Prod.mk.injEq] at h;obtain ⟨rfl,rfl⟩:=h;refine ⟨.rw i,fun ρ v hv=>?_,.inr ?_⟩
    ·simp only [vV,vR,vN] at hv;exact N3 hv
    ·have hr:isRec (C8 C.G b)=false:=hr;simp only [D0,E9 hb];rw [hr];rfl
  ·simp at h
 ·simp at h
theorem lM {cs:List AV} (h:A4 0 cs=true∧O9 cs=true) (j:Nat) (v:AV) (hv:cs[j]?=some v) (σ:Sig):E6 v=true∧sb σ 0 v=v:=by
 have key:∀ {l:List AV},A4 0 l=true→O9 l=true→∀ v∈l,A8 0 v=true∧O0 v=true:=by
  intro l
  induction l with
  | nil=>intro _ _ v hv;simp at hv
  | cons x l ih=>
   intro h1 h2 v hv;simp only [A4,O9,Bool.and_eq_true] at h1 h2;rcases List.mem_cons.1 hv with rfl | hv
   ·exact ⟨h1.1,h2.1⟩
   ·exact ih h1.2 h2.2 v hv
 obtain ⟨h1,h2⟩:=key h.1 h.2 v (List.mem_of_getElem? hv);exact ⟨Pz v h1,Qu v h2⟩
theorem E0.rdN {f:FuncId} {args:List EV} {H:DHp} {v:EV} {σ:Sig} {G':Nat→List AV} {args0:List AV} (hs:mH C (B8 C.G H) σ G') (ha:I4 args0=true) (hw:∀ (ρ:Env) vs,VRs ρ (vVs C.G args) vs→VRs ρ (sbs σ 0 args0) vs)
  (h:∀ B,ACalls ⟨C.P,G',B⟩ f args0 [] fun v' _=>v'=vV C.G v) (hv:A8 0 (vV C.G v)=true∧O0 (vV C.G v)=true):E0 C f args H v []:=by
 unfold E0;refine ((Xi hs h ha rfl (fun v' e=>by subst e;exact hv)).weaken hw).monoK ?_;rintro v' H' ⟨rfl,rfl⟩;exact ⟨rfl,by simp [acts]⟩
end Go.Am
namespace Go.Am
variable {C:A2}
end Go.Am
namespace Go.Am
variable {C:A2}
def sP (k:Nat):AV→AV→Prop
 | .tup xs,.tup ys=>Bd k xs ys
 | x,y=>Mu k x y
theorem Zr {ρ:Env}:∀ {xs ys:List AV} {cv:List Value},Bd ρ.rw.length xs ys→VRs ρ ys cv→VRs (ρ.push none) xs cv
 | [],[],_,_,h=>h
 | [],_::_,_,h,_=>h.elim
 | _::_,[],_,h,_=>h.elim
 | x::xs,y::ys,cv,h,hv=>by
  simp only [VRs] at hv ⊢;obtain ⟨v,vs,e,h1,h2⟩:=hv;exact ⟨v,vs,e,Ii h.1 h1,Zr h.2 h2⟩
theorem sO {ρ:Env} {x y:AV} {cv:Value} (h:sP ρ.rw.length x y) (hv:VR ρ y cv):VR (ρ.push none) x cv:=by
 unfold sP at h;split at h
 ·simp only [VR] at hv ⊢;obtain ⟨vs,e,hs⟩:=hv;exact ⟨vs,e,Zr h hs⟩
 ·exact Ii h hv
theorem ACalls.nil {f:FuncId} {args:List AV} {H:Hp} {K K':AV→Hp→Prop} (e:Nat) (h:ACalls C f args H K) (hk:∀ v H',K v H'→K' v H'∨∃ v',K' v' (H'++[some ⟨e,[]⟩])∧Pd H'.length H' H'∧sP H'.length v' v):ACalls C f args H K':=by
 refine ⟨h.1,fun ρ w cargs hH hv=>(h.2 ρ w cargs hH hv).mono ?_⟩;rintro ex w' ⟨v,cv,ρ',H',rfl,h2,h3,h4,h5,h6⟩;rcases hk v H' h2 with g | ⟨v',g1,g2,g3⟩
 ·exact ⟨v,cv,ρ',H',rfl,g,h3,h4,h5,h6⟩
 ·refine ⟨v',cv,ρ'.push none,_,rfl,g1,?_,iV e g2 h4,sO (by rw [h4.len];exact g3) h5,h6.trans iW⟩;have hl:=Env.le_push ρ' none;refine ⟨fun i x hx=>hl.1 i x (h3.1 i x hx),fun i b d h=>hl.2 i b d (h3.2 i b d h),fun D hD=>hl.3 D (h3.3 D hD)⟩
theorem Pc {k:Nat}:∀ (H:Hp),Pd k H H
 | []=>trivial
 | none::H=>Pc H
 | some b::H=>⟨⟨rfl,Bc _⟩,Pc H⟩
theorem ACalls.conv {f:FuncId} {args:List AV} {H:Hp} {K K':AV→Hp→Prop} (h:ACalls C f args H K) (hk:∀ v H',K v H'→∃ v',K' v' H'∧∀ (ρ:Env) cv,VR ρ v cv→VR ρ v' cv):ACalls C f args H K':=by
 refine ⟨h.1,fun ρ w cargs hH hv=>(h.2 ρ w cargs hH hv).mono ?_⟩;rintro ex w' ⟨v,cv,ρ',H',rfl,h2,h3,h4,h5,h6⟩;obtain ⟨v',g1,g2⟩:=hk v H' h2;exact ⟨v',cv,ρ',H',rfl,g1,h3,h4,g2 _ _ h5,h6⟩
end Go.Am
namespace Go.Am
variable {C:A2}
theorem Bl {m:Nat} {c:Code} {N:Nat} {live:List Nat} {Q:Ex→List AV→Hp→Prop} (n:Nat) (st:Nat→List AV) (hp:Nat→Hp)
  (h:∀ i,i≤n→AWp C m c (fl N live (st i)) (hp i) (lv N live fun e vs H=>match e with
   | .normal=>i<n∧((vs=st (i+1)∧H=hp (i+1))∨C2 m (st (i+1)) (hp (i+1)) vs H)
   | e=>Q e vs H)):AWp C m (.loop c) (fl N live (st 0)) (hp 0) (lv N live Q):=by
 refine U8 (fun j vs H=>∃ i:Nat,i≤n∧j=n - i∧vs=st i∧H=hp i) n ⟨0,by omega,rfl,rfl,rfl⟩ ?_;rintro j vs H ⟨i,hi,rfl,rfl,rfl⟩;refine (h i hi).lmono ?_;intro e vs' H' hq
 match e,hq with
 | .normal,⟨hin,hq⟩=>
  refine ⟨n - (i+1),by omega,?_⟩;rcases hq with ⟨rfl,rfl⟩ | hq
  ·exact .inl ⟨i+1,by omega,rfl,rfl,rfl⟩
  ·exact .inr ⟨_,_,⟨i+1,by omega,rfl,rfl,rfl⟩,hq⟩
 | .ret,hq=>exact hq
 | .exit i,hq=>exact hq
mutual
def J2:AV→AV→Bool
 | .undef,.undef=>true
 | .bool a,.bool b=>a==b
 | .int k n,.int k' m=>k==k'&&n==m
 | .str s,.str t=>s==t
 | .nilp,.nilp=>true
 | .ptr r o,.ptr r' o'=>decide (r=r')&&Nat.beq o o'
 | .nils,.nils=>true
 | .slice b r o n,.slice b' r' o' n'=>b==b'&&(decide (r=r')&&(Nat.beq o o'&&Nat.beq n n'))
 | .nilf,.nilf=>true
 | .func f c,.func f' c'=>Nat.beq f f'&&W3 c c'
 | .agg c,.agg c'=>W3 c c'
 | .tup c,.tup c'=>W3 c c'
 | .yld i,.yld j=>Nat.beq i j
 | _,_=>false
termination_by structural x=>x
def W3:List AV→List AV→Bool
 | [],[]=>true
 | x::l,y::k=>J2 x y&&W3 l k
 | _,_=>false
termination_by structural x=>x
end
mutual
def Rc:AV→Bool
 | .rcd ..=>false
 | .func _ c=>Bx c
 | .agg c=>Bx c
 | .tup c=>Bx c
 | _=>true
def Bx:List AV→Bool
 | []=>true
 | x::l=>Rc x&&Bx l
end
mutual
theorem rD:∀ x y,J2 x y=true→x=y
 | .undef,y,h=>by cases y<;>simp [J2] at h ⊢
 | .bool a,y,h=>by cases y<;>simp [J2] at h ⊢;exact h
 | .int k n,y,h=>by cases y<;>simp [J2] at h ⊢;exact h
 | .str s,y,h=>by cases y<;>simp [J2] at h ⊢;exact h
 | .nilp,y,h=>by cases y<;>simp [J2] at h ⊢
 | .ptr r o,y,h=>by cases y<;>simp [J2] at h ⊢;exact h
 | .nils,y,h=>by cases y<;>simp [J2] at h ⊢
 | .slice b r o n,y,h=>by cases y<;>simp [J2] at h ⊢;exact h
 | .nilf,y,h=>by cases y<;>simp [J2] at h ⊢
 | .func f c,y,h=>by cases y<;>simp [J2] at h ⊢;exact ⟨h.1,Cx c _ h.2⟩
 | .agg c,y,h=>by cases y<;>simp [J2] at h ⊢;exact Cx c _ h
 | .tup c,y,h=>by cases y<;>simp [J2] at h ⊢;exact Cx c _ h
 | .yld i,y,h=>by cases y<;>simp [J2] at h ⊢;exact h
 | .rcd ..,y,h=>by cases y<;>simp [J2] at h
theorem Cx:∀ l k,W3 l k=true→l=k
 | [],k,h=>by cases k<;>simp [W3] at h ⊢
 | x::l,k,h=>by
  cases k with
  | nil=>simp [W3] at h
  | cons y k=>
   simp [W3] at h ⊢;exact ⟨rD x y h.1,Cx l k h.2⟩
end
mutual
theorem kI:∀ x,Rc x=true→J2 x x=true
 | .undef,h=>by simp [J2]
 | .bool a,h=>by simp [J2]
 | .int k n,h=>by simp [J2]
 | .str s,h=>by simp [J2]
 | .nilp,h=>by simp [J2]
 | .ptr r o,h=>by simp [J2]
 | .nils,h=>by simp [J2]
 | .slice b r o n,h=>by simp [J2]
 | .nilf,h=>by simp [J2]
 | .func f c,h=>by simp [J2];exact Z1 c (by simpa [Rc] using h)
 | .agg c,h=>by simp [J2];exact Z1 c (by simpa [Rc] using h)
 | .tup c,h=>by simp [J2];exact Z1 c (by simpa [Rc] using h)
 | .yld i,h=>by simp [J2]
 | .rcd ..,h=>by simp [Rc] at h
theorem Z1:∀ l,Bx l=true→W3 l l=true
 | [],h=>by simp [W3]
 | x::l,h=>by
  simp only [Bx,Bool.and_eq_true] at h;simp [W3,kI x h.1,Z1 l h.2]
end
def P2 (H:Hp):List AV:=H.map fun b=>match b with
 | some b=>.tup [.int .i64 (b.esz:Int),.agg b.cells]
 | none=>.undef
def bL (H:DHp):List EV:=H.map fun b=>match b with
 | some b=>.tup [.int .i64 (.lit (b.esz:Int)),.agg b.cells]
 | none=>.undef
theorem Rv {G:Nat→List AV}:∀ H:DHp,vVs G (bL H)=P2 (B8 G H)
 | []=>rfl
 | none::H=>by
  have:=Rv (G:=G) H
  simp only [bL,P2,B8,List.map_cons,vVs,vV,Option.map_none] at this ⊢;rw [this]
 | some b::H=>by
  have:=Rv (G:=G) H
  simp only [bL,P2,B8,List.map_cons,vVs,vV,vI,Option.map_some,C8] at this ⊢;rw [this]
theorem Tq:∀ H H':Hp,P2 H=P2 H'→H=H'
 | [],[],_=>rfl
 | [],_::_,h=>by simp [P2] at h
 | _::_,[],h=>by simp [P2] at h
 | b::H,b'::H',h=>by
  simp only [P2,List.map_cons,List.cons.injEq] at h;have h2:=Tq H H' h.2;subst h2;have h1:=h.1
  match b,b',h1 with
  | none,none,_=>rfl
  | none,some b',h1=>simp at h1
  | some b,none,h1=>simp at h1
  | some ⟨e,c⟩,some ⟨e',c'⟩,h1=>
   simp at h1;obtain ⟨h3,h4⟩:=h1
   have:e=e':=by omega
   subst this;subst h4;rfl
def cJ (vs0:List AV) (H0:Hp):List AV→Bool:=fun xs=>match xs with
 | [.agg vs,.agg hs]=>W3 vs vs0&&W3 hs (P2 H0)
 | _=>false
theorem xB {vs0 vs:List AV} {H0 H:Hp} (h:cJ vs0 H0 [.agg vs,.agg (P2 H)]=true):vs=vs0∧H=H0:=by
 simp only [cJ,Bool.and_eq_true] at h;exact ⟨Cx _ _ h.1,Tq _ _ (Cx _ _ h.2)⟩
theorem nH {vs0:List AV} {H0:Hp} (h:Bx vs0=true) (h':Bx (P2 H0)=true):cJ vs0 H0 [.agg vs0,.agg (P2 H0)]=true:=by
 simp only [cJ,Bool.and_eq_true];exact ⟨Z1 _ h,Z1 _ h'⟩
def Ky (c:Bool) (vs0:List AV) (H0:Hp):List AV→Bool:=fun xs=>c&&cJ vs0 H0 xs
theorem X2 {c:Bool} {vs0:List AV} {H0:Hp} (hc:c=true) (h:Bx vs0=true) (h':Bx (P2 H0)=true):Ky c vs0 H0 [.agg vs0,.agg (P2 H0)]=true:=by
 simp only [Ky,Bool.and_eq_true];exact ⟨hc,nH h h'⟩
def LOut.post (G:Nat→List AV) (m:Nat):LOut→Ex→List AV→Hp→Prop
 | .one e vs H=>fun e' vs' H'=>e'=e∧((wk (vVs G vs) vs'∧H'=B8 G H)∨C2 m (vVs G vs) (B8 G H) vs' H')
 | .tst b x y=>fun e' vs' H'=>(vB G b=true∧x.post G m e' vs' H')∨(vB G b=false∧y.post G m e' vs' H')
 | .chk _ x=>x.post G m
 | _=>fun _ _ _=>False
theorem Dr {G:Nat→List AV} {m:Nat} {Q:Ex→List AV→Hp→Prop} {e:Ex} {vs:List AV} {H:Hp}:∀ (o:LOut) (n:Nat),I0 G (fun e vs' H'=>Q e (vVs G vs') (B8 G H')) n o→o.post G m e vs H→Lp m Q e vs H
 | .one e' vs' H',n,h,hp=>by
  simp only [I0] at h;obtain ⟨rfl,hp⟩:=hp;rcases hp with ⟨h1,rfl⟩ | hp
  ·exact .inl ⟨_,h1,h⟩
  ·exact .inr ⟨_,_,hp,h⟩
 | .tst b x y,n,h,hp=>by
  simp only [I0] at h;rcases hp with ⟨hb,hp⟩ | ⟨hb,hp⟩
  ·exact Dr x n (h.1 hb) hp
  ·exact Dr y n (h.2 hb) hp
 | .chk b x,n,h,hp=>by
  simp only [I0] at h;exact Dr x n h.2 hp
 | .imp ..,n,h,hp=>hp.elim
 | .allI ..,n,h,hp=>hp.elim
 | .allN ..,n,h,hp=>hp.elim
 | .allB ..,n,h,hp=>hp.elim
 | .allL ..,n,h,hp=>hp.elim
 | .namI ..,n,h,hp=>hp.elim
 | .namN ..,n,h,hp=>hp.elim
 | .namB ..,n,h,hp=>hp.elim
 | .namL ..,n,h,hp=>hp.elim
def F9 (j:Nat) (q:List AV→Bool) (ex N:Nat) (live:List Nat) (o:LOut):DL:=
 ⟨ex,N,live,fun vs H=>some (.chk (.uf j q [.agg (.of vs),.agg (.of (bL H))]) o)⟩
theorem Bj {M:Nat} {c:Code} {j:Nat} {ex N:Nat} {live:List Nat} {o:LOut} {vs0:List AV} {H0:Hp} {q:List AV→Bool} {cb:Bool} (hq:q=Ky cb vs0 H0)
  (h:cb=true→AWp C M (.loop c) (fl N live vs0) H0 (lv N live (o.post C.G M))):H5 C M c (F9 j q ex N live o):=by
 refine .of fun vs H o' ho n Q hQ=>?_;simp only [F9,Option.some.injEq] at ho;subst ho;obtain ⟨h1,h2⟩:=hQ;simp only [vB,vVs,vV,vL,Rv] at h1;rw [hq] at h1;simp only [Ky,Bool.and_eq_true] at h1;obtain ⟨e1,e2⟩:=xB h1.2;rw [e1,e2];exact (h h1.1).lmono fun e vs H hp=>Dr o n h2 hp
end Go.Am
namespace Go.Am
open Go.RowKit
structure Ed (ops ops':Array Oper) (σ τ:Nat→Nat) (p q:Nat):Prop where
 inv:∀ k,σ (τ k)=k∧τ (σ k)=k
 op:∀ (k:Nat) o,ops[k]?=some o→o.guard=none∧∃ es,ops'[σ k]?=some { o with after:=es }∧
  (∀ e'∈es,Region.binds .any e'=true→(∃ e∈o.after,Region.binds .any e=true∧e'.on=σ e.on)∨(k=q∧e'.on=σ p))∧
  (∀ e∈o.after,Region.binds .any e=true→∃ e'∈es,Region.binds .any e'=true∧e'.on=σ e.on)
 op':∀ (k:Nat) o',ops'[k]?=some o'→∃ o,ops[τ k]?=some o
section
variable {F:Fence} {n:Nat} {P:Program} {ops ops':Array Oper} {σ τ:Nat→Nat} {p q:Nat} {Q:Exit→Act→World→Prop}
def Wx (σ:Nat→Nat) (listed listed':Array Bool):Prop:=∀ k,(∀ d,listed'.getD (σ k) d=listed.getD k d)
theorem Wx.set {σ τ:Nat→Nat} (hi:∀ k,σ (τ k)=k∧τ (σ k)=k) {listed listed':Array Bool} (h:Wx σ listed listed') (i:Nat):Wx σ (listed.setIfInBounds i true) (listed'.setIfInBounds (σ i) true):=by
 intro k d;by_cases hk:i=k
 ·subst hk;have h1:=h i;by_cases hb:i<listed.size
  ·have h2:σ i<listed'.size:=by
    by_cases h2:σ i<listed'.size
    ·exact h2
    ·have a:=h1 true;have b:=h1 false;simp only [Array.getD,h2,hb,dite_true,dite_false] at a b;rw [←a] at b;simp at b
   simp [Array.getD,hb,h2]
  ·have h2:¬σ i<listed'.size:=by
    intro h2;have a:=h1 true;have b:=h1 false;simp only [Array.getD,h2,hb,dite_true,dite_false] at a b;rw [a] at b;simp at b
   simp [Array.getD,hb,h2]
 ·have hne:σ i≠σ k:=fun e=>hk (by rw [←(hi i).2,e,(hi k).2]);rw [getD_set_ne d hk,getD_set_ne d hne];exact h k d
theorem Ed.ready (V:Ed ops ops' σ τ p q) {listed listed':Array Bool} (h:Wx σ listed listed') {k:Nat} (hk:k∈Region.ready .any ops listed) (hp:k=q→listed.getD p false=true):σ k∈Region.ready .any ops' listed':=by
 rw [mem_ready] at hk ⊢;obtain ⟨h1,o,ho,h2⟩:=hk;obtain ⟨_,es,g1,g2,_⟩:=V.op k o ho;refine ⟨by rw [h k];exact h1,_,g1,fun e' he' hb=>?_⟩;rcases g2 e' he' hb with ⟨e,x1,x2,x3⟩ | ⟨x1,x2⟩
 ·rw [x3,h];exact h2 e x1 x2
 ·rw [x2,h];exact hp x1
theorem Ed.back (V:Ed ops ops' σ τ p q) {listed listed':Array Bool} (h:Wx σ listed listed') {k:Nat} (hk:k∈Region.ready .any ops' listed'):τ k∈Region.ready .any ops listed:=by
 rw [mem_ready] at hk ⊢;obtain ⟨h1,o',ho',h2⟩:=hk;obtain ⟨o,ho⟩:=V.op' k o' ho';obtain ⟨_,es,g1,_,g3⟩:=V.op (τ k) o ho;rw [(V.inv k).1,ho'] at g1;simp only [Option.some.injEq] at g1;have hk':∀ d,listed'.getD k d=listed.getD (τ k) d:=fun d=>by have:=h (τ k) d;rw [(V.inv k).1] at this;exact this
 refine ⟨by rw [←hk'];exact h1,o,ho,fun e he hb=>?_⟩;obtain ⟨e',x1,x2,x3⟩:=g3 e he hb
 have:=h2 e' (by rw [g1];exact x1) x2
 rw [x3,h] at this;exact this
theorem Ed.step (V:Ed ops ops' σ τ p q) {k:Nat} {K:Act→World→Prop} {a:Act} {w:World} (hk:k<ops.size) (h:wpOpIn F n P ops' Q (σ k) K a w):wpOpIn F n P ops Q k K a w:=by
 obtain ⟨o,ho⟩:∃ o,ops[k]?=some o:=⟨_,Array.getElem?_eq_getElem hk⟩;obtain ⟨gn,es,g1,_⟩:=V.op k o ho;unfold wpOpIn at h ⊢;simp only [ho,g1] at h ⊢;have w1:∀ y,Region.wanted o y=true:=fun y=>by unfold Region.wanted;rw [gn]
 have w2:∀ y,Region.wanted { o with after:=es } y=true:=fun y=>by unfold Region.wanted;simp only [gn]
 rw [w2,if_pos rfl] at h;rw [w1,if_pos rfl];exact h
theorem cW {listed:Array Bool} {k:Nat} (h:k∈Region.ready .any ops listed):k<ops.size:=by
 rw [mem_ready] at h;obtain ⟨_,o,ho,_⟩:=h;exact (Array.getElem?_eq_some_iff.1 ho).1
theorem Ed.nil (V:Ed ops ops' σ τ p q) {listed listed':Array Bool} (h:Wx σ listed listed') (hn:Region.ready .any ops listed=[]):Region.ready .any ops' listed'=[]:=by
 refine List.eq_nil_iff_forall_not_mem.2 fun k hk=>?_
 have:=V.back h hk
 rw [hn] at this;simp at this
theorem Ed.one (V:Ed ops ops' σ τ p q):∀ (fuel:Nat) (listed listed':Array Bool) (a:Act) (w:World),Wx σ listed listed'→listed.getD p false=true→wpAnyIn F n P .any ops' Q fuel listed' a w→wpAnyIn F n P .any ops Q fuel listed a w
 | 0,listed,listed',a,w,h,hp,hw=>by
  unfold wpAnyIn at hw ⊢;refine ⟨List.eq_nil_iff_forall_not_mem.2 fun k hk=>?_,hw.2⟩
  have:=V.ready h hk fun _=>hp
  rw [hw.1] at this;simp at this
 | fuel+1,listed,listed',a,w,h,hp,hw=>by
  unfold wpAnyIn at hw ⊢;refine ⟨fun hn=>hw.1 (V.nil h hn),fun k hk=>?_⟩;refine V.step (cW hk) (wpOpIn_mono (fun a w hr=>V.one fuel _ _ a w (h.set V.inv k) (getD_set_true hp) hr) (hw.2 (σ k) (V.ready h hk fun _=>hp)))
end
def Wy (ops:Array Oper):Nat→Array Bool→List Nat→Prop
 | 0,_,l=>l=[]
 | _+1,listed,[]=>Region.ready .any ops listed=[]
 | fuel+1,listed,k::l=>k∈Region.ready .any ops listed∧Wy ops fuel (listed.setIfInBounds k true) l
theorem pH (ops:Array Oper):∀ (fuel t:Nat) (listed:Array Bool),Wy ops fuel listed (Region.linearise.go .any ops fuel t listed [])
 | 0,t,listed=>by simp [Region.linearise.go,Wy]
 | fuel+1,t,listed=>by
  simp only [Region.linearise.go]
  change Wy ops (fuel+1) listed (match (Region.ready .any ops listed)[t % (Region.ready .any ops listed).length]? with
   | some i=>Region.linearise.go .any ops fuel (t / (Region.ready .any ops listed).length) (listed.setIfInBounds i true) [i]
   | none=>[].reverse)
  cases hi:(Region.ready .any ops listed)[t % (Region.ready .any ops listed).length]? with
  | none=>
   have hnil:Region.ready .any ops listed=[]:=by
    cases hr:Region.ready .any ops listed with
    | nil=>rfl
    | cons x xs=>
     rw [hr] at hi;have hlt:t % (x::xs).length<(x::xs).length:=Nat.mod_lt _ (by simp);simp at hi;simp at hlt;omega
   simpa [Wy] using hnil
  | some i=>
   simp only [];rw [linearise_go_acc,List.reverse_singleton,List.singleton_append];exact ⟨List.mem_of_getElem? hi,pH ops fuel _ _⟩
section
variable {F:Fence} {n:Nat} {P:Program} {ops ops':Array Oper} {σ τ:Nat→Nat} {p q:Nat} {Q:Exit→Act→World→Prop}
theorem jT:∀ (fuel:Nat) (listed:Array Bool) (l:List Nat) (a:Act) (w:World),Wy ops fuel listed l→wpAnyIn F n P .any ops Q fuel listed a w→wpOpsIn F n P ops Q l a w
 | 0,listed,l,a,w,h,hw=>by
  simp only [Wy] at h;subst h;exact hw.2
 | fuel+1,listed,[],a,w,h,hw=>hw.1 h
 | fuel+1,listed,k::l,a,w,h,hw=>by
  rw [wpOpsIn_cons];exact wpOpIn_mono (fun a w hr=>jT fuel _ l a w h.2 hr) (hw.2 k h.1)
def Fst (p q:Nat):List Nat→Prop
 | []=>True
 | k::l=>k=p∨(k≠q∧Fst p q l)
theorem pI (p q:Nat):∀ l,Fst p q l∨Fst q p l
 | []=>.inl trivial
 | k::l=>by
  by_cases h1:k=p
  ·exact .inl (.inl h1)
  ·by_cases h2:k=q
   ·exact .inr (.inl h2)
   ·rcases pI p q l with h | h
    ·exact .inl (.inr ⟨h2,h⟩)
    ·exact .inr (.inr ⟨h1,h⟩)
theorem Ed.all (V:Ed ops ops' σ τ p q) (hpq:p≠q):∀ (fuel:Nat) (listed listed':Array Bool) (l:List Nat) (a:Act) (w:World),Wx σ listed listed'→p<listed.size→Fst p q l→Wy ops fuel listed l→wpAnyIn F n P .any ops' Q fuel listed' a w→wpOpsIn F n P ops Q l a w
 | 0,listed,listed',l,a,w,h,hp,hf,ha,hw=>by
  simp only [Wy] at ha;subst ha;exact hw.2
 | fuel+1,listed,listed',[],a,w,h,hp,hf,ha,hw=>hw.1 (V.nil h ha)
 | fuel+1,listed,listed',k::l,a,w,h,hp,hf,ha,hw=>by
  rw [wpOpsIn_cons]
  have hkq:k≠q:=by
   rcases hf with rfl | hf
   ·exact hpq
   ·exact hf.1
  refine V.step (cW ha.1) (wpOpIn_mono (fun a w hr=>?_) (hw.2 (σ k) (V.ready h ha.1 fun e=>absurd e hkq)));rcases hf with rfl | hf
  ·exact jT fuel _ l a w ha.2 (V.one fuel _ _ a w (h.set V.inv k) (by simp [Array.getD,hp]) hr)
  ·exact V.all hpq fuel _ _ l a w (h.set V.inv k) (by simpa using hp) hf.2 ha.2 hr
end
theorem two {F:Fence} {n:Nat} {P:Program} {ops ops1 ops2:Array Oper} {σ1 σ2 τ1 τ2:Nat→Nat} {i j:Nat} {id:Nat} {Q:Exit→Act→World→Prop} (hij:i≠j) (hi:i<ops.size) (hj:j<ops.size) (V1:Ed ops ops1 σ1 τ1 i j) (V2:Ed ops ops2 σ2 τ2 j i)
  (s1:ops1.size=ops.size) (s2:ops2.size=ops.size) (b1:∀ k,σ1 k<ops.size↔k<ops.size) (b2:∀ k,σ2 k<ops.size↔k<ops.size) (hm:P.follows .mixedOrders=true) {a:Act} {w:World}
  (w1:wpAnyIn F n P .any ops1 Q ops1.size (Array.replicate ops1.size false) a { w with drawn:=w.drawn+1 }) (w2:wpAnyIn F n P .any ops2 Q ops2.size (Array.replicate ops2.size false) a { w with drawn:=w.drawn+1 }):(Code.region id ops true).wpIn F n P Q a w:=
 wpIn_region_draw fun t=>by
  simp only [Region.schedule,hm,Bool.true_or,if_true];show wpOpsIn F n P ops Q (Region.linearise.go .any ops ops.size t (Array.replicate ops.size false) []) a _;have ha:=pH ops ops.size t (Array.replicate ops.size false)
  have agr:∀ {σ:Nat→Nat},(∀ k,σ k<ops.size↔k<ops.size)→Wx σ (Array.replicate ops.size false) (Array.replicate ops.size false):=fun hb k d=>by
   by_cases hk:k<ops.size
   ·simp [Array.getD,hk,(hb k).2 hk]
   ·simp [Array.getD,hk,mt (hb k).1 hk]
  rw [s1] at w1;rw [s2] at w2;rcases pI i j (Region.linearise.go .any ops ops.size t (Array.replicate ops.size false) []) with h | h
  ·exact V1.all hij _ _ _ _ _ _ (agr b1) (by simpa using hi) h ha w1
  ·exact V2.all (Ne.symm hij) _ _ _ _ _ _ (agr b2) (by simpa using hj) h ha w2
section
variable {K:Cfg} {lps:List Code}
theorem jM (hK:Ei K lps) {all:List Oper} {trs:List Tr} {F F':Fr} {H H':Hp} (ht:DT K all all F H trs F' H') (hd:S4 all trs=true) {ρ:Env} {a:Act} {w:World} (hH:B0 K.C ρ H w) (hF:D5 ρ F a)
  {r:Option Nat} {Q:Exit→Act→World→Prop} (hQ:∀ ρ' a' w',B0 K.C ρ' H' w'→D5 ρ' F' a'→ρ.le ρ'→Frm ρ w ρ' w'→Q .normal a' w'):wpAnyIn (W r) 0 K.C.P .any all.toArray Q all.toArray.size (Array.replicate all.toArray.size false) a { w with drawn:=w.drawn+1 }:=by
 obtain ⟨vs,h1,h2,h3,h4,h5⟩:=ht.spell;have hw:({ w with drawn:=w.drawn+1 }:World)=w.drew:=rfl;rw [hw];have hsz:all.toArray.size=all.length:=by simp
 rw [hsz];refine Ts (F0:=F) (H0:=H) (ρ0:=ρ) (w0:=w) hK hd h1 h2 h5 (fun a' w' hs=>?_) all.length _ a w.drew (by simp) ?_ ⟨fun j o _ hj=>?_,ρ,?_,?_,Env.le_refl ρ,(Frm.refl ρ w).drew⟩
 ·obtain ⟨ρ',g1,g2,g3,g4⟩:=hs.rel;rw [h4] at g1;rw [h3] at g2;exact hQ ρ' a' w' g1 g2 g3 g4
 ·rw [List.countP_eq_length.2]
  ·simp
  ·intro i hi
   have:=List.mem_range.1 hi
   simp [Array.getD]
 ·simp [Array.getD] at hj
 ·rw [Ay]
  ·exact hH.drew
  ·intro k _;simp [Array.getD]
 ·have none:∀ (l:List Oper) (vs:List AV) (i:Nat) (F:Fr),FSel (fun i=>(Array.replicate all.length false).getD i false) i l vs F=F:=by
   intro l
   induction l with
   | nil=>intro vs i F;simp [FSel]
   | cons o l ih=>
    intro vs i F;cases vs with
    | nil=>simp [FSel]
    | cons x vs=>
     simp only [FSel]
     have:(Array.replicate all.length false).getD i false=false:=by simp [Array.getD]
     rw [this];exact ih vs _ F
  rw [none];exact hF
end
noncomputable def ddr (K:DCfg) (fuel n0 m:Nat) (all:List Oper) (N:Nat) (live:List Nat) (vs:List EV) (H:DHp):T:=
 dx K fuel m (.dr all all []) (Vy N live vs) H (f0 n0) (fC N live)
theorem jO {C:A2} {K:DCfg} {fuel n0 m:Nat} {all:List Oper} {N:Nat} {live:List Nat} {vs:List EV} {H:DHp} {Q:Ex→List AV→Hp→Prop} (hK:DGood C K [])
  (h:vT C.G Q (fun _ _=>False) (ddr K fuel n0 m all N live vs H)):∃ trs F' H',DT (K0 C) all all (fl N live (vVs C.G vs)) (B8 C.G H) trs F' H'∧S4 all trs=true∧lv N live Q .normal F' H':=by
 have:=In hK fuel m (.dr all all []) (Vy N live vs) H (f0 n0) _ (lv N live Q) Q (fun _ _=>False) (fun e F1 H1 fs1 ht=>by
  unfold fC at ht;split at ht
  ·rename_i hb;simp only [vT,Ue] at ht;simp only [lv,Q3,hb];exact ht
  ·exact ht.elim) trivial h
 rw [Uf] at this;obtain ⟨trs,F',H',h1,h2,h3⟩:=this;exact ⟨trs,F',H',h1,by simpa using h2,h3⟩
theorem jL {C:A2} {K:DCfg} {fuel n0 m:Nat} {ops:Array Oper} {all1 all2:List Oper} {σ1 σ2 τ1 τ2:Nat→Nat} {i j id:Nat} {N:Nat} {live:List Nat} {vs:List EV} {H:DHp} {Q:Ex→List AV→Hp→Prop} (hK:DGood C K []) (hm:m≤H.length)
  (hij:i≠j) (hi:i<ops.size) (hj:j<ops.size) (V1:Ed ops all1.toArray σ1 τ1 i j) (V2:Ed ops all2.toArray σ2 τ2 j i)
  (s1:all1.toArray.size=ops.size) (s2:all2.toArray.size=ops.size) (b1:∀ k,σ1 k<ops.size↔k<ops.size) (b2:∀ k,σ2 k<ops.size↔k<ops.size)
  (h1:vT C.G Q (fun _ _=>False) (ddr K fuel n0 m all1 N live vs H)) (h2:vT C.G Q (fun _ _=>False) (ddr K fuel n0 m all2 N live vs H)):AWp C m (.region id ops true) (fl N live (vVs C.G vs)) (B8 C.G H) (lv N live Q):=by
 obtain ⟨t1,F1,H1,x1,x2,x3⟩:=jO hK h1;obtain ⟨t2,F2,H2,y1,y2,y3⟩:=jO hK h2;have hm':m≤(B8 C.G H).length:=by simpa [D9] using hm
 intro r hr ρ a w hH hF;refine two hij hi hj V1 V2 s1 s2 b1 b2 hK.mix ?_ ?_
 ·exact jM (Lt hK.mix []) x1 x2 hH hF fun ρ' a' w' q1 q2 q3 q4=>⟨.normal,ρ',F1,H1,rfl,x3,N5.of_le hH q3 hm',q1,q2,q4⟩
 ·exact jM (Lt hK.mix []) y1 y2 hH hF fun ρ' a' w' q1 q2 q3 q4=>⟨.normal,ρ',F2,H2,rfl,y3,N5.of_le hH q3 hm',q1,q2,q4⟩
theorem AWp.block {C:A2} {m id:Nat} {c:Code} {F:Fr} {H:Hp} {Q:Post} (h:AWp C m c F H (Aw id Q)):AWp C m (.block id c) F H Q:=by
 intro r hr ρ a w hH hF;refine wpIn_block (Code.wpIn_mono ?_ (h r (Oz hr) ρ a w hH hF));rintro e a' w' ⟨ae,ρ',F',H',rfl,h2,h3⟩;cases ae with
 | normal=>exact ⟨.normal,ρ',F',H',rfl,h2,h3⟩
 | ret=>exact ⟨.ret,ρ',F',H',rfl,h2,h3⟩
 | exit i=>
  simp only [Aw] at h2;show (if i=id then AP C m ρ w Q .normal a' w' else AP C m ρ w Q (.exit i) a' w');split at h2
  ·rename_i hi;rw [if_pos (by simpa using hi)];exact ⟨.normal,ρ',F',H',rfl,h2,h3⟩
  ·rename_i hi;rw [if_neg (by simpa using hi)];exact ⟨.exit i,ρ',F',H',rfl,h2,h3⟩
def sw (i j k:Nat):Nat:=if k=i then j else if k=j then i else k
theorem kB (i j k:Nat):sw i j (sw i j k)=k:=by unfold sw;split<;>split<;>(try split)<;>omega
def Ms (ops:Array Oper) (i j:Nat):List Oper:=ops.toList.mapIdx fun k o=>{ o with after:=bif Nat.beq k j then o.after.push ⟨i,.data⟩ else o.after }
def reEdge (i j:Nat) (e:Edge):Edge:={ e with on:=sw i j e.on }
def vA (i j k:Nat) (o:Oper):Oper:={ o with after:=bif Nat.beq k j then (o.after.map (reEdge i j)).push ⟨i,.data⟩ else o.after.map (reEdge i j) }
def Td (ops:Array Oper) (i j:Nat):List Oper:=ops.toList.mapIdx fun k o=>vA i j k ((ops[sw i j k]?).getD o)
def Ty (ops:Array Oper):Bool:=ops.toList.all fun o=>o.guard.isNone
theorem Yp {ops:Array Oper} (h:Ty ops=true) {k:Nat} {o:Oper} (ho:ops[k]?=some o):o.guard=none:=by
 unfold Ty at h;rw [List.all_eq_true] at h
 have:=h o (by rw [←Array.getElem?_toList] at ho;exact List.mem_of_getElem? ho)
 simpa using this
theorem dJ {ops:Array Oper} {i j:Nat} (h:Ty ops=true):Ed ops (Ms ops i j).toArray (fun k=>k) (fun k=>k) i j:=by
 have get:∀ k,(Ms ops i j).toArray[k]?=(ops[k]?).map fun (o:Oper)=>{ o with after:=bif Nat.beq k j then o.after.push ⟨i,.data⟩ else o.after }:=fun k=>by
  unfold Ms;rw [List.getElem?_toArray,List.getElem?_mapIdx,Array.getElem?_toList]
 refine ⟨fun _=>⟨rfl,rfl⟩,fun k o ho=>⟨Yp h ho,_,by rw [get,ho];rfl,fun e' he' hb=>?_,fun e he hb=>?_⟩,fun k o' ho'=>?_⟩
 ·cases hk:Nat.beq k j with
  | true=>
   rw [hk] at he';simp only [cond_true,Array.mem_push] at he';rcases he' with he' | rfl
   ·exact .inl ⟨e',he',hb,rfl⟩
   ·exact .inr ⟨Nat.eq_of_beq_eq_true hk,rfl⟩
  | false=>
   rw [hk] at he';exact .inl ⟨e',he',hb,rfl⟩
 ·cases hk:Nat.beq k j with
  | true=>exact ⟨e,by simp only [cond_true,Array.mem_push];exact .inl he,hb,rfl⟩
  | false=>exact ⟨e,he,hb,rfl⟩
 ·rw [get] at ho';cases ho:ops[k]? with
  | none=>rw [ho] at ho';simp at ho'
  | some o=>exact ⟨o,rfl⟩
theorem kC {i j n:Nat} (hi:i<n) (hj:j<n) (k:Nat):sw i j k<n↔k<n:=by unfold sw;split<;>(try split)<;>omega
theorem sH {ops:Array Oper} {i j:Nat} (h:Ty ops=true) (hi:i<ops.size) (hj:j<ops.size):Ed ops (Td ops i j).toArray (sw i j) (sw i j) j i:=by
 have get:∀ k,(Td ops i j).toArray[k]?=(ops[k]?).map fun (o:Oper)=>vA i j k ((ops[sw i j k]?).getD o):=fun k=>by
  unfold Td;rw [List.getElem?_toArray,List.getElem?_mapIdx,Array.getElem?_toList]
 have bd:∀ (e:Edge),Region.binds .any (reEdge i j e)=Region.binds .any e:=fun e=>rfl;refine ⟨fun k=>⟨kB i j k,kB i j k⟩,fun k o ho=>?_,fun k o' ho'=>?_⟩
 ·have hk:k<ops.size:=(Array.getElem?_eq_some_iff.1 ho).1;have hs:sw i j k<ops.size:=(kC hi hj k).2 hk;obtain ⟨o2,ho2⟩:∃ o2,ops[sw i j k]?=some o2:=⟨_,Array.getElem?_eq_getElem hs⟩;refine ⟨Yp h ho,_,by rw [get,ho2,Option.map_some,kB,ho];rfl,fun e' he' hb=>?_,fun e he hb=>?_⟩
  ·cases hq:Nat.beq (sw i j k) j with
   | true=>
    rw [hq] at he';simp only [cond_true,Array.mem_push,Array.mem_map,Option.getD_some] at he';rcases he' with ⟨e,he,rfl⟩ | rfl
    ·exact .inl ⟨e,he,hb,rfl⟩
    ·refine .inr ⟨?_,?_⟩
     ·have:=Nat.eq_of_beq_eq_true hq
      unfold sw at this;split at this
      ·assumption
      ·split at this<;>omega
     ·show i=sw i j j;unfold sw;split<;>simp_all
   | false=>
    rw [hq] at he';simp only [cond_false,Array.mem_map,Option.getD_some] at he';obtain ⟨e,he,rfl⟩:=he';exact .inl ⟨e,he,hb,rfl⟩
  ·refine ⟨reEdge i j e,?_,hb,rfl⟩
   have:reEdge i j e∈o.after.map (reEdge i j):=Array.mem_map.2 ⟨e,he,rfl⟩
   cases hq:Nat.beq (sw i j k) j with
   | true=>simp only [cond_true,Array.mem_push,Option.getD_some];exact .inl this
   | false=>simp only [cond_false,Option.getD_some];exact this
 ·rw [get] at ho'
  have hk:k<ops.size:=by
   cases ho:ops[k]? with
   | none=>rw [ho] at ho';simp at ho'
   | some o=>exact (Array.getElem?_eq_some_iff.1 ho).1
  exact ⟨_,Array.getElem?_eq_getElem ((kC hi hj k).2 hk)⟩
theorem Zo {ops:Array Oper} {i j:Nat}:(Ms ops i j).toArray.size=ops.size:=by simp [Ms]
theorem oM {ops:Array Oper} {i j:Nat}:(Td ops i j).toArray.size=ops.size:=by simp [Td]
theorem dtwo {C:A2} {K:DCfg} {fuel n0 m:Nat} {ops:Array Oper} {i j id:Nat} {N:Nat} {live:List Nat} {vs:List EV} {H:DHp} {Q:Ex→List AV→Hp→Prop} (hK:DGood C K []) (hm:m≤H.length)
  (hij:Nat.blt i j=true) (hj:Nat.blt j ops.size=true) (hb:Ty ops=true)
  (h1:vT C.G Q (fun _ _=>False) (E8 K (fuel+1) n0 m (.region id (Ms ops i j).toArray true) N live vs H)) (h2:vT C.G Q (fun _ _=>False) (E8 K (fuel+1) n0 m (.region id (Td ops i j).toArray true) N live vs H)):AWp C m (.region id ops true) (fl N live (vVs C.G vs)) (B8 C.G H) (lv N live Q):=by
 have hij:i<j:=Nat.blt_eq ▸ hij;have hj:j<ops.size:=Nat.blt_eq ▸ hj;exact jL hK hm (by omega) (by omega) hj (dJ hb) (sH hb (by omega) hj) Zo oM (fun _=>Iff.rfl) (fun k=>kC (by omega) hj k) h1 h2
def ro3 (i j k:Nat):Nat:=if k=j then i else if i≤k∧k<j then k+1 else k
def Om (i j k:Nat):Nat:=if k=i then j else if i<k∧k≤j then k - 1 else k
theorem iL {i j:Nat} (h:i<j) (k:Nat):ro3 i j (Om i j k)=k∧Om i j (ro3 i j k)=k:=by
 unfold ro3 Om;constructor
 ·by_cases h1:k=i
  ·simp [h1]
  ·by_cases h2:i<k∧k≤j
   ·rw [if_neg h1,if_pos h2,if_neg (by omega),if_pos (by omega)];omega
   ·rw [if_neg h1,if_neg h2,if_neg (by omega),if_neg (by omega)]
 ·by_cases h1:k=j
  ·simp [h1]
  ·by_cases h2:i≤k∧k<j
   ·rw [if_neg h1,if_pos h2,if_neg (by omega),if_pos (by omega)];omega
   ·rw [if_neg h1,if_neg h2,if_neg (by omega),if_neg (by omega)]
theorem nT {i j n:Nat} (h:i<j) (hj:j<n) (k:Nat):ro3 i j k<n↔k<n:=by unfold ro3;split<;>(try split)<;>omega
theorem xK {i j n:Nat} (h:i<j) (hj:j<n) (k:Nat):Om i j k<n↔k<n:=by unfold Om;split<;>(try split)<;>omega
def reEdge3 (i j:Nat) (e:Edge):Edge:={ e with on:=ro3 i j e.on }
def uZ (i j k:Nat) (o:Oper):Oper:={ o with after:=bif Nat.beq k (i+1) then (o.after.map (reEdge3 i j)).push ⟨i,.data⟩ else o.after.map (reEdge3 i j) }
def Tc (ops:Array Oper) (i j:Nat):List Oper:=ops.toList.mapIdx fun k o=>uZ i j k ((ops[Om i j k]?).getD o)
theorem oL {ops:Array Oper} {i j:Nat}:(Tc ops i j).toArray.size=ops.size:=by simp [Tc]
theorem sG {ops:Array Oper} {i j:Nat} (h:Ty ops=true) (hij:i<j) (hj:j<ops.size):Ed ops (Tc ops i j).toArray (ro3 i j) (Om i j) j i:=by
 have get:∀ k,(Tc ops i j).toArray[k]?=(ops[k]?).map fun (o:Oper)=>uZ i j k ((ops[Om i j k]?).getD o):=fun k=>by
  unfold Tc;rw [List.getElem?_toArray,List.getElem?_mapIdx,Array.getElem?_toList]
 refine ⟨iL hij,fun k o ho=>?_,fun k o' ho'=>?_⟩
 ·have hk:k<ops.size:=(Array.getElem?_eq_some_iff.1 ho).1;have hs:ro3 i j k<ops.size:=(nT hij hj k).2 hk;obtain ⟨o2,ho2⟩:∃ o2,ops[ro3 i j k]?=some o2:=⟨_,Array.getElem?_eq_getElem hs⟩;refine ⟨Yp h ho,_,by rw [get,ho2,Option.map_some,(iL hij k).2,ho];rfl,fun e' he' hb=>?_,fun e he hb=>?_⟩
  ·cases hq:Nat.beq (ro3 i j k) (i+1) with
   | true=>
    rw [hq] at he';simp only [cond_true,Array.mem_push,Array.mem_map,Option.getD_some] at he';rcases he' with ⟨e,he,rfl⟩ | rfl
    ·exact .inl ⟨e,he,hb,rfl⟩
    ·refine .inr ⟨?_,?_⟩
     ·have:=Nat.eq_of_beq_eq_true hq
      unfold ro3 at this;split at this
      ·omega
      ·split at this<;>omega
     ·show i=ro3 i j j;unfold ro3;simp
   | false=>
    rw [hq] at he';simp only [cond_false,Array.mem_map,Option.getD_some] at he';obtain ⟨e,he,rfl⟩:=he';exact .inl ⟨e,he,hb,rfl⟩
  ·refine ⟨reEdge3 i j e,?_,hb,rfl⟩
   have:reEdge3 i j e∈o.after.map (reEdge3 i j):=Array.mem_map.2 ⟨e,he,rfl⟩
   cases hq:Nat.beq (ro3 i j k) (i+1) with
   | true=>simp only [cond_true,Array.mem_push,Option.getD_some];exact .inl this
   | false=>simp only [cond_false,Option.getD_some];exact this
 ·rw [get] at ho'
  have hk:k<ops.size:=by
   cases ho:ops[k]? with
   | none=>rw [ho] at ho';simp at ho'
   | some o=>exact (Array.getElem?_eq_some_iff.1 ho).1
  exact ⟨_,Array.getElem?_eq_getElem ((xK hij hj k).2 hk)⟩
theorem dtwo3 {C:A2} {K:DCfg} {fuel n0 m:Nat} {ops:Array Oper} {i j id:Nat} {N:Nat} {live:List Nat} {vs:List EV} {H:DHp} {Q:Ex→List AV→Hp→Prop} (hK:DGood C K []) (hm:m≤H.length)
  (hij:Nat.blt i j=true) (hj:Nat.blt j ops.size=true) (hb:Ty ops=true)
  (h1:vT C.G Q (fun _ _=>False) (E8 K (fuel+1) n0 m (.region id (Ms ops i j).toArray true) N live vs H)) (h2:vT C.G Q (fun _ _=>False) (E8 K (fuel+1) n0 m (.region id (Tc ops i j).toArray true) N live vs H)):AWp C m (.region id ops true) (fl N live (vVs C.G vs)) (B8 C.G H) (lv N live Q):=by
 have hij:i<j:=Nat.blt_eq ▸ hij;have hj:j<ops.size:=Nat.blt_eq ▸ hj;exact jL hK hm (by omega) (by omega) hj (dJ hb) (sG hb hij hj) Zo oL (fun _=>Iff.rfl) (fun k=>nT hij hj k) h1 h2
end Go.Am
namespace Go.Am
open Go.RowKit
def recW (C:A2):Rec:=fun m w F H Q=>match w with
 | .code c=>AWp C m c F H Q
 | _=>False
theorem AWp.seq {C:A2} {a b:Code} {F:Fr} {H:Hp} {Q:Post} {m:Nat} (hm:m≤H.length) (h:AWp C m a F H (Iz (recW C) m b Q)):AWp C m (.seq a b) F H Q:=by
 intro r hr ρ x w hH hF;refine wpIn_seq (Code.wpIn_mono (fun e a' w' h=>AP.seq hm hH (fun F' H' hrr ρ' a2 w2 hl g1 g2=>hrr r (Hm hr).2 ρ' a2 w2 g1 g2) h) (h r (Hm hr).1 ρ x w hH hF))
end Go.Am
namespace Go.Am
open Go.RowKit
mutual
def fz (m k:Nat):AV→AV
 | .ptr (.rw i) off=>bif Nat.beq i m then .ptr (.ro k) off else .ptr (.rw i) off
 | .slice mb (.rw i) off len=>bif Nat.beq i m then .slice mb (.ro k) off len else .slice mb (.rw i) off len
 | .func f cap=>.func f (fzs m k cap)
 | .agg cs=>.agg (fzs m k cs)
 | .tup vs=>.tup (fzs m k vs)
 | v=>v
def fzs (m k:Nat):List AV→List AV
 | []=>[]
 | v::vs=>fz m k v::fzs m k vs
end
def fzB (m k:Nat) (b:Option Blk):Option Blk:=match b with
 | some b=>some ⟨b.esz,fzs m k b.cells⟩
 | none=>none
def Vr (m k:Nat) (H:Hp):Hp:=(H.map (fzB m k)).set m none
theorem As (m k:Nat):∀ l,fzs m k l=l.map (fz m k)
 | []=>by simp [fzs]
 | v::l=>by simp [fzs,As m k l]
def Env.frz (ρ:Env) (k:Nat) (x:Option M9):Env:=⟨ρ.rw,fun i b d=>ρ.ro i b d∨∃ e,x=some e∧i=k∧b=e.blk∧d=0,ρ.dfs⟩
theorem Env.le_frz (ρ:Env) (k:Nat) (x:Option M9):ρ.le (ρ.frz k x):=⟨fun _ _ h=>h,fun _ _ _ h=>.inl h,fun _ h=>h⟩
theorem zD {ρ:Env} {m k:Nat} {x:Option M9} (hx:ρ.rw[m]?=some x) {off:Nat} {v:Value} (h:P9 ρ (.rw m) off v):P9 (ρ.frz k x) (.ro k) off v:=by
 obtain ⟨e,h1,rfl⟩:=h;rw [hx] at h1;simp at h1;subst h1;exact ⟨e.blk,0,.inr ⟨e,rfl,rfl,rfl,rfl⟩,by rw [Nat.zero_add]⟩
theorem qF {ρ:Env} {m k:Nat} {x:Option M9} (hx:ρ.rw[m]?=some x) {mb:Bool} {off len:Nat} {v:Value} (h:N4 ρ mb (.rw m) off len v):N4 (ρ.frz k x) mb (.ro k) off len v:=by
 obtain ⟨ca,cap,hv,hl,hc⟩:=h;refine ⟨ca,cap,hv,hl,?_⟩;rcases hc with hc | hc | ⟨e,h1,h2,_⟩
 ·exact .inl hc
 ·exact .inr (.inl hc)
 ·rw [hx] at h1;simp at h1;subst h1;exact .inr (.inr ⟨e.blk,0,.inr ⟨e,rfl,rfl,rfl,rfl⟩,by rw [Nat.zero_add];exact h2⟩)
mutual
theorem bT {ρ:Env} {m k:Nat} {x:Option M9} (hx:ρ.rw[m]?=some x):∀ (v:AV) (cv:Value),VR ρ v cv→VR (ρ.frz k x) (fz m k v) cv
 | .undef,_,_=>by simp [fz,VR]
 | .bool _,_,h=>by simpa [fz,VR] using h
 | .int _ _,_,h=>by simpa [fz,VR] using h
 | .str _,_,h=>by simpa [fz,VR] using h
 | .nilp,_,h=>by simpa [fz,VR] using h
 | .nils,_,h=>by simpa [fz,VR] using h
 | .nilf,_,h=>by simpa [fz,VR] using h
 | .ptr (.rw i) off,cv,h=>by
  simp only [fz];cases hi:Nat.beq i m with
  | true=>
   have:=Nat.eq_of_beq_eq_true hi
   subst this;simp only [cond_true,VR] at h ⊢;exact zD hx h
  | false=>exact VR.mono (Env.le_frz ρ k x) _ _ h
 | .ptr (.ro i) off,cv,h=>by simp only [fz];exact VR.mono (Env.le_frz ρ k x) _ _ h
 | .slice mb (.rw i) off len,cv,h=>by
  simp only [fz];cases hi:Nat.beq i m with
  | true=>
   have:=Nat.eq_of_beq_eq_true hi
   subst this;simp only [cond_true,VR] at h ⊢;exact qF hx h
  | false=>exact VR.mono (Env.le_frz ρ k x) _ _ h
 | .slice mb (.ro i) off len,cv,h=>by simp only [fz];exact VR.mono (Env.le_frz ρ k x) _ _ h
 | .func f cap,cv,h=>by
  simp only [fz,VR] at h ⊢;obtain ⟨cs,e,hs⟩:=h;exact ⟨cs,e,Wq hx cap _ hs⟩
 | .agg cap,cv,h=>by
  simp only [fz,VR] at h ⊢;obtain ⟨cs,e,hs⟩:=h;exact ⟨cs,e,Wq hx cap _ hs⟩
 | .tup cap,cv,h=>by
  simp only [fz,VR] at h ⊢;obtain ⟨cs,e,hs⟩:=h;exact ⟨cs,e,Wq hx cap _ hs⟩
 | .yld i,cv,h=>by simp only [fz];exact VR.mono (Env.le_frz ρ k x) _ _ h
 | .rcd ..,cv,h=>by simp only [VR] at h
theorem Wq {ρ:Env} {m k:Nat} {x:Option M9} (hx:ρ.rw[m]?=some x):∀ (l:List AV) (cl:List Value),VRs ρ l cl→VRs (ρ.frz k x) (fzs m k l) cl
 | [],_,h=>by simpa [fzs,VRs] using h
 | v::l,cl,h=>by
  simp only [fzs,VRs] at h ⊢;obtain ⟨y,ys,e,h1,h2⟩:=h;exact ⟨y,ys,e,bT hx v y h1,Wq hx l ys h2⟩
end
mutual
/-- what names no block of the heap hangs on the read-only places alone -/
theorem jU {ρ ρ':Env} (h:∀ i b d,ρ.ro i b d→ρ'.ro i b d):∀ (v:AV) (cv:Value),E6 v=true→VR ρ v cv→VR ρ' v cv
 | .undef,_,_,_=>by simp [VR]
 | .bool _,_,_,hv=>by simpa [VR] using hv
 | .int _ _,_,_,hv=>by simpa [VR] using hv
 | .str _,_,_,hv=>by simpa [VR] using hv
 | .nilp,_,_,hv=>by simpa [VR] using hv
 | .nils,_,_,hv=>by simpa [VR] using hv
 | .nilf,_,_,hv=>by simpa [VR] using hv
 | .ptr (.rw i) off,_,hb,_=>by simp [E6] at hb
 | .ptr (.ro i) off,cv,_,hv=>by
  simp only [VR] at hv ⊢;obtain ⟨b,d,h1,h2⟩:=hv;exact ⟨b,d,h _ _ _ h1,h2⟩
 | .slice mb (.rw i) off len,_,hb,_=>by simp [E6] at hb
 | .slice mb (.ro i) off len,cv,_,hv=>by
  simp only [VR] at hv ⊢;obtain ⟨ca,cap,hv,hl,hc⟩:=hv;refine ⟨ca,cap,hv,hl,?_⟩;rcases hc with hc | hc | ⟨b,d,h1,h2⟩
  ·exact .inl hc
  ·exact .inr (.inl hc)
  ·exact .inr (.inr ⟨b,d,h _ _ _ h1,h2⟩)
 | .func f cap,cv,hb,hv=>by
  simp only [E6] at hb;simp only [VR] at hv ⊢;obtain ⟨cs,e,hs⟩:=hv;exact ⟨cs,e,Nt h cap _ hb hs⟩
 | .agg cap,cv,hb,hv=>by
  simp only [E6] at hb;simp only [VR] at hv ⊢;obtain ⟨cs,e,hs⟩:=hv;exact ⟨cs,e,Nt h cap _ hb hs⟩
 | .tup cap,cv,hb,hv=>by
  simp only [E6] at hb;simp only [VR] at hv ⊢;obtain ⟨cs,e,hs⟩:=hv;exact ⟨cs,e,Nt h cap _ hb hs⟩
 | .yld i,cv,hb,_=>by simp [E6] at hb
 | .rcd ..,cv,_,hv=>by simp only [VR] at hv
theorem Nt {ρ ρ':Env} (h:∀ i b d,ρ.ro i b d→ρ'.ro i b d):∀ (l:List AV) (cl:List Value),I4 l=true→VRs ρ l cl→VRs ρ' l cl
 | [],_,_,hv=>by simpa [VRs] using hv
 | v::l,cl,hb,hv=>by
  simp only [I4,Bool.and_eq_true] at hb;simp only [VRs] at hv ⊢;obtain ⟨x,xs,e,h1,h2⟩:=hv;exact ⟨x,xs,e,jU h v x hb.1 h1,Nt h l xs hb.2 h2⟩
end
def mG (x y:AV):Prop:=∀ (ρ:Env) cv,VR ρ x cv→VR ρ y cv
def uQ (C:A2) (m k:Nat) (H:Hp):Prop:=
 ∃ b,H[m]?=some (some b)∧isRec b=false∧∀ (j:Nat) v,(C.G k)[j]?=some v→∃ x,b.cells[j]?=some x∧E6 x=true∧mG x v
theorem B0.frz {C:A2} {ρ:Env} {H:Hp} {w:World} {m k:Nat} (hH:B0 C ρ H w) (hf:uQ C m k H) :
  ∃ ρ',ρ.le ρ'∧ρ'.rw=ρ.rw∧ρ'.dfs=ρ.dfs∧B0 C ρ' (Vr m k H) w∧Frm ρ w ρ' w∧∀ v cv,VR ρ v cv→VR ρ' (fz m k v) cv:=by
 obtain ⟨b,hb,hr,hc⟩:=hf;have hl:=hH.live m b hb
 obtain ⟨x,hx⟩:∃ x,ρ.rw[m]?=some x:=by
  cases h:ρ.rw[m]? with
  | none=>rw [h] at hl;exact hl.elim
  | some x=>exact ⟨x,rfl⟩
 have le:=Env.le_frz ρ k x
 have key:∀ (i:Nat) c,(Vr m k H)[i]?=some (some c)→i≠m∧∃ c0,H[i]?=some (some c0)∧c=⟨c0.esz,fzs m k c0.cells⟩:=fun i c h=>by
  unfold Vr at h;rw [List.getElem?_set] at h;by_cases hi:m=i
  ·rw [if_pos hi] at h;split at h<;>simp at h
  ·rw [if_neg hi,List.getElem?_map] at h;obtain ⟨o,ho,h⟩:=Option.map_eq_some_iff.1 h;cases o with
   | none=>simp [fzB] at h
   | some c0=>simp [fzB] at h;exact ⟨fun h=>hi h.symm,c0,ho,h.symm⟩
 refine ⟨ρ.frz k x,le,rfl,rfl,⟨by simp [Vr,Env.frz,hH.len],hH.base,hH.ents,fun i c h=>?_,fun i j c c' e e' h1 h2 h3 h4 h5=>?_,fun i b1 d hro=>?_,fun D hD=>⟨(hH.df D hD).1,(hH.df D hD).2.1,fun i d hro=>?_⟩⟩,
  ⟨rfl,rfl,rfl,Nat.le_refl _,fun _ _ _=>rfl,fun i e h=>.inl ⟨i,e,h,rfl⟩,fun _ _ _ h=>.inl h,fun i b1 d hro=>?_,fun _ h=>.inl h⟩,fun v cv h=>bT hx v cv h⟩
 ·obtain ⟨_,c0,h1,rfl⟩:=key i c h;have hl:=hH.live i c0 h1;show Q7 _ _ (ρ.rw[i]?) _
  match hxi:ρ.rw[i]?,hl with
  | some (some e),hl=>
   have hrr:isRec (⟨c0.esz,fzs m k c0.cells⟩:Blk)=isRec c0:=rfl;cases hr0:isRec c0 with
   | true=>
    obtain ⟨g1,r,g2,p,ps,a,bd,F,q1,q2,q3,q4,q5,q6,q7⟩:=hl.rec hr0;refine .ofRec (hrr.trans hr0) ⟨g1,r,g2,p,ps,a,bd,F.map (fz m k),by simp only [q1,As,List.map_cons,fz],q2,q3,q4,q5,by simpa using q6,fun j v hv=>?_⟩;simp only [List.getElem?_map,Option.map_eq_some_iff] at hv;obtain ⟨v0,hv0,rfl⟩:=hv;exact bT hx v0 _ (q7 j v0 hv0)
   | false=>
    obtain ⟨g1,cs,ty,fz0,g2,g3,g4,g5,g6⟩:=hl.cs hr0;refine .of (hrr.trans hr0) ⟨g1,cs,ty,fz0,g2,g3,by simpa [As] using g4,fun j v hv=>?_,g6⟩;simp only [As,List.getElem?_map,Option.map_eq_some_iff] at hv;obtain ⟨v0,hv0,rfl⟩:=hv;obtain ⟨cv,p1,p2⟩:=g5 j v0 hv0;exact ⟨cv,p1,bT hx v0 cv p2⟩
  | some none,hl=>
   have:c0.cells=[]:=hl
   show fzs m k c0.cells=[];rw [this];simp [fzs]
  | none,hl=>exact hl.elim
 ·obtain ⟨_,c0,g1,_⟩:=key i c h1;obtain ⟨_,c1,g2,_⟩:=key j c' h2;exact hH.inj i j c0 c1 e e' g1 g2 h3 h4 h5
 ·rcases hro with hro | ⟨e,rfl,rfl,rfl,rfl⟩
  ·obtain ⟨g1,g2,g3⟩:=hH.ro i b1 d hro;refine ⟨g1,fun j c e q1 q2=>?_,fun j v hv=>?_⟩
   ·obtain ⟨_,c0,q3,_⟩:=key j c q1;exact g2 j c0 e q3 q2
   ·obtain ⟨cv,q1,q2⟩:=g3 j v hv;exact ⟨cv,q1,VR.sub (ρ:=⟨[],ρ.ro,[]⟩) ⟨fun _ _ h=>by simp at h,fun _ _ _ h=>Or.inl h⟩ v cv q2⟩
  ·rw [hx] at hl;obtain ⟨g1,cs,ty,fz0,g2,g3,g4,g5,g6⟩:=hl.cs hr;refine ⟨(hH.ents m e hx).2,fun j c e' q1 q2 hbe=>?_,fun j v hv=>?_⟩
   ·obtain ⟨hne,c0,q3,_⟩:=key j c q1;exact hne (hH.inj j m c0 b e' e q3 hb q2 hx hbe)
   ·obtain ⟨y,q1,q2,q3⟩:=hc j v hv;obtain ⟨cv,q4,q5⟩:=g5 j y q1;refine ⟨cv,by simp [World.cell?,g2,q4],q3 _ _ (jU (fun i b d h=>?_) y cv q2 q5)⟩;exact .inl h
 ·rcases hro with hro | ⟨e,rfl,rfl,rfl,rfl⟩
  ·exact (hH.df _ hD).2.2 i d hro
  ·exact (hH.df _ hD).2.1 m e hx rfl
 ·rcases hro with hro | ⟨e,rfl,rfl,rfl,rfl⟩
  ·exact .inl hro
  ·exact .inr (.inl ⟨m,e,hx,rfl⟩)
theorem D5.frz {ρ ρ':Env} {m k:Nat} {F:Fr} {a:Act} (h:D5 ρ F a) (hd:ρ'.dfs=ρ.dfs) (hv:∀ v cv,VR ρ v cv→VR ρ' (fz m k v) cv):D5 ρ' (fzs m k F) a:=by
 refine ⟨by rw [hd];exact h.nod,by rw [As,List.length_map];exact h.len,fun i v hi=>?_⟩;rw [As,List.getElem?_map,Option.map_eq_some_iff] at hi;obtain ⟨v0,h0,rfl⟩:=hi;exact hv _ _ (h.val i v0 h0)
theorem AWp.frzQ {C:A2} {n:Nat} {c:Code} {F:Fr} {H:Hp} {Q Q':Post} (h:AWp C n c F H Q) (hq:∀ e F' H',Q e F' H'→∃ m k,uQ C m k H'∧Q' e (fzs m k F') (Vr m k H')):AWp C n c F H Q':=by
 intro r hr ρ a w hH hF;refine Code.wpIn_mono ?_ (h r hr ρ a w hH hF);rintro e a' w' ⟨ae,ρ',F',H',rfl,h2,h3,h4,h5,h6⟩;obtain ⟨m,k,g1,g2⟩:=hq _ _ _ h2;obtain ⟨ρ2,q1,q2,q3,q4,q5,q6⟩:=h4.frz g1;exact ⟨ae,ρ2,_,_,rfl,g2,fun i hi=>by rw [q2];exact h3 i hi,q4,h5.frz q3 q6,h6.trans q5⟩
theorem mG.rfl {x:AV}:mG x x:=fun _ _ h=>h
theorem beqF {i m:Nat} (h:i≠m):Nat.beq i m=false:=by
 cases hb:Nat.beq i m with
 | true=>exact absurd (Nat.eq_of_beq_eq_true hb) h
 | false=>rfl
mutual
theorem fz_bnd {n m k:Nat} (hm:n≤m):∀ v,A8 n v=true→fz m k v=v
 | .undef,_=>by simp [fz]
 | .bool _,_=>by simp [fz]
 | .int _ _,_=>by simp [fz]
 | .str _,_=>by simp [fz]
 | .nilp,_=>by simp [fz]
 | .nils,_=>by simp [fz]
 | .nilf,_=>by simp [fz]
 | .ptr (.rw i) off,h=>by
  simp only [A8,decide_eq_true_eq] at h;simp only [fz];rw [show Nat.beq i m=false from beqF (by omega)];rfl
 | .ptr (.ro i) off,_=>by simp [fz]
 | .slice mb (.rw i) off len,h=>by
  simp only [A8,decide_eq_true_eq] at h;simp only [fz];rw [show Nat.beq i m=false from beqF (by omega)];rfl
 | .slice mb (.ro i) off len,_=>by simp [fz]
 | .func f cap,h=>by simp only [A8] at h;simp only [fz,Bg hm cap h]
 | .agg cs,h=>by simp only [A8] at h;simp only [fz,Bg hm cs h]
 | .tup cs,h=>by simp only [A8] at h;simp only [fz,Bg hm cs h]
 | .yld i,h=>by simp [fz]
 | .rcd ..,_=>by simp [fz]
theorem Bg {n m k:Nat} (hm:n≤m):∀ l,A4 n l=true→fzs m k l=l
 | [],_=>by simp [fzs]
 | v::l,h=>by
  simp only [A4,Bool.and_eq_true] at h;simp only [fzs,fz_bnd hm v h.1,Bg hm l h.2]
end
theorem xS (m k:Nat) (live:List Nat) (F:Fr):Cy live (fzs m k F)=fzs m k (Cy live F):=by
 simp only [Cy,As,List.map_map];congr 1;funext i;simp only [Function.comp,List.getD,List.getElem?_map];cases F[i]? with
 | none=>simp [fz]
 | some v=>rfl
theorem AWp.frzL {C:A2} {n:Nat} {c:Code} {F:Fr} {H:Hp} {N:Nat} {live:List Nat} {Q Q':Ex→List AV→Hp→Prop} (m k:Nat) (h:AWp C n c F H (lv N live Q)) (hq:∀ e vs H',Q e vs H'→uQ C m k H'∧Q' e (fzs m k vs) (Vr m k H')):AWp C n c F H (lv N live Q'):=
 h.frzQ fun e F' H' h=>by
  obtain ⟨h1,h2⟩:=Au h;obtain ⟨g1,g2⟩:=hq _ _ _ h2;refine ⟨m,k,g1,?_⟩;have hl:(fzs m k F').length=F'.length:=by rw [As,List.length_map]
  show chk (Nat.beq (fzs m k F').length N) (Q' e (Cy live (fzs m k F')) (Vr m k H'));rw [xS,hl,h1];exact g2
end Go.Am
namespace Go.Am
open Go.RowKit
end Go.Am
namespace Go.Am
end Go.Am
namespace Go.Am
end Go.Am
namespace Go.Am
variable {C:A2}
end Go.Am
namespace Go.Am
variable {C:A2}
open Classical in
noncomputable def F8 (vs0:List AV) (H0:Hp):List AV→Bool:=fun xs=>decide (xs=[.agg vs0,.agg (P2 H0)])
theorem Rk {vs0 vs:List AV} {H0 H:Hp} (h:F8 vs0 H0 [.agg vs,.agg (P2 H)]=true):vs=vs0∧H=H0:=by
 unfold F8 at h;simp only [decide_eq_true_eq,List.cons.injEq,AV.agg.injEq,and_true] at h;exact ⟨h.1,Tq _ _ h.2⟩
theorem G3 {vs0:List AV} {H0:Hp}:F8 vs0 H0 [.agg vs0,.agg (P2 H0)]=true:=by
 unfold F8;simp
theorem Cr {M:Nat} {c:Code} {j:Nat} {ex N:Nat} {live:List Nat} {o:LOut} {vs0:List AV} {H0:Hp} {q:List AV→Bool} (hq:q=F8 vs0 H0)
  (h:AWp C M (.loop c) (fl N live vs0) H0 (lv N live (o.post C.G M))):H5 C M c (F9 j q ex N live o):=by
 refine .of fun vs H o' ho n Q hQ=>?_;simp only [F9,Option.some.injEq] at ho;subst ho;obtain ⟨h1,h2⟩:=hQ;simp only [vB,vVs,vV,vL,Rv,hq] at h1;obtain ⟨e1,e2⟩:=Rk h1;rw [e1,e2];exact h.lmono fun e vs H hp=>Dr o n h2 hp
end Go.Am
namespace Go.Am
end Go.Am
namespace Go.Am
open Go.RowKit
def tl (T:List Deferred) (a:Act):Act:=⟨a.tmps,a.defers++T⟩
def tlQ (T:List Deferred) (Q:Exit→Act→World→Prop):Exit→Act→World→Prop:=fun e a w=>∃ a0,a=tl T a0∧Q e a0 w
theorem Uk (T:List Deferred) (a:Act) (d:Option Tmp) (v:Value):(tl T a).put d v=tl T (a.put d v):=by cases d<;>rfl
theorem wQ (T:List Deferred) (a:Act):(tl T a).eval=a.eval:=rfl
theorem Oper.wpIn_tail {F:Fence} {n:Nat} {P:Program} {o:Oper} {a:Act} {w:World} (T:List Deferred) {K K':Act→World→Prop} {Q Q':Exit→Act→World→Prop} (hk:∀ a w,K a w→K' (tl T a) w) (hq:∀ e a w,Q e a w→Q' e (tl T a) w) (h:o.wpIn F n P a w K Q):o.wpIn F n P (tl T a) w K' Q':=by
 unfold Oper.wpIn at *;rw [wQ];refine ⟨h.1,?_⟩;have h:=h.2;generalize (o.semAt F.round a.eval).run P w=r at *;have hl:LetsOut Q→LetsOut Q':=fun ⟨a,w,h⟩=>⟨_,w,hq _ _ _ h⟩;have hp:∀ v w,K (a.put o.dst v) w→K' ((tl T a).put o.dst v) w:=fun v w h=>by rw [Uk];exact hk _ _ h
 have hd:∀ d w,K ({ a with defers:=d::a.defers }.put o.dst undef) w→K' ({ (tl T a) with defers:=d::(tl T a).defers }.put o.dst undef) w:=fun d w h=>by
  have:=hk _ _ h
  rw [←Uk] at this;exact this
 cases r with
 | ok n w'=>
  cases n<;>simp only [Oper.uponIn] at h ⊢ <;>
   first
    | exact hp _ _ h
    | exact hd _ _ h
    | exact ⟨h.1,CallsIn.mono h.2 (fun e w'' he=>by cases e<;>first | exact hp _ _ he | exact hq _ _ _ he | exact hl he)⟩
    | exact ⟨h.1,RowsIn.mono h.2 (fun _ _ he=>hp _ _ he)⟩
    | exact ⟨h.1,RoundIn.mono h.2 (fun e w'' he=>by cases e<;>first | exact hp _ _ he | exact hq _ _ _ he | exact hl he)⟩
 | halt x w'=>cases x<;>simp only [Oper.uponIn] at h ⊢<;>exact hq _ _ _ h
theorem Gm {F:Fence} {n:Nat} {P:Program} {ops:Array Oper} (T:List Deferred) {Q Q':Exit→Act→World→Prop} (hq:∀ e a w,Q e a w→Q' e (tl T a) w):∀ (l:List Oper) (a:Act) (w:World),wpListIn F n P ops Q l a w→wpListIn F n P ops Q' l (tl T a) w
 | [],a,w,h=>hq _ _ _ h
 | o::l,a,w,h=>by
  unfold wpListIn at *;split
  ·rename_i hw;rw [if_pos (show Region.wanted o (yielded ops a.tmps)=true from hw)] at h;exact Oper.wpIn_tail T (Gm T hq l) hq h
  ·rename_i hw;rw [if_neg (show ¬Region.wanted o (yielded ops a.tmps)=true from hw)] at h;refine ⟨h.1,?_⟩;rw [Uk];exact Gm T hq l _ _ h.2
theorem gG {F:Fence} {n:Nat} {P:Program} {ops:Array Oper} (T:List Deferred) {i:Nat} {a:Act} {w:World} {K K':Act→World→Prop} {Q Q':Exit→Act→World→Prop} (hk:∀ a w,K a w→K' (tl T a) w) (hq:∀ e a w,Q e a w→Q' e (tl T a) w) (h:wpOpIn F n P ops Q i K a w):wpOpIn F n P ops Q' i K' (tl T a) w:=by
 unfold wpOpIn at *;cases ho:ops[i]? with
 | none=>rw [ho] at h;exact hk _ _ h
 | some o=>
  rw [ho] at h;simp only at h ⊢;split
  ·rename_i hw;rw [if_pos (show Region.wanted o (yielded ops a.tmps)=true from hw)] at h;exact Oper.wpIn_tail T hk hq h
  ·rename_i hw;rw [if_neg (show ¬Region.wanted o (yielded ops a.tmps)=true from hw)] at h;refine ⟨h.1,?_⟩;rw [Uk];exact hk _ _ h.2
theorem Oc {F:Fence} {n:Nat} {P:Program} {md:Region.Mode} {ops:Array Oper} (T:List Deferred) {Q Q':Exit→Act→World→Prop} (hq:∀ e a w,Q e a w→Q' e (tl T a) w):∀ (k:Nat) (ls:Array Bool) (a:Act) (w:World),wpAnyIn F n P md ops Q k ls a w→wpAnyIn F n P md ops Q' k ls (tl T a) w
 | 0,ls,a,w,h=>⟨h.1,hq _ _ _ h.2⟩
 | k+1,ls,a,w,h=>⟨fun hr=>hq _ _ _ (h.1 hr),fun i hi=>gG T (Oc T hq k _) hq (h.2 i hi)⟩
section
variable {K:Cfg} {lps:List Code}
theorem pQ (hK:Ei K lps) (T:List Deferred) {all:List Oper} {trs:List Tr} {F F':Fr} {H H':Hp} (ht:DT K all all F H trs F' H') (hd:S4 all trs=true) {ρ:Env} {a:Act} {w:World} (hH:B0 K.C ρ H w) (hF:D5 ρ F a)
  {id:Nat} {r:Option Nat} {Q Q':Exit→Act→World→Prop} (hq:∀ e a w,Q e a w→Q' e (tl T a) w) (hQ:∀ ρ' a' w',B0 K.C ρ' H' w'→D5 ρ' F' a'→ρ.le ρ'→Frm ρ w ρ' w'→Q .normal a' w'):(Code.region id all.toArray true).wpIn (W r) 0 K.C.P Q' (tl T a) w:=by
 obtain ⟨vs,h1,h2,h3,h4,h5⟩:=ht.spell;refine wpIn_region_any hK.mix (Oc T hq _ _ a _ ?_);have hw:({ w with drawn:=w.drawn+1 }:World)=w.drew:=rfl;rw [hw];have hsz:all.toArray.size=all.length:=by simp
 rw [hsz];refine Ts (F0:=F) (H0:=H) (ρ0:=ρ) (w0:=w) hK hd h1 h2 h5 (fun a' w' hs=>?_) all.length _ a w.drew (by simp) ?_ ⟨fun j o _ hj=>?_,ρ,?_,?_,Env.le_refl ρ,(Frm.refl ρ w).drew⟩
 ·obtain ⟨ρ',g1,g2,g3,g4⟩:=hs.rel;rw [h4] at g1;rw [h3] at g2;exact hQ ρ' a' w' g1 g2 g3 g4
 ·rw [List.countP_eq_length.2]
  ·simp
  ·intro i hi
   have:=List.mem_range.1 hi
   simp [Array.getD]
 ·simp [Array.getD] at hj
 ·rw [Ay]
  ·exact hH.drew
  ·intro k _;simp [Array.getD]
 ·have none:∀ (l:List Oper) (vs:List AV) (i:Nat) (F:Fr),FSel (fun i=>(Array.replicate all.length false).getD i false) i l vs F=F:=by
   intro l
   induction l with
   | nil=>intro vs i F;simp [FSel]
   | cons o l ih=>
    intro vs i F;cases vs with
    | nil=>simp [FSel]
    | cons x vs=>
     simp only [FSel]
     have:(Array.replicate all.length false).getD i false=false:=by simp [Array.getD]
     rw [this];exact ih vs _ F
  rw [none];exact hF
end
def Kb:Code→Bool
 | .skip=>true
 | .region ..=>true
 | .seq x y=>Kb x&&Kb y
 | .cond _ x y=>Kb x&&Kb y
 | .ret=>true
 | _=>false
theorem yS {C:A2} {K:DCfg} {lps:List Code} (hK:DGood C K lps) (T:List Deferred):∀ n m c F H fs q (Q:Post) (QQ:Ex→List AV→Hp→Prop) (RR:AV→Hp→Prop),
    (∀ e F H fs,vT C.G QQ RR (q e F H fs)→Q e (vVs C.G F) (B8 C.G H))→Kb c=true→vT C.G QQ RR (dx K n m (.code c) F H fs q)→
    ∀ (ρ:Env) (a:Act) (w:World),m≤(B8 C.G H).length→B0 C ρ (B8 C.G H) w→D5 ρ (vVs C.G F) a→c.wpIn (W none) 0 C.P (tlQ T (AP C m ρ w Q)) (tl T a) w:=by
  intro n
  induction n with
  | zero => intro m c F H fs q Q QQ RR _ _ h; exact h.elim
  | succ n ih=>
    intro m c F H fs q Q QQ RR hq hs h;have g0:=Lt (C:=C) hK.mix lps;change vT C.G QQ RR (T5 K (dx K n) m c F H fs q) at h;intro ρ a w hm hH hF;have here:∀ ae,Q ae (vVs C.G F) (B8 C.G H)→tlQ T (AP C m ρ w Q) (Of ae) (tl T a) w:=fun ae hq=>⟨a,rfl,ae,ρ,_,_,rfl,hq,N5.refl m ρ,hH,hF,Frm.refl ρ w⟩;cases c with
    | skip=>exact wpIn_skip (here .normal (hq _ _ _ _ h))
    | region id ops draw=>
      cases draw with
      | true=>
        obtain ⟨trs',F',H',g1,g2,g3⟩:=In hK n m (.dr ops.toList ops.toList []) F H fs q Q QQ RR hq trivial h
        have:=pQ (id:=id) (r:=none) (Q:=AP C m ρ w Q) (Q':=tlQ T (AP C m ρ w Q)) (lps:=lps) g0 T g1 (by simpa using g2) hH hF (fun e a w h=>⟨a,rfl,h⟩) fun ρ' a' w' q1 q2 q3 q4=>⟨.normal,ρ',F',H',rfl,g3,N5.of_le hH q3 hm,q1,q2,q4⟩
        rwa [Array.toArray_toList] at this
      | false=>
        have:=In hK n m (.ops ops.toList ops.toList) F H fs q Q QQ RR hq trivial h none ρ a w hm hH hF
        rw [Array.toArray_toList] at this;exact wpIn_region_list (Gm T (fun e a w h=>⟨a,rfl,h⟩) _ _ _ this)
    | seq x y=>
      have hxy:=hs;simp only [Kb,Bool.and_eq_true] at hxy;obtain ⟨hx,hy⟩:=hxy
      have key:=ih m x F H fs (aY (dx K n) m y q) (fun e F1 H1=>match e with
        | .normal=>∀ ρ' a' w',m≤H1.length→B0 C ρ' H1 w'→D5 ρ' F1 a'→y.wpIn (W none) 0 C.P (tlQ T (AP C m ρ' w' Q)) (tl T a') w'
        | e=>Q e F1 H1) QQ RR (fun e F1 H1 fs1 ht=>by
          cases e with
          | normal=>exact fun ρ' a' w' q1 q2 q3=>ih m y F1 H1 fs1 q Q QQ RR hq hy ht ρ' a' w' q1 q2 q3
          | exit i=>exact hq _ _ _ _ ht
          | ret=>exact hq _ _ _ _ ht) hx h ρ a w hm hH hF
      refine wpIn_seq (Code.wpIn_mono ?_ key);rintro e _ w' ⟨a',rfl,ae,ρ',F',H',rfl,h2,h3,h4,h5,h6⟩;cases ae with
      | normal=>exact Code.wpIn_mono (fun e a w ⟨a0,e0,h⟩=>⟨a0,e0,AP.link h3 h6 h⟩) (h2 ρ' a' w' (W5 hm hH h4 h3) h4 h5)
      | exit i=>exact ⟨a',rfl,.exit i,ρ',F',H',rfl,h2,h3,h4,h5,h6⟩
      | ret=>exact ⟨a',rfl,.ret,ρ',F',H',rfl,h2,h3,h4,h5,h6⟩
    | cond c x y=>
      have hxy:=hs;simp only [Kb,Bool.and_eq_true] at hxy;obtain ⟨hx,hy⟩:=hxy;simp only [T5,Jb] at h;split at h
      · rename_i t;rw [Cn] at h;split at h
        · rename_i b hb;have hv:=hF.at t;rw [U3,hb] at hv;simp only [vV,VR] at hv
          have hs:∀ x:Bool,vB C.G b=x→vVs C.G (J0 F (some t) (.bool (.lit x)))=vVs C.G F:=fun x hx=>by
            rw [W4];simp only [put,vV,vB];refine R6 ?_ (by simp);rw [U3,hb];simp only [vV,hx]
          rcases T0 b fs _ _ h with ⟨h1,fs1,_,h2⟩ | ⟨h1,fs1,_,h2⟩
          · rw [h1] at hv
            have:=ih m x _ H fs1 q Q QQ RR hq hx h2 ρ a w hm hH
            rw [hs _ h1] at this;exact wpIn_cond_true hv (this hF)
          · rw [h1] at hv
            have:=ih m y _ H fs1 q Q QQ RR hq hy h2 ρ a w hm hH
            rw [hs _ h1] at this;exact wpIn_cond_false hv (this hF)
        · exact h.elim
      · rename_i b;cases b with
        | true=>exact wpIn_cond_true rfl (ih m x F H fs q Q QQ RR hq hx h ρ a w hm hH hF)
        | false=>exact wpIn_cond_false rfl (ih m y F H fs q Q QQ RR hq hy h ρ a w hm hH hF)
      · exact h.elim
    | ret=>exact wpIn_ret (here .ret (hq _ _ _ _ h))
    | _=>simp [Kb] at hs
theorem tR {C:A2} {K:DCfg} {lps:List Code} {fuel n0 m:Nat} {c:Code} {N:Nat} {live:List Nat} {vs:List EV} {H:DHp} {Q:Ex→List AV→Hp→Prop} (hK:DGood C K lps) (T:List Deferred) (hs:Kb c=true)
  (h:vT C.G Q (fun _ _=>False) (E8 K fuel n0 m c N live vs H)) {ρ:Env} {a:Act} {w:World} (hm:m≤H.length) (hH:B0 C ρ (B8 C.G H) w) (hF:D5 ρ (fl N live (vVs C.G vs)) a):c.wpIn (W none) 0 C.P (tlQ T (AP C m ρ w (lv N live Q))) (tl T a) w:=by
 refine yS hK T fuel m c (Vy N live vs) H (f0 n0) _ (lv N live Q) Q (fun _ _=>False) (fun e F1 H1 fs1 ht=>?_) hs h ρ a w (by simpa [D9] using hm) hH (by rw [Uf];exact hF);unfold fC at ht;split at ht
 ·rename_i hb;simp only [vT,Ue] at ht;simp only [lv,Q3,hb];exact ht
 ·exact ht.elim
end Go.Am
namespace Go.Am
open Go.RowKit
theorem Vn {P:Program} {fn:Func} {tmps:Array Value} {R:Ending→World→Prop} {rest:List Deferred} {u:FrameMode} (hu:u≠.run):∀ (ds:List Nat) (w:World),ds.Nodup→(∀ D∈ds,w.heap[D]?=some (.deferred (some [])))→
  (∀ w':World,w'.heap.size=w.heap.size→(∀ k,k ∉ ds→w'.heap[k]?=w.heap[k]?)→w'.os=w.os→w'.tape=w.tape→w'.output=w.output→LeavesInM Fence.wide 0 P fn tmps R rest u w')→
  LeavesInM Fence.wide 0 P fn tmps R ((ds.map fun D=>{ target:=.collected D,args:=#[] })++rest) u w
 | [],w,_,_,h=>h w rfl (fun _ _=>rfl) rfl rfl rfl
 | D::ds,w,hn,hd,h=>by
  refine ⟨hu,.inl ⟨D,w.putObj D (.deferred none),rfl,run_takeDeferred (hd D (by simp)),?_⟩⟩;refine Vn hu ds _ (List.nodup_cons.1 hn).2 (fun D' hD'=>?_) fun w' h1 h2 h3 h4 h5=>?_
  ·rw [World.putObj_heap_other (fun e:D'=D=>(List.nodup_cons.1 hn).1 (by rw [←e];exact hD'))];exact hd D' (by simp [hD'])
  ·refine h w' (by rw [h1];simp) (fun k hk=>?_) h3 h4 h5;rw [h2 k (fun hh=>hk (by simp [hh])),World.putObj_heap_other (fun e=>hk (by simp [e]))]
def uP (P:Program) (D:Deferred):Prop:=∃ fv cap g cargs,D.target=.fn fv cap∧∀ w,(invoke D.target D.args).run P w=.ok (.enter g cargs) w∧
 CallsDIn Fence.wide 0 P g cargs .returning w fun e u' w'=>e=.returned (.tuple #[])∧u'=.returning∧w'=w
theorem gR {P:Program} {fn:Func} {tmps:Array Value} {R:Ending→World→Prop} {D:Deferred} {w:World} (hD:uP P D) (h:∃ v,(results fn tmps).run P w=.ok v w∧R (.returned v) w):LeavesInM Fence.wide 0 P fn tmps R [D] .returning w:=by
 obtain ⟨fv,cap,g,cargs,h1,h2⟩:=hD;obtain ⟨h3,h4⟩:=h2 w;refine ⟨by simp,.inr ⟨fun h=>by simp [Fence.wide] at h,fv,cap,g,cargs,h1,h3,fun _ _=>trivial,h4.mono ?_⟩⟩;rintro e u' w' ⟨rfl,rfl,rfl⟩;exact h
theorem fY {C : A2} {f : FuncId} {fn : Func} {c : Code} {args : List AV} {H : Hp} {K : AV → Hp → Prop} (hf : C.P.funcs[f]? = some fn) (hb : fn.body = some c) (hn : (fn.name == "runtime.NumGoroutine") = false)
  (h:∀ (ρ:Env) (a:Act) (w:World),B0 C ρ H w→D5 ρ (J1 fn args) a→a.defers=[]→c.wpIn (W none) 0 C.P (fun e a' w'=>∃ D a0,a'=tl [D] a0∧uP C.P D∧AP C H.length ρ w (J6 C fn K) e a0 w') a w):ACalls C f args H K:=by
 refine ⟨⟨fn,c,hf,hb,hn⟩,fun ρ w cargs hH hv=>callsIn_wide.1 (callsIn_of_wp_marks (n:=0) hf hb trivial (wpIn_mono (h ⟨ρ.rw,ρ.ro,[]⟩ _ w (hH.setDfs [] (fun _ h=>by simp at h)) (Vv (VRs.sub (Env.sub_dfs ρ []) _ _ hv)) rfl) ?_))⟩;rintro e _ w' ⟨Dd,a',rfl,hDd,ae,ρ',F',H',rfl,hQ,hp,hH',hF',hfr⟩
 have fin:Sh (Mo C fn F' H') (fun v=>K v H')→LeavesInM Fence.wide 0 C.P fn (tl [Dd] a').tmps (fun e w''=>∃ v cv ρ' H',e=.returned cv∧K v H'∧ρ.le ρ'∧B0 C ρ' H' w''∧VR ρ' v cv∧Frm ρ w ρ' w'') (tl [Dd] a').defers .returning w':=by
  intro ho;obtain ⟨ds,hds,hnd,hD⟩:=hF'.nod
  have fresh:∀ D∈ds,w.heap.size≤D:=fun D h=>by
   rcases hfr.mkn D (hD D h) with h1 | h1
   ·simp at h1
   ·exact h1
  show LeavesInM Fence.wide 0 C.P fn a'.tmps _ (a'.defers++[Dd]) .returning w';rw [hds];refine Vn (by simp) ds w' hnd (fun D h=>(hH'.df D (hD D h)).1) fun w'' hs hk ho2 ht hou=>gR hDd ?_;obtain ⟨v,h1,h2⟩:=S1 ho
  have hH'':B0 C ⟨ρ'.rw,ρ'.ro,ρ.dfs⟩ H' w'':=by
   refine ⟨hH'.len,by rw [hs];exact hH'.base,fun i e he=>by rw [hs];exact hH'.ents i e he,fun i b hb=>(hH'.live i b hb).sub (Env.sub_dfs ρ' ρ.dfs) fun e he=>hk e.blk fun hin=>(hH'.df _ (hD _ hin)).2.1 i e he rfl,hH'.inj,fun i b d hr=>?_,fun D hDD=>⟨?_,fun i e he=>?_,fun i d hr=>?_⟩⟩
   ·obtain ⟨g1,g2,g3⟩:=hH'.ro i b d hr;refine ⟨by rw [hs];exact g1,g2,fun k v hv=>?_⟩;obtain ⟨cv,g4,g5⟩:=g3 k v hv;refine ⟨cv,?_,g5⟩;rw [World.cell?_of_block (w:=w') (hk b fun hin=>(hH'.df b (hD b hin)).2.2 i d hr)];exact g4
   ·have hlt:=hH.df_lt hDD;rw [hk D fun hin=>by have:=fresh D hin;omega,hfr.keep D hlt (.inr (hH.df D hDD).2.1)];exact (hH.df D hDD).1
   ·have hlt:=hH.df_lt hDD;rcases hfr.news i e he with ⟨j,e',hj,hje⟩ | hge
    ·rw [←hje];exact (hH.df D hDD).2.1 j e' hj
    ·omega
   ·have hlt:=hH.df_lt hDD;rcases hfr.newro i D d hr with h1 | ⟨j,e,he,heb⟩ | h1
    ·exact (hH.df D hDD).2.2 i d h1
    ·exact (hH.df D hDD).2.1 j e he heb
    ·omega
  have hF'':D5 ⟨ρ'.rw,ρ'.ro,ρ.dfs⟩ F' ⟨a'.tmps,[]⟩:=⟨⟨[],rfl,List.nodup_nil,fun _ h=>by simp at h⟩,hF'.len,fun i v hv=>VR.sub (Env.sub_dfs ρ' ρ.dfs) v _ (hF'.val i v hv)⟩;obtain ⟨cv,g1,g2⟩:=Nw hH'' hF'' h1
  have hle:ρ.le ⟨ρ'.rw,ρ'.ro,ρ.dfs⟩:=⟨fun i x hx=>by
   have hlt:i<ρ.rw.length:=(List.getElem?_eq_some_iff.1 hx).1;show ρ'.rw[i]?=_
   rw [hp i (by rw [←hH.len];exact hlt)];exact hx,hfr.ro,fun _ h=>h⟩
  exact ⟨cv,g1,v,cv,_,H',rfl,h2,hle,hH'',g2,⟨ho2.trans hfr.os,ht.trans hfr.tape,hou.trans hfr.output,by rw [hs];exact hfr.size,
   fun b hb hn=>(hk b fun hin=>by have:=fresh b hin;omega).trans (hfr.keep b hb hn),hfr.news,hfr.ro,hfr.newro,fun _ h=>.inl h⟩⟩
 cases ae with
 | normal=>exact fin hQ
 | ret=>exact fin hQ
 | exit i=>exact hQ.elim
end Go.Am
namespace Go.Am
open Go.RowKit
end Go.Am
namespace Go.Am
open Go.RowKit
def σS (src:Nat→Option Nat):Sig:=fun k=>match src k with
 | some k1=>(.ro k1,0)
 | none=>(.rw 0,0)
def uM (src:Nat→Option Nat) (G G':Nat→List AV):Prop:=∀ k k1,src k=some k1→∀ (j:Nat) v,(G' k)[j]?=some v→∃ x,(G k1)[j]?=some x∧E6 v=true∧∀ (ρ:Env) cv,VR ρ x cv→VR ρ (sb (σS src) 0 v) cv
theorem lT {P:Program} {G G':Nat→List AV} {B:Nat} {src:Nat→Option Nat} (hG:uM src G G') {ρ:Env} {w:World} (hH:B0 ⟨P,G,B⟩ ρ [] w):B0 ⟨P,G',w.heap.size⟩ ⟨[],Gq (σS src) ρ,[]⟩ [] w:=by
 refine ⟨rfl,Nat.le_refl _,fun i e h=>by simp at h,fun i b h=>by simp at h,fun i j b b' e e' h=>by simp at h,fun i b d hr=>?_,fun D h=>by simp at h⟩;have hlen:ρ.rw=[]:=List.eq_nil_of_length_eq_zero hH.len
 obtain ⟨k1,hs,hr1⟩:∃ k1,src i=some k1∧ρ.ro k1 b d:=by
  simp only [Gq] at hr;cases h:src i with
  | some k1=>
   have:σS src i=(.ro k1,0):=by unfold σS;rw [h]
   rw [this] at hr;obtain ⟨d0,h1,h2⟩:=hr;simp only [Nat.add_zero] at h2;exact ⟨k1,rfl,by rw [h2];exact h1⟩
  | none=>
   have:σS src i=(.rw 0,0):=by unfold σS;rw [h]
   rw [this] at hr;obtain ⟨e,h1,_⟩:=hr;rw [hlen] at h1;simp at h1
 obtain ⟨g1,g2,g3⟩:=hH.ro k1 b d hr1;refine ⟨g1,fun j x e h=>by simp at h,fun k v hv=>?_⟩;obtain ⟨x,q1,q2,q3⟩:=hG i k1 hs k v hv;obtain ⟨cv,g4,g5⟩:=g3 k x q1;refine ⟨cv,g4,mF (n:=0) v cv q2 (q3 ρ cv ?_)⟩;exact VR.sub (ρ:=⟨[],ρ.ro,[]⟩) (ρ':=ρ) ⟨fun i x hx=>by simp at hx,fun _ _ _ h=>h⟩ x cv g5
theorem oV {P:Program} {G G':Nat→List AV} {B:Nat} {f:FuncId} {args args':List AV} {R:AV→Prop} {src:Nat→Option Nat} (hG:uM src G G')
  (h:∀ B,ACalls ⟨P,G',B⟩ f args' [] fun v _=>R v) (ha:I4 args'=true) (hb:∀ (ρ:Env) vs,VRs ρ args vs→VRs ρ (sbs (σS src) 0 args') vs) (hR:∀ v,R v→A8 0 v=true∧O0 v=true):ACalls ⟨P,G,B⟩ f args [] fun v _=>R v:=by
 refine ⟨(h 0).1,fun ρ w cargs hH hv=>?_⟩;refine ((h w.heap.size).2 ⟨[],Gq (σS src) ρ,[]⟩ w cargs (lT hG hH) (Ma args' cargs ha (hb ρ cargs hv))).mono ?_;rintro e w' ⟨v,cv,ρ',H',rfl,h2,h3,h4,h5,h6⟩;obtain ⟨hb,hn⟩:=hR v h2;have hkeep:∀ b,b<w.heap.size→w'.heap[b]?=w.heap[b]?:=fun b hb=>h6.keep b hb (.inr fun i e h=>by simp at h);refine ⟨v,cv,ρ,[],rfl,h2,Env.le_refl ρ,?_,?_,?_⟩
 ·refine ⟨hH.len,Nat.le_trans hH.base h6.size,fun i e he=>⟨(hH.ents i e he).1,Nat.lt_of_lt_of_le (hH.ents i e he).2 h6.size⟩,fun i b hb=>?_,hH.inj,fun i b d hr=>?_,fun D hD=>⟨(hkeep D (hH.df_lt hD)).trans (hH.df D hD).1,(hH.df D hD).2⟩⟩
  ·exact (hH.live i b hb).mono (Env.le_refl ρ) fun e he=>hkeep _ (hH.ents i e he).2
  ·obtain ⟨g1,g2,g3⟩:=hH.ro i b d hr;refine ⟨Nat.lt_of_lt_of_le g1 h6.size,g2,fun k v hv=>?_⟩;obtain ⟨cv,g4,g5⟩:=g3 k v hv;refine ⟨cv,?_,g5⟩;rw [←g4];simp only [World.cell?,hkeep b g1]
 ·exact jV hb hn h5
 ·exact ⟨h6.os,h6.tape,h6.output,h6.size,fun b hb _=>hkeep b hb,fun i e he=>.inl ⟨i,e,he,rfl⟩,fun _ _ _ h=>h,fun _ _ _ h=>.inl h,fun _ h=>.inl h⟩
end Go.Am
