/-
  Methods: a call over one block of its own, told in every heap that has A nil list, looked at as an empty one of its own; views that leave the
-/
import Derived.Test.YthejjolnlngahaaBase4
import Derived.Test.YthejjolnlngahaaBase3
import Derived.RecoverIn
namespace Go.Am
section
variable {C:A1}
theorem ACalls.keep {f:FuncId} {args:List AV} {H H1:Hp} {v1:AV} {k:Nat} (h:ACalls C f args H fun v H'=>v=v1∧H'.take k=H1) (hk:H.length≤H1.length) (hb:I1 H1.length H1=true) (hv:B0 H1.length v1=true) (hu:v1≠.undef) :
  ACalls C f args H fun v H'=>v=v1∧H'=H1:=
 h.view fun v H' ⟨e1,e2⟩=>⟨v1,H1,⟨rfl,rfl⟩,by
  subst e1;have e:H'=H1++H'.drop k:=by rw [←e2,List.take_append_drop]
  rw [e];refine C5.same hk hb ?_
  cases v<;>first | exact absurd rfl hu | exact ⟨⟨hv,rfl⟩,trivial⟩⟩
theorem meth {f:FuncId} {e:Nat} {cs cs':List AV} {rest:List AV} {v:AV} {news:List Blk} (h:ACalls C f (.ptr (.rw 0) 0::rest) [some ⟨e,cs⟩] fun v' H'=>v'=v∧H'=some ⟨e,cs'⟩::news.map some)
  (hc:A6 0 cs=true) (hc':A6 0 cs'=true) (hr:A6 0 rest=true) (hv:B0 (1+news.length) v=true) (hn:∀ b∈news,A6 0 b.cells=true) {H:Hp} {i:Nat} (hi:H[i]?=some (some ⟨e,cs⟩)) :
  ACalls C f (.ptr (.rw i) 0::rest) H fun v' H'=>v'=C2 (J5 [i] H.length news.length) v∧H'=H.set i (some ⟨e,cs'⟩)++news.map some:=by
 have hlt:i<H.length:=(zP.1 hi).1
 have key:=Rt h [i] rfl (by simp) (fun j b hj=>by
  cases j with
  | zero=>
   simp at hj;subst hj;refine ⟨_,rfl,G2 (zA8 _) _ hc,?_⟩;simp only [I7,B4 _ _ hc];simpa using hi
  | succ j=>simp at hj) (H:=H) (by simp only [A6,B0,zO];exact ⟨by simp,G2 (zA8 _) _ hr⟩) (fun v0 H0' hk=>by
  obtain ⟨rfl,rfl⟩:=hk;refine ⟨by simp,by simpa [Nat.add_comm] using hv,fun j b hj=>?_⟩;cases j with
  | zero=>simp at hj;subst hj;exact G2 (zA8 _) _ hc'
  | succ j=>
   have:b∈news:=zA1 (i:=j) (by simpa using hj)
   exact G2 (zA8 _) _ (hn _ this))
 have ea:rens [i] (.ptr (.rw 0) 0::rest)=.ptr (.rw i) 0::rest:=by
  simp only [rens,C2,B4 _ _ hr];rfl
 rw [ea] at key;refine key.monoK ?_;rintro v' H' ⟨v0,H0',⟨rfl,rfl⟩,rfl,rfl⟩;have el:(some (⟨e,cs'⟩:Blk)::List.map some news).length - [i].length=news.length:=by simp
 refine ⟨by rw [el],?_⟩;unfold T6;rw [el];simp only [lay,P9,I7,List.length_cons,List.length_nil,Nat.zero_add,List.drop_succ_cons,List.drop_zero,Option.map_some,B4 _ _ hc'];congr 1;rw [List.map_map];refine List.map_congr_left fun b hb=>?_;simp only [Function.comp,P9,Option.map_some,I7,B4 _ _ (hn b hb)]
theorem E1.set1 {f:FuncId} {rest:List EV} {H:DHp} {i:Nat} {e:Nat} {l l':EL} {v:EV} (hi:H[i]?=some (some ⟨e,l⟩)) (h:ACalls C f (.ptr (.rw 0) 0::vVs C.G rest) [some ⟨e,vL C.G l⟩] fun v' H'=>v'=vV C.G v∧H'.take 1=[some ⟨e,vL C.G l'⟩])
  (hc:A6 0 (vL C.G l)=true) (hc':A6 0 (vL C.G l')=true) (hr:A6 0 (vVs C.G rest)=true) (hv:B0 0 (vV C.G v)=true) (hu:vV C.G v≠.undef):E1 C f (.ptr (.rw i) (.lit 0)::rest) H v [.set i ⟨e,l'⟩]:=by
 have h:=h.keep (by simp) (by simp [I1,G2 (zA8 _) _ hc']) (Sc (zA8 _) _ hv) hu
 have:=meth (news:=[]) h hc hc' hr (Sc (zA8 _) _ hv) (fun b hb=>by simp at hb) (G4 hi)
 unfold E1;simp only [vVs,vV,vR,vN];refine this.monoK ?_;rintro v' H' ⟨rfl,rfl⟩;refine ⟨Hw _ _ hv,?_⟩;simp [acts,Hop.act,I6,C6]
end
def Ri (k:Nat) (x x':AV):Prop:=x'=x∨(x=.slice true (.rw k) 0 0∧x'=.nils)
def Dq (k:Nat):List AV→List AV→Prop
 | [],[]=>True
 | x::l,y::m=>Ri k x y∧Dq k l m
 | _,_=>False
def Uc (k:Nat):Hp→Hp→Prop
 | [],[]=>True
 | none::H,none::H'=>Uc k H H'
 | some b::H,some b'::H'=>(b.esz=b'.esz∧Dq k b.cells b'.cells)∧Uc k H H'
 | _,_=>False
theorem iD {k:Nat} (x:AV):Ri k x x:=.inl rfl
theorem Q7 {k:Nat}:∀ (l:List AV),Dq k l l
 | []=>trivial
 | x::l=>⟨iD x,Q7 l⟩
theorem Ub {k:Nat}:∀ {l m:List AV},Dq k l m→l.length=m.length∧∀ (i:Nat) v,l[i]?=some v→∃ v',m[i]?=some v'∧Ri k v v'
 | [],[],_=>⟨rfl,fun i v h=>by simp at h⟩
 | [],_::_,h=>h.elim
 | _::_,[],h=>h.elim
 | x::l,y::m,h=>by
  obtain ⟨h1,h2⟩:=Ub h.2;refine ⟨by simp [h1],fun i v hv=>?_⟩;cases i with
  | zero=>simp at hv;subst hv;exact ⟨y,rfl,h.1⟩
  | succ i=>simpa using h2 i v (by simpa using hv)
theorem Za {k:Nat}:∀ {H H':Hp},Uc k H H'→H.length=H'.length∧∀ (i:Nat) b,H[i]?=some (some b)→∃ b',H'[i]?=some (some b')∧b.esz=b'.esz∧Dq k b.cells b'.cells
 | [],[],_=>⟨rfl,fun i v h=>by simp at h⟩
 | [],_::_,h=>h.elim
 | none::_,[],h=>h.elim
 | some _::_,[],h=>h.elim
 | none::_,some _::_,h=>h.elim
 | some _::_,none::_,h=>h.elim
 | none::H,none::H',h=>by
  obtain ⟨h1,h2⟩:=Za (show Uc k H H' from h);refine ⟨by simp [h1],fun i v hv=>?_⟩;cases i with
  | zero=>simp at hv
  | succ i=>simpa using h2 i v (by simpa using hv)
 | some b::H,some b'::H',h=>by
  obtain ⟨h1,h2⟩:=Za h.2;refine ⟨by simp [h1],fun i v hv=>?_⟩;cases i with
  | zero=>simp at hv;subst hv;exact ⟨b',rfl,h.1⟩
  | succ i=>simpa using h2 i v (by simpa using hv)
theorem Mk {ρ:Env} {x x':AV} {cv:Value} (h:Ri ρ.rw.length x x') (hv:VR ρ x' cv):VR (ρ.push none) x cv:=by
 rcases h with rfl | ⟨rfl,rfl⟩
 ·exact VR.mono (Env.le_push ρ none) _ _ hv
 ·simp only [VR] at hv ⊢;subst hv;exact ⟨none,0,rfl,zA7 _,.inl ⟨rfl,rfl,rfl⟩⟩
theorem rQ {C:A1} {ρ:Env} {H H':Hp} {w:World} (e:Nat) (hH:Uc H'.length H H') (h4:B2 C ρ H' w):B2 C (ρ.push none) (H++[some ⟨e,[]⟩]) w:=by
 have hl:=h4.len;obtain ⟨hle,hget⟩:=Za hH;have low:∀ i,i<H'.length→(ρ.push none).rw[i]?=ρ.rw[i]?:=fun i hi=>by simp [Env.push,pY (show i<ρ.rw.length by omega)]
 have none':∀ (i:Nat) x,(ρ.push none).rw[i]?=some (some x)→ρ.rw[i]?=some (some x):=fun i x hx=>by
  rcases X0 ρ none i _ hx with ⟨_,h⟩ | ⟨_,h⟩
  ·exact h
  ·simp at h
 have blk:∀ (i:Nat) b,(H++[some (⟨e,[]⟩:Blk)])[i]?=some (some b)→(i<H'.length∧H[i]?=some (some b))∨(i=H'.length∧b=⟨e,[]⟩):=fun i b hb=>by
  by_cases hi:i<H.length
  ·rw [pY hi] at hb;exact .inl ⟨by omega,hb⟩
  ·rw [qP (by omega)] at hb
   have:i=H.length:=by have:=(zP.1 hb).1;simp at this;omega
   subst this;simp at hb;exact .inr ⟨hle,hb.symm⟩
 refine ⟨by simp [Env.push,hl,hle],h4.base,fun i x hx=>h4.ents i x (none' i x hx),fun i b hb=>?_,fun i j b b' x x' q1 q2 q3 q4 q5=>?_,fun i b d hr=>⟨(h4.ro i b d hr).1,fun j x e q1 q2=>?_,(h4.ro i b d hr).2.2⟩,fun D hD=>⟨(h4.df D hD).1,fun i x hx=>(h4.df D hD).2.1 i x (none' i x hx),(h4.df D hD).2.2⟩⟩
 ·rcases blk i b hb with ⟨hi,hb⟩ | ⟨rfl,rfl⟩
  ·rw [low i hi];obtain ⟨b',g1,g2,g3⟩:=hget i b hb;obtain ⟨gl,gg⟩:=Ub g3
   have:=h4.live i b' g1
   match hx:ρ.rw[i]?,this with
   | some (some en),this=>
    have hrr:isRec b=isRec b':=by unfold isRec;rw [g2]
    cases hr0:isRec b' with
    | true=>
     obtain ⟨h1,r,h2,p,ps,a,bd,F,q1,q2,q3,q4,q5,q6,q7⟩:=this.rec hr0;rw [q1] at g3 gl gg
     obtain ⟨F',hF'⟩:∃ F',b.cells=.rcd p ps a bd::F':=by
      cases hc:b.cells with
      | nil=>rw [hc] at gl;simp at gl
      | cons x F'=>
       rw [hc] at g3;rcases g3.1 with h | ⟨_,h⟩
       ·exact ⟨F',by rw [h]⟩
       ·simp at h
     refine .ofRec (hrr.trans hr0) ⟨by rw [h1,g2],r,h2,p,ps,a,bd,F',hF',q2,q3,q4,q5,?_,fun k v hv=>?_⟩
     ·rw [hF'] at gl;rw [←q6];simpa using gl
     ·obtain ⟨v',e1,e2⟩:=gg (k+1) v (by rw [hF'];simpa using hv);exact Mk (by rw [hl];exact e2) (q7 k v' (by simpa using e1))
    | false=>
    obtain ⟨h1,cs,ty,fz,h2,h3,h5,h6,h7⟩:=this.cs hr0;refine .of (hrr.trans hr0) ⟨by rw [h1,g2],cs,ty,fz,h2,h3,by omega,fun k v hv=>?_,h7⟩;obtain ⟨v',e1,e2⟩:=gg k v hv;obtain ⟨cv,e3,e4⟩:=h6 k v' e1;exact ⟨cv,e3,Mk (by rw [hl];exact e2) e4⟩
   | some none,this=>
    have hc:b'.cells=[]:=this;show b.cells=[];rw [hc] at gl;exact List.length_eq_zero_iff.1 (by simpa using gl)
  ·have:(ρ.push none).rw[H'.length]?=some none:=by simp [Env.push,←hl]
   rw [this];rfl
 ·have r3:=none' i x q3;have r4:=none' j x' q4;have l3:i<H'.length:=by rw [←hl];exact (zP.1 r3).1
  have l4:j<H'.length:=by rw [←hl];exact (zP.1 r4).1
  rw [pY (by omega)] at q1;rw [pY (by omega)] at q2;obtain ⟨b1,g1,_⟩:=hget i b q1;obtain ⟨b2,g2,_⟩:=hget j b' q2;exact h4.inj i j b1 b2 x x' g1 g2 r3 r4 q5
 ·have r2:=none' j e q2;have l2:j<H'.length:=by rw [←hl];exact (zP.1 r2).1
  rw [pY (by omega)] at q1;obtain ⟨b1,g1,_⟩:=hget j x q1;exact (h4.ro i b d hr).2.1 j b1 e g1 r2
theorem zQ {C:A1} {ρ:Env} {H':Hp} {w:World} {F F':Fr} {a:Act} (h4:B2 C ρ H' w) (hF:Dq H'.length F F') (h:D0 ρ F' a):D0 (ρ.push none) F a:=by
 obtain ⟨gl,gg⟩:=Ub hF;refine ⟨h.nod,by rw [gl,h.len],fun i v hv=>?_⟩;obtain ⟨v',e1,e2⟩:=gg i v hv;exact Mk (by rw [h4.len];exact e2) (h.val i v' e1)
theorem rR {ρ:Env} {w:World}:Frm ρ w (ρ.push none) w:=by
 have none':∀ (i:Nat) x,(ρ.push none).rw[i]?=some (some x)→ρ.rw[i]?=some (some x):=fun i x hx=>by
  rcases X0 ρ none i _ hx with ⟨_,h⟩ | ⟨_,h⟩
  ·exact h
  ·simp at h
 exact ⟨rfl,rfl,rfl,zA7 _,fun _ _ _=>rfl,fun i x hx=>.inl ⟨i,x,none' i x hx,rfl⟩,fun _ _ _ h=>h,fun _ _ _ h=>.inl h,fun _ h=>.inl h⟩
theorem AWp.nil {C:A1} {m:Nat} {c:Code} {F F':Fr} {H H':Hp} {Q:Post} (e:Nat) (hm:m≤H'.length) (hF:Dq H'.length F F') (hH:Uc H'.length H H') (h:AWp C m c F (H++[some ⟨e,[]⟩]) Q):AWp C m c F' H' Q:=by
 intro r hr ρ a w h4 h5
 have:=h r hr (ρ.push none) a w (rQ e hH h4) (zQ h4 hF h5)
 refine Code.wpIn_mono (fun e' a' w' h=>AP.link ?_ rR h) this;intro i hi
 have:i<ρ.rw.length:=by rw [h4.len];omega
 simp [Env.push,pY this]
theorem fixes1 {θ:List Nat}:∀ i,i<1→(0::θ).getD i 0=i:=fun i hi=>by
 have:i=0:=by omega
 subst this;rfl
theorem Vd {θ:List Nat}:∀ i,i<2→(0::1::θ).getD i 0=i:=fun i hi=>by
 have:i=0∨i=1:=by omega
 rcases this with rfl | rfl<;>rfl
theorem C5.renM {m:Nat} {θ:List Nat} {F F':Fr} {H H':Hp} (hm:m≤H.length) (hfix:∀ i,i<m→θ.getD i 0=i) (hnd:θ.Nodup) (hb:Vm θ H' H.length θ H) (hF:A6 H.length F=true) (hF':wk (rens θ F) F'):C5 m F H F' H':=by
 obtain ⟨θ',g1,_,_,g2,g3,g4,g5,g6⟩:=(C5.ren hnd hb hF hF').ex;have hl:=Sd hb;have hg:=Se hb;refine ⟨θ,hl,hm,hfix,fun i hi=>(hg i hi).1,fun i j b b' h1 h2 he=>?_,fun i b h=>?_,g5,fun k v hk=>?_⟩
 ·have hi:i<θ.length:=by rw [hl];exact (zP.1 h1).1
  have hj:j<θ.length:=by rw [hl];exact (zP.1 h2).1
  simp only [List.getD,xW hi,xW hj,Option.getD_some] at he;exact (List.getElem_inj hnd).1 he
 ·have hi:i<θ.length:=by rw [hl];exact (zP.1 h).1
  obtain ⟨q1,q2⟩:=(hg i hi).2 b h;refine ⟨_,q2,by rw [I9];simp,rfl,fun k v hk=>?_,fun _=>⟨by rw [I9];simp,by rw [I9];simp⟩⟩;rw [O1,qD] at q1;refine ⟨by rw [hl];exact q1 v (zA1 hk),.inr ?_⟩;rw [I9];simp [hk]
 ·rw [O1,qD] at hF;refine ⟨by rw [hl];exact hF v (zA1 hk),?_⟩;rcases Sy hF' k (Go.Am.C2 θ v) (by rw [I9];simp [hk]) with h | h
  ·left;cases v with
   | undef=>rfl
   | ptr r o=>cases r<;>simp [Go.Am.C2] at h
   | slice m r o n=>cases r<;>simp [Go.Am.C2] at h
   | _=>simp [Go.Am.C2] at h
  ·exact .inr h
theorem iC {k:Nat} {f g:Nat→AV}:∀ (l:List Nat),(∀ i∈l,Ri k (f i) (g i))→Dq k (l.map f) (l.map g)
 | [],_=>trivial
 | x::l,h=>⟨h x (by simp),iC l fun i hi=>h i (by simp [hi])⟩
theorem aX {k i:Nat}:∀ (live:List Nat) (vs vs':List AV),Dq k vs vs'→Ri k ((((live.zip vs).find? fun p=>Nat.beq p.1 i).map (·.2)).getD .undef) ((((live.zip vs').find? fun p=>Nat.beq p.1 i).map (·.2)).getD .undef)
 | [],_,_,_=>by simp [Ri]
 | j::live,[],[],_=>by simp [Ri]
 | j::live,[],_::_,h=>h.elim
 | j::live,_::_,[],h=>h.elim
 | j::live,x::vs,y::vs',h=>by
  simp only [List.zip_cons_cons,List.find?_cons];split
  ·simpa using h.1
  ·exact aX live vs vs' h.2
theorem aL9 {k N:Nat} {live:List Nat} {vs vs':List AV} (h:Dq k vs vs'):Dq k (fl N live vs) (fl N live vs'):=
 iC _ fun i _=>aX live vs vs' h
theorem AWp.pin {C:A1} {m m':Nat} {c:Code} {F:Fr} {H:Hp} {Q:Post} (hm:m'≤m) (h:AWp C m c F H Q):AWp C m' c F H Q:=by
 intro r hr ρ a w hH hF;refine Code.wpIn_mono ?_ (h r hr ρ a w hH hF);rintro e a' w' ⟨ae,ρ',F',H',h1,h2,h3,h4⟩;exact ⟨ae,ρ',F',H',h1,h2,fun i hi=>h3 i (by omega),h4⟩
theorem F5.of {C:A1} {M:Nat} {c:Code} {d:DL} (h:∀ vs H o,d.S vs H=some o→∀ n (Q:Ex→List AV→Hp→Prop),J2 C.G (fun e vs' H'=>Q e (vVs C.G vs') (B8 C.G H')) n o→
  AWp C M (.loop c) (fl d.N d.live (vVs C.G vs)) (B8 C.G H) (lv d.N d.live (Lp M Q))):F5 C M c d:=
 fun m vs H o hm ho n Q hQ=>((h vs H o ho n Q hQ).pin hm).lmono fun e vs H' hl=>hl.pin hm
theorem sF {n:Nat}:∀ (F:Fr),A6 n F=true→fv n F F
 | [],_=>trivial
 | x::F,h=>by
  simp only [A6,zO] at h
  have:=sF F h.2
  cases x<;>first | exact this | exact ⟨⟨h.1,rfl⟩,this⟩
theorem bD8 {n N:Nat} {live:List Nat} {vs:List AV} (h:A6 n vs=true):A6 n (fl N live vs)=true:=by
 rw [O1,qD];intro v hv;obtain ⟨i,hi⟩:=List.getElem?_of_mem hv;rcases aA8 hi with rfl | ⟨j,_,h2⟩
 ·rfl
 ·rw [O1,qD] at h;exact h v (zA1 h2)
theorem AWp.forget {C:A1} {m:Nat} {c:Code} {N:Nat} {live:List Nat} {vs:List AV} {H G:Hp} {Q:Post} (hm:m≤H.length) (hb:I1 H.length H=true) (hv:A6 H.length vs=true) (h:AWp C m c (fl N live vs) H Q):AWp C m c (fl N live vs) (H++G) Q:=
 h.pre (C5.same hm hb (sF _ (bD8 hv)))
end Go.Am
namespace Go
theorem DataW.TrodAll.len {H:Type} {enc:TypeId×Value→H} {P:Program} {w:World} {base:Nat} {spare:Nat→Bool} {held:Bool}:∀ {ts:List TypeId} {vs:List Value} {ds:List (DataW H)} {ps:List MemPlace},DataW.TrodAll enc P w base spare held ts vs ds ps→vs.length=ts.length∧ds.length=ts.length
 | [],vs,ds,ps,h=>by
  obtain ⟨rfl,rfl,rfl⟩:=ChangeShapes.trodAll_nil h;exact ⟨rfl,rfl⟩
 | t::ts,vs,ds,ps,h=>by
  obtain ⟨v,vs,d,ds,p,q,rfl,rfl,rfl,h1,h2⟩:=ChangeShapes.trodAll_cons h
  have:=DataW.TrodAll.len h2
  simp [this]
end Go
namespace Go.Am
section
variable {H:Type} {P:Program} {L:List RoE} {n:Nat} {t e:TypeId} {cs:List AV} {a:AV} {d:DataW H}
theorem T3.asInt {k:IntKind} (ht:P.underlying t=some (.int k)) (h:T3 P L (n+1) t cs d):∃ i,cs=[.int k i]∧(Lit.int k i).wf=true∧d=.lit (.int k i):=by unfold T3 at h;rw [ht] at h;exact h
theorem T3.asSlice (ht:P.underlying t=some (.slice e)) (h:T3 P L (n+1) t cs d):(cs=[.nils]∧d=.nil)∨∃ (k:Nat) (ds sp:List (DataW H)) (en:RoE),cs=[.slice false (.ro k) 0 ds.length]∧d=.slice ds sp∧L[k]?=some en∧
    en.cells.length=ds.length*P.cellsOf e∧ds.length+sp.length≤maxLen∧∀ (i:Nat) x,ds[i]?=some x→T3 P L n e ((en.cells.drop (i*P.cellsOf e)).take (P.cellsOf e)) x:=by unfold T3 at h;rw [ht] at h;exact h
theorem wO {k:Nat} {en:RoE} (h:L[k]?=some en):GL L k=en.cells:=by simp [GL,h]
structure pD (L:List RoE) (kd:IntKind) (k m:Nat):Prop where
 len:(GL L k).length=m
 ok:Dx kd (GL L k) 0 m=true
 wf:∀ j,j<m→(Lit.int kd (A2 (GL L k) j)).wf=true
theorem pD.flat {L:List RoE} {kd:IntKind} {k m:Nat} (h:pD L kd k m):∀ v∈GL L k,∃ i,v=.int kd i:=by
 intro v hv;obtain ⟨j,hj⟩:=List.getElem?_of_mem hv;have hlt:j<m:=by rw [←h.len];exact (zP.1 hj).1
 have:=Ii (Lg h.ok hlt)
 rw [Nat.zero_add,hj] at this;exact ⟨_,Option.some.inj this⟩
theorem T3.asInts {kd:IntKind} (ht:P.underlying t=some (.slice e)) (he:P.underlying e=some (.int kd)) (hc:P.cellsOf e=1) (h:T3 P L (n+2) t cs d) :
  (cs=[.nils]∧d=.nil)∨∃ (k:Nat) (ds sp:List (DataW H)),cs=[.slice false (.ro k) 0 ds.length]∧d=.slice ds sp∧ds.length+sp.length≤maxLen∧pD L kd k ds.length:=by
 rcases T3.asSlice ht h with h | ⟨k,ds,sp,en,h1,h2,h3,h4,h5,h6⟩
 ·exact .inl h
 ·refine .inr ⟨k,ds,sp,h1,h2,h5,?_⟩;rw [hc,Nat.mul_one] at h4
  have key:∀ j,j<ds.length→∃ i,en.cells[j]?=some (.int kd i)∧(Lit.int kd i).wf=true:=fun j hj=>by
   obtain ⟨i,g1,g2,_⟩:=T3.asInt he (h6 j ds[j] (xW hj));rw [hc,Nat.mul_one] at g1;refine ⟨i,?_,g2⟩
   have:=congrArg (fun l:List AV=>l[0]?) g1
   simp only [zA4,List.getElem?_drop,List.getElem?_cons_zero] at this;simpa using this
  refine ⟨by rw [wO h3,h4],mQ fun j hj=>?_,fun j hj=>?_⟩
  ·obtain ⟨i,g1,_⟩:=key j hj;rw [wO h3,Nat.zero_add];simp [isI,g1]
  ·obtain ⟨i,g1,g2⟩:=key j hj;rw [wO h3];simp [A2,g1,g2]
theorem Hg.slice (ht:P.underlying t=some (.slice e)) (h:Hg P L n t a d):T3 P L n t [a] d:=by unfold Hg at h;rw [ht] at h;exact h
theorem Je.nil {xs:List AV} {ds:List (DataW H)} (h:Je P L n [] xs ds):xs=[]∧ds=[]:=by
 match xs,ds,h with
 | [],[],_=>exact ⟨rfl,rfl⟩
theorem Je.cons {ts:List TypeId} {xs:List AV} {ds:List (DataW H)} (h:Je P L n (t::ts) xs ds):∃ x xs' d ds',xs=x::xs'∧ds=d::ds'∧Hg P L n t x d∧Je P L n ts xs' ds':=by
 match xs,ds,h with
 | x::xs,d::ds,h=>exact ⟨x,xs,d,ds,rfl,rfl,h.1,h.2⟩
theorem aE0 {L:List RoE} {k:Nat} (h:L.length≤k):GL L k=[]:=by simp [GL,h]
theorem Is {ρ:Env} {v:Value} (k o:Nat) (h:VR ρ .nils v):VR ρ (.slice true (.ro k) o 0) v:=by
 simp only [VR] at h ⊢;subst h;exact ⟨none,0,rfl,zA7 _,.inl ⟨rfl,rfl,rfl⟩⟩
theorem Dj {ρ:Env} {v:Value} {mb:Bool} {r:Ref} {o m:Nat} (h:VR ρ (.slice mb r o m) v):VR ρ (.slice true r o m) v:=by
 simp only [VR] at h ⊢;obtain ⟨ca,cap,h1,h2,h3⟩:=h;refine ⟨ca,cap,h1,h2,?_⟩;rcases h3 with ⟨h3,h4,_⟩ | h3
 ·exact .inl ⟨h3,h4,rfl⟩
 ·exact .inr h3
end
end Go.Am
namespace Go.Am
section
variable {C:A1}
theorem Cp {G:Nat→List AV} {H:DHp} {i:Nat} {b:DBlk} (hi:H[i]?=some (some b)):(B8 G H).set i (some (C6 G b))=B8 G H:=by
 have hg:=G4 (G:=G) hi;have hlt:i<(B8 G H).length:=(zP.1 hg).1
 have:(B8 G H)[i]=some (C6 G b):=by
  have:=hg
  rw [xW hlt] at this;simpa using this
 rw [←this];exact List.set_getElem_self hlt
theorem E1.new0 {f:FuncId} {args0:List AV} {args:List EV} {H:DHp} {b:DBlk} {v:EV} {v0:AV} (h:ACalls C f args0 [] fun v' H'=>v'=v0∧H'=[some (C6 C.G b)])
  (hb:A6 0 (vL C.G b.cells)=true) (ha:A6 0 args0=true) (he:vVs C.G args=args0) (hv0:B0 1 v0=true) (hv:vV C.G v=C2 [H.length] v0):E1 C f args H v [.new b]:=by
 have key:=Rt h [] rfl (by simp) (fun k b hk=>by simp at hk) (H:=B8 C.G H) (by simpa using ha) (fun v1 H0' hk=>by
  obtain ⟨rfl,rfl⟩:=hk;refine ⟨by simp,hv0,fun k b' hb'=>?_⟩
  match k with
  | 0=>simp at hb';subst hb';exact G2 (zA8 _) _ hb
  | k+1=>simp at hb')
 unfold E1;rw [he,show args0=rens [] args0 from (B4 _ _ ha).symm];refine key.monoK ?_;rintro v' H' ⟨v1,H0',⟨rfl,rfl⟩,rfl,rfl⟩;refine ⟨by rw [hv];simp [J5,E2],?_⟩;simp only [List.map_cons,List.map_nil,acts,Hop.act,I6,T6,lay,List.length_nil,List.drop_zero,P9,Option.map_some];congr 2;simp only [I7,C6,B4 _ _ hb]
end
section
variable {C:A1}
theorem eP {n:Nat}:∀ {H:Hp},I1 n H=true→∀ (i:Nat) b,H[i]?=some (some b)→A6 n b.cells=true
 | [],_,i,b,h=>by simp at h
 | none::H,hb,i,b,h=>by
  cases i with
  | zero=>simp at h
  | succ i=>exact eP (H:=H) (by simpa [I1] using hb) i b (by simpa using h)
 | some b0::H,hb,i,b,h=>by
  simp only [I1,zO] at hb;cases i with
  | zero=>simp at h;subst h;exact hb.1
  | succ i=>exact eP (H:=H) hb.2 i b (by simpa using h)
theorem E1.fr {f:FuncId} {args0:List AV} {args:List EV} {H:DHp} {θ:List Nat} {H0 H1:Hp} {v0:AV} {v:EV} {hs:List DHop} (hnd:θ.Nodup) (hl:θ.length=H0.length)
  (hlive:∀ (i:Nat) b,H0[i]?=some b→∃ b0,b=some b0∧A6 θ.length b0.cells=true∧(B8 C.G H)[θ.getD i 0]?=some (some (I7 θ b0)))
  (ha:A6 θ.length args0=true) (he:vVs C.G args=rens θ args0) (h:ACalls C f args0 H0 fun v' H'=>v'=v0∧H'=H1) (hle:H0.length≤H1.length) (hv0:B0 H1.length v0=true) (hb:I1 H1.length H1=true)
  (hv:vV C.G v=C2 (J5 θ H.length (H1.length - θ.length)) v0) (hm:acts (B8 C.G H) (hs.map (I6 C.G))=T6 θ (B8 C.G H) H1):E1 C f args H v hs:=by
 have key:=Rt h θ hl hnd hlive ha (fun v1 H0' hk=>by
  obtain ⟨rfl,rfl⟩:=hk
  exact ⟨hle,hv0,eP hb⟩)
 unfold E1;rw [he];refine key.monoK ?_;rintro v' H' ⟨v1,H0',⟨rfl,rfl⟩,rfl,rfl⟩;exact ⟨by rw [hv,E2],hm.symm⟩
theorem nC (θ':List Nat):∀ (θ:List Nat) (bs:List (Option Blk)) (H:Hp),(∀ (i:Nat) b,i<θ.length→bs[i]?=some b→H[θ.getD i 0]?=some (P9 θ' b))→lay θ' θ bs H=H
 | [],_,_,_=>by simp [lay]
 | _::_,[],_,_=>by simp [lay]
 | j::θ,b::bs,H,h=>by
  have h0:=h 0 b (by simp) rfl;have hj:H[j]?=some (P9 θ' b):=by simpa using h0
  have hlt:j<H.length:=(zP.1 hj).1
  have e:H.set j (P9 θ' b)=H:=by
   have:H[j]=P9 θ' b:=by rw [xW hlt] at hj;simpa using hj
   rw [←this];exact List.set_getElem_self hlt
  simp only [lay,e]
  exact nC θ' θ bs H fun i b' hi hb=>by
   have:=h (i+1) b' (by simpa using hi) (by simpa using hb)
   simpa using this
theorem E1.newN {f:FuncId} {args0:List AV} {args:List EV} {H:DHp} {θ:List Nat} {H0:Hp} {b:DBlk} {v0:AV} {v:EV} (hnd:θ.Nodup) (hl:θ.length=H0.length)
  (hlive:∀ (i:Nat) b,H0[i]?=some b→∃ b0,b=some b0∧A6 θ.length b0.cells=true∧(B8 C.G H)[θ.getD i 0]?=some (some (I7 θ b0)))
  (ha:A6 θ.length args0=true) (he:vVs C.G args=rens θ args0) (h:ACalls C f args0 H0 fun v' H'=>v'=v0∧H'=H0++[some (C6 C.G b)]) (hb:A6 0 (vL C.G b.cells)=true) (hv0:B0 (H0.length+1) v0=true)
  (hv:vV C.G v=C2 (J5 θ H.length 1) v0):E1 C f args H v [.new b]:=by
 have hH0:∀ (i:Nat) x,H0[i]?=some (some x)→A6 θ.length x.cells=true:=fun i x hx=>by
  obtain ⟨b0,e,g,_⟩:=hlive i _ hx;simp at e;subst e;exact g
 have hpb:I1 (H0++[some (C6 C.G b)]).length (H0++[some (C6 C.G b)])=true:=by
  have key:∀ (n:Nat) (A:Hp),(∀ (i:Nat) x,A[i]?=some (some x)→A6 n x.cells=true)→I1 n A=true:=by
   intro n A
   induction A with
   | nil=>intro _;rfl
   | cons x A ih=>
    intro g
    have:=ih fun i y hy=>g (i+1) y (by simpa using hy)
    cases x with
    | none=>simpa [I1] using this
    | some x=>simp only [I1,zO];exact ⟨g 0 x rfl,this⟩
  refine key _ _ fun i x hx=>?_;by_cases hi:i<H0.length
  ·rw [pY hi] at hx;exact G2 (by simp;omega) _ (hH0 i x hx)
  ·rw [qP (by omega)] at hx
   have:i - H0.length=0:=by have:=(zP.1 hx).1;simp at this;omega
   rw [this] at hx;simp at hx;subst hx;exact G2 (zA8 _) _ hb
 have hd:(H0++[some (C6 C.G b)]).length - θ.length=1:=by simp;omega
 refine E1.fr hnd hl hlive ha he h (by simp) (by simpa using hv0) hpb (by rw [hd];exact hv) ?_;unfold T6;rw [hd]
 have e1:lay (J5 θ (B8 C.G H).length 1) θ (H0++[some (C6 C.G b)]) (B8 C.G H)=B8 C.G H:=by
  refine nC _ _ _ _ fun i x hi hx=>?_;rw [pY (by omega)] at hx;obtain ⟨b0,rfl,g1,g2⟩:=hlive i x hx;rw [g2];simp only [P9,Option.map_some,I7,Jk _ g1]
 rw [e1,hl];simp [acts,Hop.act,I6,P9,I7,C6,B4 _ _ hb]
end
section
variable {C:A1}
theorem vJ {cs:List AV} (h:A6 0 cs=true∧N1 cs=true) (j:Nat) (v:AV) (hv:cs[j]?=some v) (σ:Sig):E8 v=true∧sb σ 0 v=v:=by
 have key:∀ {l:List AV},A6 0 l=true→N1 l=true→∀ v∈l,B0 0 v=true∧M1 v=true:=by
  intro l
  induction l with
  | nil=>intro _ _ v hv;simp at hv
  | cons x l ih=>
   intro h1 h2 v hv;simp only [A6,N1,zO] at h1 h2;rcases List.mem_cons.1 hv with rfl | hv
   ·exact ⟨h1.1,h2.1⟩
   ·exact ih h1.2 h2.2 v hv
 obtain ⟨h1,h2⟩:=key h.1 h.2 v (zA1 hv);exact ⟨Uy v h1,Wi v h2⟩
theorem E1.rdN {f:FuncId} {args:List EV} {H:DHp} {v:EV} {σ:Sig} {G':Nat→List AV} {args0:List AV} (hs:Sees C (B8 C.G H) σ G') (ha:J0 args0=true) (hw:∀ (ρ:Env) vs,VRs ρ (vVs C.G args) vs→VRs ρ (sbs σ 0 args0) vs)
  (h:∀ B,ACalls ⟨C.P,G',B⟩ f args0 [] fun v' _=>v'=vV C.G v) (hv:B0 0 (vV C.G v)=true∧M1 (vV C.G v)=true):E1 C f args H v []:=by
 unfold E1;refine ((Pl hs h ha rfl (fun v' e=>by subst e;exact hv)).weaken hw).monoK ?_;rintro v' H' ⟨rfl,rfl⟩;exact ⟨rfl,by simp [acts]⟩
end
section
variable {C:A1}
mutual
theorem aH4 {σ:Sig} {n:Nat}:∀ v,E8 v=true→M1 v=true→sb σ n v=v
 | .ptr (.ro k) o,_,h=>by simp [M1] at h
 | .ptr (.rw i) o,h,_=>by simp [E8] at h
 | .slice mb (.ro k) o len,_,h=>by simp [M1] at h
 | .slice mb (.rw i) o len,h,_=>by simp [E8] at h
 | .func f cap,h,h'=>by simp only [E8,M1] at h h';simp only [sb,Fp cap h h']
 | .agg cs,h,h'=>by simp only [E8,M1] at h h';simp only [sb,Fp cs h h']
 | .tup cs,h,h'=>by simp only [E8,M1] at h h';simp only [sb,Fp cs h h']
 | .yld i,h,_=>by simp [E8] at h
 | .undef,_,_=>by simp only [sb]
 | .bool b,_,_=>by simp only [sb]
 | .int k n,_,_=>by simp only [sb]
 | .str s,_,_=>by simp only [sb]
 | .nilp,_,_=>by simp only [sb]
 | .nils,_,_=>by simp only [sb]
 | .nilf,_,_=>by simp only [sb]
 | .rcd ..,_,_=>by simp only [sb]
theorem Fp {σ:Sig} {n:Nat}:∀ l,J0 l=true→N1 l=true→sbs σ n l=l
 | [],_,_=>by simp only [sbs]
 | v::l,h,h'=>by
  simp only [J0,N1,zO] at h h';simp only [sbs,aH4 v h.1 h'.1,Fp l h.2 h'.2]
end
theorem E1.rnN {f:FuncId} {args:List EV} {H:DHp} {v:EV} {v0:AV} {b:DBlk} {σ:Sig} {G':Nat→List AV} {args0:List AV} (hs:Sees C (B8 C.G H) σ G') (ha:J0 args0=true) (hw:∀ (ρ:Env) vs,VRs ρ (vVs C.G args) vs→VRs ρ (sbs σ 0 args0) vs)
  (h:∀ B,ACalls ⟨C.P,G',B⟩ f args0 [] fun v' H'=>v'=v0∧H'=[some (C6 C.G b)]) (hn:M1 v0=true) (hb:A6 0 (vL C.G b.cells)=true∧N1 (vL C.G b.cells)=true) (hv:vV C.G v=sh H.length v0):E1 C f args H v [.new b]:=by
 unfold E1;refine ((yP hs h ha rfl (fun v' H' e=>?_)).weaken hw).monoK ?_
 ·obtain ⟨rfl,rfl⟩:=e;refine ⟨hn,fun i b' hi=>?_⟩
  match i,hi with
  | 0,hi=>simp at hi;subst hi;exact hb.2
 ·rintro v' H' ⟨v1,H1,⟨rfl,rfl⟩,rfl,rfl⟩;refine ⟨by rw [hv,E2],?_⟩;simp only [acts,List.map_cons,List.map_nil,I6,Hop.act,List.foldl]
  have e:Pi (List.length (B8 C.G H)) (some (C6 C.G b))=some (C6 C.G b):=by
   have e1:=Fp (σ:=fun _=>(.rw 0,0)) (n:=(B8 C.G H).length) _ (Du _ hb.1) hb.2;rw [lN] at e1;simp only [Pi,C6];rw [show List.map (sh (B8 C.G H).length) (vL C.G b.cells)=vL C.G b.cells from e1]
  rw [e]
end
section
variable {C:A1}
def nilT (k:Nat):AV→AV→Prop
 | .tup xs,.tup ys=>Dq k xs ys
 | x,y=>Ri k x y
theorem iB {ρ:Env}:∀ {xs ys:List AV} {cv:List Value},Dq ρ.rw.length xs ys→VRs ρ ys cv→VRs (ρ.push none) xs cv
 | [],[],_,_,h=>h
 | [],_::_,_,h,_=>h.elim
 | _::_,[],_,h,_=>h.elim
 | x::xs,y::ys,cv,h,hv=>by
  simp only [VRs] at hv ⊢;obtain ⟨v,vs,e,h1,h2⟩:=hv;exact ⟨v,vs,e,Mk h.1 h1,iB h.2 h2⟩
theorem aM0 {ρ:Env} {x y:AV} {cv:Value} (h:nilT ρ.rw.length x y) (hv:VR ρ y cv):VR (ρ.push none) x cv:=by
 unfold nilT at h;split at h
 ·simp only [VR] at hv ⊢;obtain ⟨vs,e,hs⟩:=hv;exact ⟨vs,e,iB h hs⟩
 ·exact Mk h hv
theorem ACalls.nil {f:FuncId} {args:List AV} {H:Hp} {K K':AV→Hp→Prop} (e:Nat) (h:ACalls C f args H K) (hk:∀ v H',K v H'→K' v H'∨∃ v',K' v' (H'++[some ⟨e,[]⟩])∧Uc H'.length H' H'∧nilT H'.length v' v):ACalls C f args H K':=by
 refine ⟨h.1,fun ρ w cargs hH hv=>(h.2 ρ w cargs hH hv).mono ?_⟩;rintro ex w' ⟨v,cv,ρ',H',rfl,h2,h3,h4,h5,h6⟩;rcases hk v H' h2 with g | ⟨v',g1,g2,g3⟩
 ·exact ⟨v,cv,ρ',H',rfl,g,h3,h4,h5,h6⟩
 ·refine ⟨v',cv,ρ'.push none,_,rfl,g1,?_,rQ e g2 h4,aM0 (by rw [h4.len];exact g3) h5,h6.trans rR⟩;have hl:=Env.le_push ρ' none;refine ⟨fun i x hx=>hl.1 i x (h3.1 i x hx),fun i b d h=>hl.2 i b d (h3.2 i b d h),fun D hD=>hl.3 D (h3.3 D hD)⟩
theorem Jm {k:Nat}:∀ (H:Hp),Uc k H H
 | []=>trivial
 | none::H=>Jm H
 | some b::H=>⟨⟨rfl,Q7 _⟩,Jm H⟩
theorem ACalls.conv {f:FuncId} {args:List AV} {H:Hp} {K K':AV→Hp→Prop} (h:ACalls C f args H K) (hk:∀ v H',K v H'→∃ v',K' v' H'∧∀ (ρ:Env) cv,VR ρ v cv→VR ρ v' cv):ACalls C f args H K':=by
 refine ⟨h.1,fun ρ w cargs hH hv=>(h.2 ρ w cargs hH hv).mono ?_⟩;rintro ex w' ⟨v,cv,ρ',H',rfl,h2,h3,h4,h5,h6⟩;obtain ⟨v',g1,g2⟩:=hk v H' h2;exact ⟨v',cv,ρ',H',rfl,g1,h3,h4,g2 _ _ h5,h6⟩
end
section
variable {C:A1}
theorem W8 {m:Nat} {c:Code} {N:Nat} {live:List Nat} {Q:Ex→List AV→Hp→Prop} (n:Nat) (st:Nat→List AV) (hp:Nat→Hp)
  (h:∀ i,i≤n→AWp C m c (fl N live (st i)) (hp i) (lv N live fun e vs H=>match e with
   | .normal=>i<n∧((vs=st (i+1)∧H=hp (i+1))∨C5 m (st (i+1)) (hp (i+1)) vs H)
   | e=>Q e vs H)):AWp C m (.loop c) (fl N live (st 0)) (hp 0) (lv N live Q):=by
 refine X5 (fun j vs H=>∃ i:Nat,i≤n∧j=n - i∧vs=st i∧H=hp i) n ⟨0,by omega,rfl,rfl,rfl⟩ ?_;rintro j vs H ⟨i,hi,rfl,rfl,rfl⟩;refine (h i hi).lmono ?_;intro e vs' H' hq
 match e,hq with
 | .normal,⟨hin,hq⟩=>
  refine ⟨n - (i+1),by omega,?_⟩;rcases hq with ⟨rfl,rfl⟩ | hq
  ·exact .inl ⟨i+1,by omega,rfl,rfl,rfl⟩
  ·exact .inr ⟨_,_,⟨i+1,by omega,rfl,rfl,rfl⟩,hq⟩
 | .ret,hq=>exact hq
 | .exit i,hq=>exact hq
mutual
def M2:AV→AV→Bool
 | .undef,.undef=>true
 | .bool a,.bool b=>a==b
 | .int k n,.int k' m=>k==k'&&n==m
 | .str s,.str t=>s==t
 | .nilp,.nilp=>true
 | .ptr r o,.ptr r' o'=>decide (r=r')&&Nat.beq o o'
 | .nils,.nils=>true
 | .slice b r o n,.slice b' r' o' n'=>b==b'&&(decide (r=r')&&(Nat.beq o o'&&Nat.beq n n'))
 | .nilf,.nilf=>true
 | .func f c,.func f' c'=>Nat.beq f f'&&Ai c c'
 | .agg c,.agg c'=>Ai c c'
 | .tup c,.tup c'=>Ai c c'
 | .yld i,.yld j=>Nat.beq i j
 | _,_=>false
termination_by structural x=>x
def Ai:List AV→List AV→Bool
 | [],[]=>true
 | x::l,y::k=>M2 x y&&Ai l k
 | _,_=>false
termination_by structural x=>x
end
mutual
def Ws:AV→Bool
 | .rcd ..=>false
 | .func _ c=>Ei c
 | .agg c=>Ei c
 | .tup c=>Ei c
 | _=>true
def Ei:List AV→Bool
 | []=>true
 | x::l=>Ws x&&Ei l
end
mutual
theorem aH7:∀ x y,M2 x y=true→x=y
 | .undef,y,h=>by cases y<;>simp [M2] at h ⊢
 | .bool a,y,h=>by cases y<;>simp [M2] at h ⊢;exact h
 | .int k n,y,h=>by cases y<;>simp [M2] at h ⊢;exact h
 | .str s,y,h=>by cases y<;>simp [M2] at h ⊢;exact h
 | .nilp,y,h=>by cases y<;>simp [M2] at h ⊢
 | .ptr r o,y,h=>by cases y<;>simp [M2] at h ⊢;exact h
 | .nils,y,h=>by cases y<;>simp [M2] at h ⊢
 | .slice b r o n,y,h=>by cases y<;>simp [M2] at h ⊢;exact h
 | .nilf,y,h=>by cases y<;>simp [M2] at h ⊢
 | .func f c,y,h=>by cases y<;>simp [M2] at h ⊢;exact ⟨h.1,Fq c _ h.2⟩
 | .agg c,y,h=>by cases y<;>simp [M2] at h ⊢;exact Fq c _ h
 | .tup c,y,h=>by cases y<;>simp [M2] at h ⊢;exact Fq c _ h
 | .yld i,y,h=>by cases y<;>simp [M2] at h ⊢;exact h
 | .rcd ..,y,h=>by cases y<;>simp [M2] at h
theorem Fq:∀ l k,Ai l k=true→l=k
 | [],k,h=>by cases k<;>simp [Ai] at h ⊢
 | x::l,k,h=>by
  cases k with
  | nil=>simp [Ai] at h
  | cons y k=>
   simp [Ai] at h ⊢;exact ⟨aH7 x y h.1,Fq l k h.2⟩
end
mutual
theorem tU:∀ x,Ws x=true→M2 x x=true
 | .undef,h=>by simp [M2]
 | .bool a,h=>by simp [M2]
 | .int k n,h=>by simp [M2]
 | .str s,h=>by simp [M2]
 | .nilp,h=>by simp [M2]
 | .ptr r o,h=>by simp [M2]
 | .nils,h=>by simp [M2]
 | .slice b r o n,h=>by simp [M2]
 | .nilf,h=>by simp [M2]
 | .func f c,h=>by simp [M2];exact Bu c (by simpa [Ws] using h)
 | .agg c,h=>by simp [M2];exact Bu c (by simpa [Ws] using h)
 | .tup c,h=>by simp [M2];exact Bu c (by simpa [Ws] using h)
 | .yld i,h=>by simp [M2]
 | .rcd ..,h=>by simp [Ws] at h
theorem Bu:∀ l,Ei l=true→Ai l l=true
 | [],h=>by simp [Ai]
 | x::l,h=>by
  simp only [Ei,zO] at h;simp [Ai,tU x h.1,Bu l h.2]
end
def O9 (H:Hp):List AV:=H.map fun b=>match b with
 | some b=>.tup [.int .i64 (b.esz:Int),.agg b.cells]
 | none=>.undef
def Xk (H:DHp):List EV:=H.map fun b=>match b with
 | some b=>.tup [.int .i64 (.lit (b.esz:Int)),.agg b.cells]
 | none=>.undef
theorem Ll {G:Nat→List AV}:∀ H:DHp,vVs G (Xk H)=O9 (B8 G H)
 | []=>rfl
 | none::H=>by
  have:=Ll (G:=G) H
  simp only [Xk,O9,B8,List.map_cons,vVs,vV,Option.map_none] at this ⊢;rw [this]
 | some b::H=>by
  have:=Ll (G:=G) H
  simp only [Xk,O9,B8,List.map_cons,vVs,vV,vI,Option.map_some,C6] at this ⊢;rw [this]
theorem Zq:∀ H H':Hp,O9 H=O9 H'→H=H'
 | [],[],_=>rfl
 | [],_::_,h=>by simp [O9] at h
 | _::_,[],h=>by simp [O9] at h
 | b::H,b'::H',h=>by
  simp only [O9,List.map_cons,List.cons.injEq] at h;have h2:=Zq H H' h.2;subst h2;have h1:=h.1
  match b,b',h1 with
  | none,none,_=>rfl
  | none,some b',h1=>simp at h1
  | some b,none,h1=>simp at h1
  | some ⟨e,c⟩,some ⟨e',c'⟩,h1=>
   simp at h1;obtain ⟨h3,h4⟩:=h1
   have:e=e':=by omega
   subst this;subst h4;rfl
def lI (vs0:List AV) (H0:Hp):List AV→Bool:=fun xs=>match xs with
 | [.agg vs,.agg hs]=>Ai vs vs0&&Ai hs (O9 H0)
 | _=>false
theorem aX3 {vs0 vs:List AV} {H0 H:Hp} (h:lI vs0 H0 [.agg vs,.agg (O9 H)]=true):vs=vs0∧H=H0:=by
 simp only [lI,zO] at h;exact ⟨Fq _ _ h.1,Zq _ _ (Fq _ _ h.2)⟩
theorem xT {vs0:List AV} {H0:Hp} (h:Ei vs0=true) (h':Ei (O9 H0)=true):lI vs0 H0 [.agg vs0,.agg (O9 H0)]=true:=by
 simp only [lI,zO];exact ⟨Bu _ h,Bu _ h'⟩
def Sl (c:Bool) (vs0:List AV) (H0:Hp):List AV→Bool:=fun xs=>c&&lI vs0 H0 xs
theorem Cr {c:Bool} {vs0:List AV} {H0:Hp} (hc:c=true) (h:Ei vs0=true) (h':Ei (O9 H0)=true):Sl c vs0 H0 [.agg vs0,.agg (O9 H0)]=true:=by
 simp only [Sl,zO];exact ⟨hc,xT h h'⟩
def LOut.post (G:Nat→List AV) (m:Nat):LOut→Ex→List AV→Hp→Prop
 | .one e vs H=>fun e' vs' H'=>e'=e∧((wk (vVs G vs) vs'∧H'=B8 G H)∨C5 m (vVs G vs) (B8 G H) vs' H')
 | .tst b x y=>fun e' vs' H'=>(vB G b=true∧x.post G m e' vs' H')∨(vB G b=false∧y.post G m e' vs' H')
 | .chk _ x=>x.post G m
 | _=>fun _ _ _=>False
theorem Gp {G:Nat→List AV} {m:Nat} {Q:Ex→List AV→Hp→Prop} {e:Ex} {vs:List AV} {H:Hp}:∀ (o:LOut) (n:Nat),J2 G (fun e vs' H'=>Q e (vVs G vs') (B8 G H')) n o→o.post G m e vs H→Lp m Q e vs H
 | .one e' vs' H',n,h,hp=>by
  simp only [J2] at h;obtain ⟨rfl,hp⟩:=hp;rcases hp with ⟨h1,rfl⟩ | hp
  ·exact .inl ⟨_,h1,h⟩
  ·exact .inr ⟨_,_,hp,h⟩
 | .tst b x y,n,h,hp=>by
  simp only [J2] at h;rcases hp with ⟨hb,hp⟩ | ⟨hb,hp⟩
  ·exact Gp x n (h.1 hb) hp
  ·exact Gp y n (h.2 hb) hp
 | .chk b x,n,h,hp=>by
  simp only [J2] at h;exact Gp x n h.2 hp
 | .imp ..,n,h,hp=>hp.elim
 | .allI ..,n,h,hp=>hp.elim
 | .allN ..,n,h,hp=>hp.elim
 | .allB ..,n,h,hp=>hp.elim
 | .allL ..,n,h,hp=>hp.elim
 | .namI ..,n,h,hp=>hp.elim
 | .namN ..,n,h,hp=>hp.elim
 | .namB ..,n,h,hp=>hp.elim
 | .namL ..,n,h,hp=>hp.elim
def D4 (j:Nat) (q:List AV→Bool) (ex N:Nat) (live:List Nat) (o:LOut):DL:=
 ⟨ex,N,live,fun vs H=>some (.chk (.uf j q [.agg (.of vs),.agg (.of (Xk H))]) o)⟩
theorem Gf {M:Nat} {c:Code} {j:Nat} {ex N:Nat} {live:List Nat} {o:LOut} {vs0:List AV} {H0:Hp} {q:List AV→Bool} {cb:Bool} (hq:q=Sl cb vs0 H0)
  (h:cb=true→AWp C M (.loop c) (fl N live vs0) H0 (lv N live (o.post C.G M))):F5 C M c (D4 j q ex N live o):=by
 refine .of fun vs H o' ho n Q hQ=>?_;simp only [D4,zN] at ho;subst ho;obtain ⟨h1,h2⟩:=hQ;simp only [vB,vVs,vV,vL,Ll] at h1;rw [hq] at h1;simp only [Sl,zO] at h1;obtain ⟨e1,e2⟩:=aX3 h1.2;rw [e1,e2];exact (h h1.1).lmono fun e vs H hp=>Gp o n h2 hp
theorem S6.miss {M:Nat} {c:Code} {cs:List Code} {l:List DL} {i:Nat} (he:Oq c=some i) (hp:bX i l=none) (k:S6 C M cs (Di l)):S6 C M (c::cs) (Di l):=by
 intro m c' F H o hm hc ho n Q hQ;rcases List.mem_cons.1 hc with rfl | hc
 ·obtain ⟨d',h1,_⟩:=Ou he l ho;rw [hp] at h1;cases h1
 ·exact k m c' F H o hm hc ho n Q hQ
end
open Go.RowKit
structure Hl (ops ops':Array Oper) (σ τ:Nat→Nat) (p q:Nat):Prop where
 inv:∀ k,σ (τ k)=k∧τ (σ k)=k
 op:∀ (k:Nat) o,ops[k]?=some o→o.guard=none∧∃ es,ops'[σ k]?=some { o with after:=es }∧
  (∀ e'∈es,Region.binds .any e'=true→(∃ e∈o.after,Region.binds .any e=true∧e'.on=σ e.on)∨(k=q∧e'.on=σ p))∧
  (∀ e∈o.after,Region.binds .any e=true→∃ e'∈es,Region.binds .any e'=true∧e'.on=σ e.on)
 op':∀ (k:Nat) o',ops'[k]?=some o'→∃ o,ops[τ k]?=some o
section
variable {F:Fence} {n:Nat} {P:Program} {ops ops':Array Oper} {σ τ:Nat→Nat} {p q:Nat} {Q:Exit→Act→World→Prop}
def cL (σ:Nat→Nat) (listed listed':Array Bool):Prop:=∀ k,(∀ d,listed'.getD (σ k) d=listed.getD k d)
theorem cL.set {σ τ:Nat→Nat} (hi:∀ k,σ (τ k)=k∧τ (σ k)=k) {listed listed':Array Bool} (h:cL σ listed listed') (i:Nat):cL σ (listed.setIfInBounds i true) (listed'.setIfInBounds (σ i) true):=by
 intro k d;by_cases hk:i=k
 ·subst hk;have h1:=h i;by_cases hb:i<listed.size
  ·have h2:σ i<listed'.size:=by
    by_cases h2:σ i<listed'.size
    ·exact h2
    ·have a:=h1 true;have b:=h1 false;simp only [Array.getD,h2,hb,dite_true,dite_false] at a b;rw [←a] at b;simp at b
   simp [Array.getD,hb,h2]
  ·have h2:¬σ i<listed'.size:=by
    intro h2;have a:=h1 true;have b:=h1 false;simp only [Array.getD,h2,hb,dite_true,dite_false] at a b;rw [a] at b;simp at b
   simp [Array.getD,hb,h2]
 ·have hne:σ i≠σ k:=fun e=>hk (by rw [←(hi i).2,e,(hi k).2]);rw [getD_set_ne d hk,getD_set_ne d hne];exact h k d
theorem Hl.ready (V:Hl ops ops' σ τ p q) {listed listed':Array Bool} (h:cL σ listed listed') {k:Nat} (hk:k∈Region.ready .any ops listed) (hp:k=q→listed.getD p false=true):σ k∈Region.ready .any ops' listed':=by
 rw [mem_ready] at hk ⊢;obtain ⟨h1,o,ho,h2⟩:=hk;obtain ⟨_,es,g1,g2,_⟩:=V.op k o ho;refine ⟨by rw [h k];exact h1,_,g1,fun e' he' hb=>?_⟩;rcases g2 e' he' hb with ⟨e,x1,x2,x3⟩ | ⟨x1,x2⟩
 ·rw [x3,h];exact h2 e x1 x2
 ·rw [x2,h];exact hp x1
theorem Hl.back (V:Hl ops ops' σ τ p q) {listed listed':Array Bool} (h:cL σ listed listed') {k:Nat} (hk:k∈Region.ready .any ops' listed'):τ k∈Region.ready .any ops listed:=by
 rw [mem_ready] at hk ⊢;obtain ⟨h1,o',ho',h2⟩:=hk;obtain ⟨o,ho⟩:=V.op' k o' ho';obtain ⟨_,es,g1,_,g3⟩:=V.op (τ k) o ho;rw [(V.inv k).1,ho'] at g1;simp only [zN] at g1;have hk':∀ d,listed'.getD k d=listed.getD (τ k) d:=fun d=>by have:=h (τ k) d;rw [(V.inv k).1] at this;exact this
 refine ⟨by rw [←hk'];exact h1,o,ho,fun e he hb=>?_⟩;obtain ⟨e',x1,x2,x3⟩:=g3 e he hb
 have:=h2 e' (by rw [g1];exact x1) x2
 rw [x3,h] at this;exact this
theorem Hl.step (V:Hl ops ops' σ τ p q) {k:Nat} {K:Act→World→Prop} {a:Act} {w:World} (hk:k<ops.size) (h:wpOpIn F n P ops' Q (σ k) K a w):wpOpIn F n P ops Q k K a w:=by
 obtain ⟨o,ho⟩:∃ o,ops[k]?=some o:=⟨_,Array.getElem?_eq_getElem hk⟩;obtain ⟨gn,es,g1,_⟩:=V.op k o ho;unfold wpOpIn at h ⊢;simp only [ho,g1] at h ⊢;have w1:∀ y,Region.wanted o y=true:=fun y=>by unfold Region.wanted;rw [gn]
 have w2:∀ y,Region.wanted { o with after:=es } y=true:=fun y=>by unfold Region.wanted;simp only [gn]
 rw [w2,if_pos rfl] at h;rw [w1,if_pos rfl];exact h
theorem lZ {listed:Array Bool} {k:Nat} (h:k∈Region.ready .any ops listed):k<ops.size:=by
 rw [mem_ready] at h;obtain ⟨_,o,ho,_⟩:=h;exact (Array.getElem?_eq_some_iff.1 ho).1
theorem Hl.nil (V:Hl ops ops' σ τ p q) {listed listed':Array Bool} (h:cL σ listed listed') (hn:Region.ready .any ops listed=[]):Region.ready .any ops' listed'=[]:=by
 refine List.eq_nil_iff_forall_not_mem.2 fun k hk=>?_
 have:=V.back h hk
 rw [hn] at this;simp at this
theorem Hl.one (V:Hl ops ops' σ τ p q):∀ (fuel:Nat) (listed listed':Array Bool) (a:Act) (w:World),cL σ listed listed'→listed.getD p false=true→wpAnyIn F n P .any ops' Q fuel listed' a w→wpAnyIn F n P .any ops Q fuel listed a w
 | 0,listed,listed',a,w,h,hp,hw=>by
  unfold wpAnyIn at hw ⊢;refine ⟨List.eq_nil_iff_forall_not_mem.2 fun k hk=>?_,hw.2⟩
  have:=V.ready h hk fun _=>hp
  rw [hw.1] at this;simp at this
 | fuel+1,listed,listed',a,w,h,hp,hw=>by
  unfold wpAnyIn at hw ⊢;refine ⟨fun hn=>hw.1 (V.nil h hn),fun k hk=>?_⟩;refine V.step (lZ hk) (wpOpIn_mono (fun a w hr=>V.one fuel _ _ a w (h.set V.inv k) (getD_set_true hp) hr) (hw.2 (σ k) (V.ready h hk fun _=>hp)))
end
def cM (ops:Array Oper):Nat→Array Bool→List Nat→Prop
 | 0,_,l=>l=[]
 | _+1,listed,[]=>Region.ready .any ops listed=[]
 | fuel+1,listed,k::l=>k∈Region.ready .any ops listed∧cM ops fuel (listed.setIfInBounds k true) l
theorem aA3 (ops:Array Oper):∀ (fuel t:Nat) (listed:Array Bool),cM ops fuel listed (Region.linearise.go .any ops fuel t listed [])
 | 0,t,listed=>by simp [Region.linearise.go,cM]
 | fuel+1,t,listed=>by
  simp only [Region.linearise.go]
  change cM ops (fuel+1) listed (match (Region.ready .any ops listed)[t % (Region.ready .any ops listed).length]? with
   | some i=>Region.linearise.go .any ops fuel (t / (Region.ready .any ops listed).length) (listed.setIfInBounds i true) [i]
   | none=>[].reverse)
  cases hi:(Region.ready .any ops listed)[t % (Region.ready .any ops listed).length]? with
  | none=>
   have hnil:Region.ready .any ops listed=[]:=by
    cases hr:Region.ready .any ops listed with
    | nil=>rfl
    | cons x xs=>
     rw [hr] at hi;have hlt:t % (x::xs).length<(x::xs).length:=Nat.mod_lt _ (by simp);simp at hi;simp at hlt;omega
   simpa [cM] using hnil
  | some i=>
   simp only [];rw [linearise_go_acc,List.reverse_singleton,List.singleton_append];exact ⟨zA1 hi,aA3 ops fuel _ _⟩
section
variable {F:Fence} {n:Nat} {P:Program} {ops ops':Array Oper} {σ τ:Nat→Nat} {p q:Nat} {Q:Exit→Act→World→Prop}
theorem tA:∀ (fuel:Nat) (listed:Array Bool) (l:List Nat) (a:Act) (w:World),cM ops fuel listed l→wpAnyIn F n P .any ops Q fuel listed a w→wpOpsIn F n P ops Q l a w
 | 0,listed,l,a,w,h,hw=>by
  simp only [cM] at h;subst h;exact hw.2
 | fuel+1,listed,[],a,w,h,hw=>hw.1 h
 | fuel+1,listed,k::l,a,w,h,hw=>by
  rw [wpOpsIn_cons];exact wpOpIn_mono (fun a w hr=>tA fuel _ l a w h.2 hr) (hw.2 k h.1)
def Fst (p q:Nat):List Nat→Prop
 | []=>True
 | k::l=>k=p∨(k≠q∧Fst p q l)
theorem aA4 (p q:Nat):∀ l,Fst p q l∨Fst q p l
 | []=>.inl trivial
 | k::l=>by
  by_cases h1:k=p
  ·exact .inl (.inl h1)
  ·by_cases h2:k=q
   ·exact .inr (.inl h2)
   ·rcases aA4 p q l with h | h
    ·exact .inl (.inr ⟨h2,h⟩)
    ·exact .inr (.inr ⟨h1,h⟩)
theorem Hl.all (V:Hl ops ops' σ τ p q) (hpq:p≠q):∀ (fuel:Nat) (listed listed':Array Bool) (l:List Nat) (a:Act) (w:World),cL σ listed listed'→p<listed.size→Fst p q l→cM ops fuel listed l→wpAnyIn F n P .any ops' Q fuel listed' a w→wpOpsIn F n P ops Q l a w
 | 0,listed,listed',l,a,w,h,hp,hf,ha,hw=>by
  simp only [cM] at ha;subst ha;exact hw.2
 | fuel+1,listed,listed',[],a,w,h,hp,hf,ha,hw=>hw.1 (V.nil h ha)
 | fuel+1,listed,listed',k::l,a,w,h,hp,hf,ha,hw=>by
  rw [wpOpsIn_cons]
  have hkq:k≠q:=by
   rcases hf with rfl | hf
   ·exact hpq
   ·exact hf.1
  refine V.step (lZ ha.1) (wpOpIn_mono (fun a w hr=>?_) (hw.2 (σ k) (V.ready h ha.1 fun e=>absurd e hkq)));rcases hf with rfl | hf
  ·exact tA fuel _ l a w ha.2 (V.one fuel _ _ a w (h.set V.inv k) (by simp [Array.getD,hp]) hr)
  ·exact V.all hpq fuel _ _ l a w (h.set V.inv k) (by simpa using hp) hf.2 ha.2 hr
end
theorem two {F:Fence} {n:Nat} {P:Program} {ops ops1 ops2:Array Oper} {σ1 σ2 τ1 τ2:Nat→Nat} {i j:Nat} {id:Nat} {Q:Exit→Act→World→Prop} (hij:i≠j) (hi:i<ops.size) (hj:j<ops.size) (V1:Hl ops ops1 σ1 τ1 i j) (V2:Hl ops ops2 σ2 τ2 j i)
  (s1:ops1.size=ops.size) (s2:ops2.size=ops.size) (b1:∀ k,σ1 k<ops.size↔k<ops.size) (b2:∀ k,σ2 k<ops.size↔k<ops.size) (hm:P.follows .mixedOrders=true) {a:Act} {w:World}
  (w1:wpAnyIn F n P .any ops1 Q ops1.size (Array.replicate ops1.size false) a { w with drawn:=w.drawn+1 }) (w2:wpAnyIn F n P .any ops2 Q ops2.size (Array.replicate ops2.size false) a { w with drawn:=w.drawn+1 }):(Code.region id ops true).wpIn F n P Q a w:=
 wpIn_region_draw fun t=>by
  simp only [Region.schedule,hm,Bool.true_or,if_true];show wpOpsIn F n P ops Q (Region.linearise.go .any ops ops.size t (Array.replicate ops.size false) []) a _;have ha:=aA3 ops ops.size t (Array.replicate ops.size false)
  have agr:∀ {σ:Nat→Nat},(∀ k,σ k<ops.size↔k<ops.size)→cL σ (Array.replicate ops.size false) (Array.replicate ops.size false):=fun hb k d=>by
   by_cases hk:k<ops.size
   ·simp [Array.getD,hk,(hb k).2 hk]
   ·simp [Array.getD,hk,mt (hb k).1 hk]
  rw [s1] at w1;rw [s2] at w2;rcases aA4 i j (Region.linearise.go .any ops ops.size t (Array.replicate ops.size false) []) with h | h
  ·exact V1.all hij _ _ _ _ _ _ (agr b1) (by simpa using hi) h ha w1
  ·exact V2.all (Ne.symm hij) _ _ _ _ _ _ (agr b2) (by simpa using hj) h ha w2
section
variable {K:Cfg} {lps:List Code}
theorem sO (hK:Ee K lps) {all:List Oper} {trs:List Tr} {F F':Fr} {H H':Hp} (ht:DT K all all F H trs F' H') (hd:X4 all trs=true) {ρ:Env} {a:Act} {w:World} (hH:B2 K.C ρ H w) (hF:D0 ρ F a)
  {r:Option Nat} {Q:Exit→Act→World→Prop} (hQ:∀ ρ' a' w',B2 K.C ρ' H' w'→D0 ρ' F' a'→ρ.le ρ'→Frm ρ w ρ' w'→Q .normal a' w'):wpAnyIn (W r) 0 K.C.P .any all.toArray Q all.toArray.size (Array.replicate all.toArray.size false) a { w with drawn:=w.drawn+1 }:=by
 obtain ⟨vs,h1,h2,h3,h4,h5⟩:=ht.spell;have hw:({ w with drawn:=w.drawn+1 }:World)=w.drew:=rfl;rw [hw];have hsz:all.toArray.size=all.length:=by simp
 rw [hsz];refine Zr (F0:=F) (H0:=H) (ρ0:=ρ) (w0:=w) hK hd h1 h2 h5 (fun a' w' hs=>?_) all.length _ a w.drew (by simp) ?_ ⟨fun j o _ hj=>?_,ρ,?_,?_,Env.le_refl ρ,(Frm.refl ρ w).drew⟩
 ·obtain ⟨ρ',g1,g2,g3,g4⟩:=hs.rel;rw [h4] at g1;rw [h3] at g2;exact hQ ρ' a' w' g1 g2 g3 g4
 ·rw [List.countP_eq_length.2]
  ·simp
  ·intro i hi
   have:=List.mem_range.1 hi
   simp [Array.getD]
 ·simp [Array.getD] at hj
 ·rw [Dk]
  ·exact hH.drew
  ·intro k _;simp [Array.getD]
 ·have none:∀ (l:List Oper) (vs:List AV) (i:Nat) (F:Fr),FSel (fun i=>(Array.replicate all.length false).getD i false) i l vs F=F:=by
   intro l
   induction l with
   | nil=>intro vs i F;simp [FSel]
   | cons o l ih=>
    intro vs i F;cases vs with
    | nil=>simp [FSel]
    | cons x vs=>
     simp only [FSel]
     have:(Array.replicate all.length false).getD i false=false:=by simp [Array.getD]
     rw [this];exact ih vs _ F
  rw [none];exact hF
end
noncomputable def ddr (K:DCfg) (fuel n0 m:Nat) (all:List Oper) (N:Nat) (live:List Nat) (vs:List EV) (H:DHp):T:=
 dx K fuel m (.dr all all []) (Vc N live vs) H (f0 n0) (Zn N live)
theorem sP {C:A1} {K:DCfg} {fuel n0 m:Nat} {all:List Oper} {N:Nat} {live:List Nat} {vs:List EV} {H:DHp} {Q:Ex→List AV→Hp→Prop} (hK:DGood C K [])
  (h:vT C.G Q (fun _ _=>False) (ddr K fuel n0 m all N live vs H)):∃ trs F' H',DT (K0 C) all all (fl N live (vVs C.G vs)) (B8 C.G H) trs F' H'∧X4 all trs=true∧lv N live Q .normal F' H':=by
 have:=Il hK fuel m (.dr all all []) (Vc N live vs) H (f0 n0) _ (lv N live Q) Q (fun _ _=>False) (fun e F1 H1 fs1 ht=>by
  unfold Zn at ht;split at ht
  ·rename_i hb;simp only [vT,Pa] at ht;simp only [lv,O7,hb];exact ht
  ·exact ht.elim) trivial h
 rw [Ta] at this;obtain ⟨trs,F',H',h1,h2,h3⟩:=this;exact ⟨trs,F',H',h1,by simpa using h2,h3⟩
theorem bC7 {C:A1} {K:DCfg} {fuel n0 m:Nat} {ops:Array Oper} {all1 all2:List Oper} {σ1 σ2 τ1 τ2:Nat→Nat} {i j id:Nat} {N:Nat} {live:List Nat} {vs:List EV} {H:DHp} {Q:Ex→List AV→Hp→Prop} (hK:DGood C K []) (hm:m≤H.length)
  (hij:i≠j) (hi:i<ops.size) (hj:j<ops.size) (V1:Hl ops all1.toArray σ1 τ1 i j) (V2:Hl ops all2.toArray σ2 τ2 j i)
  (s1:all1.toArray.size=ops.size) (s2:all2.toArray.size=ops.size) (b1:∀ k,σ1 k<ops.size↔k<ops.size) (b2:∀ k,σ2 k<ops.size↔k<ops.size)
  (h1:vT C.G Q (fun _ _=>False) (ddr K fuel n0 m all1 N live vs H)) (h2:vT C.G Q (fun _ _=>False) (ddr K fuel n0 m all2 N live vs H)):AWp C m (.region id ops true) (fl N live (vVs C.G vs)) (B8 C.G H) (lv N live Q):=by
 obtain ⟨t1,F1,H1,x1,x2,x3⟩:=sP hK h1;obtain ⟨t2,F2,H2,y1,y2,y3⟩:=sP hK h2;have hm':m≤(B8 C.G H).length:=by simpa [E2] using hm
 intro r hr ρ a w hH hF;refine two hij hi hj V1 V2 s1 s2 b1 b2 hK.mix ?_ ?_
 ·exact sO (Fz hK.mix []) x1 x2 hH hF fun ρ' a' w' q1 q2 q3 q4=>⟨.normal,ρ',F1,H1,rfl,x3,K3.of_le hH q3 hm',q1,q2,q4⟩
 ·exact sO (Fz hK.mix []) y1 y2 hH hF fun ρ' a' w' q1 q2 q3 q4=>⟨.normal,ρ',F2,H2,rfl,y3,K3.of_le hH q3 hm',q1,q2,q4⟩
theorem AWp.block {C:A1} {m id:Nat} {c:Code} {F:Fr} {H:Hp} {Q:Post} (h:AWp C m c F H (Z3 id Q)):AWp C m (.block id c) F H Q:=by
 intro r hr ρ a w hH hF;refine wpIn_block (Code.wpIn_mono ?_ (h r (Tz hr) ρ a w hH hF));rintro e a' w' ⟨ae,ρ',F',H',rfl,h2,h3⟩;cases ae with
 | normal=>exact ⟨.normal,ρ',F',H',rfl,h2,h3⟩
 | ret=>exact ⟨.ret,ρ',F',H',rfl,h2,h3⟩
 | exit i=>
  simp only [Z3] at h2;show (if i=id then AP C m ρ w Q .normal a' w' else AP C m ρ w Q (.exit i) a' w');split at h2
  ·rename_i hi;rw [if_pos (by simpa using hi)];exact ⟨.normal,ρ',F',H',rfl,h2,h3⟩
  ·rename_i hi;rw [if_neg (by simpa using hi)];exact ⟨.exit i,ρ',F',H',rfl,h2,h3⟩
def sw (i j k:Nat):Nat:=if k=i then j else if k=j then i else k
theorem tL (i j k:Nat):sw i j (sw i j k)=k:=by unfold sw;split<;>split<;>(try split)<;>omega
def Yy (ops:Array Oper) (i j:Nat):List Oper:=ops.toList.mapIdx fun k o=>{ o with after:=bif Nat.beq k j then o.after.push ⟨i,.data⟩ else o.after }
def reEdge (i j:Nat) (e:Edge):Edge:={ e with on:=sw i j e.on }
def ord2a (i j k:Nat) (o:Oper):Oper:={ o with after:=bif Nat.beq k j then (o.after.map (reEdge i j)).push ⟨i,.data⟩ else o.after.map (reEdge i j) }
def Yx (ops:Array Oper) (i j:Nat):List Oper:=ops.toList.mapIdx fun k o=>ord2a i j k ((ops[sw i j k]?).getD o)
def oV (ops:Array Oper):Bool:=ops.toList.all fun o=>o.guard.isNone
theorem sX {ops:Array Oper} (h:oV ops=true) {k:Nat} {o:Oper} (ho:ops[k]?=some o):o.guard=none:=by
 unfold oV at h;rw [qD] at h
 have:=h o (by rw [←Array.getElem?_toList] at ho;exact zA1 ho)
 simpa using this
theorem aL2 {ops:Array Oper} {i j:Nat} (h:oV ops=true):Hl ops (Yy ops i j).toArray (fun k=>k) (fun k=>k) i j:=by
 have get:∀ k,(Yy ops i j).toArray[k]?=(ops[k]?).map fun (o:Oper)=>{ o with after:=bif Nat.beq k j then o.after.push ⟨i,.data⟩ else o.after }:=fun k=>by
  unfold Yy;rw [List.getElem?_toArray,List.getElem?_mapIdx,Array.getElem?_toList]
 refine ⟨fun _=>⟨rfl,rfl⟩,fun k o ho=>⟨sX h ho,_,by rw [get,ho];rfl,fun e' he' hb=>?_,fun e he hb=>?_⟩,fun k o' ho'=>?_⟩
 ·cases hk:Nat.beq k j with
  | true=>
   rw [hk] at he';simp only [cond_true,Array.mem_push] at he';rcases he' with he' | rfl
   ·exact .inl ⟨e',he',hb,rfl⟩
   ·exact .inr ⟨rG hk,rfl⟩
  | false=>
   rw [hk] at he';exact .inl ⟨e',he',hb,rfl⟩
 ·cases hk:Nat.beq k j with
  | true=>exact ⟨e,by simp only [cond_true,Array.mem_push];exact .inl he,hb,rfl⟩
  | false=>exact ⟨e,he,hb,rfl⟩
 ·rw [get] at ho';cases ho:ops[k]? with
  | none=>rw [ho] at ho';simp at ho'
  | some o=>exact ⟨o,rfl⟩
theorem tM {i j n:Nat} (hi:i<n) (hj:j<n) (k:Nat):sw i j k<n↔k<n:=by unfold sw;split<;>(try split)<;>omega
theorem aL1 {ops:Array Oper} {i j:Nat} (h:oV ops=true) (hi:i<ops.size) (hj:j<ops.size):Hl ops (Yx ops i j).toArray (sw i j) (sw i j) j i:=by
 have get:∀ k,(Yx ops i j).toArray[k]?=(ops[k]?).map fun (o:Oper)=>ord2a i j k ((ops[sw i j k]?).getD o):=fun k=>by
  unfold Yx;rw [List.getElem?_toArray,List.getElem?_mapIdx,Array.getElem?_toList]
 have bd:∀ (e:Edge),Region.binds .any (reEdge i j e)=Region.binds .any e:=fun e=>rfl;refine ⟨fun k=>⟨tL i j k,tL i j k⟩,fun k o ho=>?_,fun k o' ho'=>?_⟩
 ·have hk:k<ops.size:=(Array.getElem?_eq_some_iff.1 ho).1;have hs:sw i j k<ops.size:=(tM hi hj k).2 hk;obtain ⟨o2,ho2⟩:∃ o2,ops[sw i j k]?=some o2:=⟨_,Array.getElem?_eq_getElem hs⟩;refine ⟨sX h ho,_,by rw [get,ho2,Option.map_some,tL,ho];rfl,fun e' he' hb=>?_,fun e he hb=>?_⟩
  ·cases hq:Nat.beq (sw i j k) j with
   | true=>
    rw [hq] at he';simp only [cond_true,Array.mem_push,Array.mem_map,Option.getD_some] at he';rcases he' with ⟨e,he,rfl⟩ | rfl
    ·exact .inl ⟨e,he,hb,rfl⟩
    ·refine .inr ⟨?_,?_⟩
     ·have:=rG hq
      unfold sw at this;split at this
      ·assumption
      ·split at this<;>omega
     ·show i=sw i j j;unfold sw;split<;>simp_all
   | false=>
    rw [hq] at he';simp only [cond_false,Array.mem_map,Option.getD_some] at he';obtain ⟨e,he,rfl⟩:=he';exact .inl ⟨e,he,hb,rfl⟩
  ·refine ⟨reEdge i j e,?_,hb,rfl⟩
   have:reEdge i j e∈o.after.map (reEdge i j):=Array.mem_map.2 ⟨e,he,rfl⟩
   cases hq:Nat.beq (sw i j k) j with
   | true=>simp only [cond_true,Array.mem_push,Option.getD_some];exact .inl this
   | false=>simp only [cond_false,Option.getD_some];exact this
 ·rw [get] at ho'
  have hk:k<ops.size:=by
   cases ho:ops[k]? with
   | none=>rw [ho] at ho';simp at ho'
   | some o=>exact (Array.getElem?_eq_some_iff.1 ho).1
  exact ⟨_,Array.getElem?_eq_getElem ((tM hi hj k).2 hk)⟩
theorem zJ {ops:Array Oper} {i j:Nat}:(Yy ops i j).toArray.size=ops.size:=by simp [Yy]
theorem zI {ops:Array Oper} {i j:Nat}:(Yx ops i j).toArray.size=ops.size:=by simp [Yx]
theorem dtwo {C:A1} {K:DCfg} {fuel n0 m:Nat} {ops:Array Oper} {i j id:Nat} {N:Nat} {live:List Nat} {vs:List EV} {H:DHp} {Q:Ex→List AV→Hp→Prop} (hK:DGood C K []) (hm:m≤H.length)
  (hij:Nat.blt i j=true) (hj:Nat.blt j ops.size=true) (hb:oV ops=true)
  (h1:vT C.G Q (fun _ _=>False) (H4 K (fuel+1) n0 m (.region id (Yy ops i j).toArray true) N live vs H)) (h2:vT C.G Q (fun _ _=>False) (H4 K (fuel+1) n0 m (.region id (Yx ops i j).toArray true) N live vs H)):AWp C m (.region id ops true) (fl N live (vVs C.G vs)) (B8 C.G H) (lv N live Q):=by
 have hij:i<j:=Nat.blt_eq ▸ hij;have hj:j<ops.size:=Nat.blt_eq ▸ hj;exact bC7 hK hm (by omega) (by omega) hj (aL2 hb) (aL1 hb (by omega) hj) zJ zI (fun _=>Iff.rfl) (fun k=>tM (by omega) hj k) h1 h2
def recW (C:A1):Rec:=fun m w F H Q=>match w with
 | .code c=>AWp C m c F H Q
 | _=>False
theorem AWp.seq {C:A1} {a b:Code} {F:Fr} {H:Hp} {Q:Post} {m:Nat} (hm:m≤H.length) (h:AWp C m a F H (Nc (recW C) m b Q)):AWp C m (.seq a b) F H Q:=by
 intro r hr ρ x w hH hF;refine wpIn_seq (Code.wpIn_mono (fun e a' w' h=>AP.seq hm hH (fun F' H' hrr ρ' a2 w2 hl g1 g2=>hrr r (Le hr).2 ρ' a2 w2 g1 g2) h) (h r (Le hr).1 ρ x w hH hF))
open Nat renaming beq → zL
mutual
def fz (m k:Nat):AV→AV
 | .ptr (.rw i) off=>bif zL i m then .ptr (.ro k) off else .ptr (.rw i) off
 | .slice mb (.rw i) off len=>bif zL i m then .slice mb (.ro k) off len else .slice mb (.rw i) off len
 | .func f cap=>.func f (fzs m k cap)
 | .agg cs=>.agg (fzs m k cs)
 | .tup vs=>.tup (fzs m k vs)
 | v=>v
def fzs (m k:Nat):List AV→List AV
 | []=>[]
 | v::vs=>fz m k v::fzs m k vs
end
def fzB (m k:Nat) (b:Option Blk):Option Blk:=match b with
 | some b=>some ⟨b.esz,fzs m k b.cells⟩
 | none=>none
def Ut (m k:Nat) (H:Hp):Hp:=(H.map (fzB m k)).set m none
theorem Bo (m k:Nat):∀ l,fzs m k l=l.map (fz m k)
 | []=>by simp [fzs]
 | v::l=>by simp [fzs,Bo m k l]
def Env.frz (ρ:Env) (k:Nat) (x:Option Q3):Env:=⟨ρ.rw,fun i b d=>ρ.ro i b d∨∃ e,x=some e∧i=k∧b=e.blk∧d=0,ρ.dfs⟩
theorem Env.le_frz (ρ:Env) (k:Nat) (x:Option Q3):ρ.le (ρ.frz k x):=⟨fun _ _ h=>h,fun _ _ _ h=>.inl h,fun _ h=>h⟩
theorem bE2 {ρ:Env} {m k:Nat} {x:Option Q3} (hx:ρ.rw[m]?=some x) {off:Nat} {v:Value} (h:S5 ρ (.rw m) off v):S5 (ρ.frz k x) (.ro k) off v:=by
 obtain ⟨e,h1,rfl⟩:=h;rw [hx] at h1;simp at h1;subst h1;exact ⟨e.blk,0,.inr ⟨e,rfl,rfl,rfl,rfl⟩,by rw [Nat.zero_add]⟩
theorem aD7 {ρ:Env} {m k:Nat} {x:Option Q3} (hx:ρ.rw[m]?=some x) {mb:Bool} {off len:Nat} {v:Value} (h:Aq ρ mb (.rw m) off len v):Aq (ρ.frz k x) mb (.ro k) off len v:=by
 obtain ⟨ca,cap,hv,hl,hc⟩:=h;refine ⟨ca,cap,hv,hl,?_⟩;rcases hc with hc | hc | ⟨e,h1,h2,_⟩
 ·exact .inl hc
 ·exact .inr (.inl hc)
 ·rw [hx] at h1;simp at h1;subst h1;exact .inr (.inr ⟨e.blk,0,.inr ⟨e,rfl,rfl,rfl,rfl⟩,by rw [Nat.zero_add];exact h2⟩)
mutual
theorem kM {ρ:Env} {m k:Nat} {x:Option Q3} (hx:ρ.rw[m]?=some x):∀ (v:AV) (cv:Value),VR ρ v cv→VR (ρ.frz k x) (fz m k v) cv
 | .undef,_,_=>by simp [fz,VR]
 | .bool _,_,h=>by simpa [fz,VR] using h
 | .int _ _,_,h=>by simpa [fz,VR] using h
 | .str _,_,h=>by simpa [fz,VR] using h
 | .nilp,_,h=>by simpa [fz,VR] using h
 | .nils,_,h=>by simpa [fz,VR] using h
 | .nilf,_,h=>by simpa [fz,VR] using h
 | .ptr (.rw i) off,cv,h=>by
  simp only [fz];cases hi:zL i m with
  | true=>
   have:=rG hi
   subst this;simp only [cond_true,VR] at h ⊢;exact bE2 hx h
  | false=>exact VR.mono (Env.le_frz ρ k x) _ _ h
 | .ptr (.ro i) off,cv,h=>by simp only [fz];exact VR.mono (Env.le_frz ρ k x) _ _ h
 | .slice mb (.rw i) off len,cv,h=>by
  simp only [fz];cases hi:zL i m with
  | true=>
   have:=rG hi
   subst this;simp only [cond_true,VR] at h ⊢;exact aD7 hx h
  | false=>exact VR.mono (Env.le_frz ρ k x) _ _ h
 | .slice mb (.ro i) off len,cv,h=>by simp only [fz];exact VR.mono (Env.le_frz ρ k x) _ _ h
 | .func f cap,cv,h=>by
  simp only [fz,VR] at h ⊢;obtain ⟨cs,e,hs⟩:=h;exact ⟨cs,e,cI hx cap _ hs⟩
 | .agg cap,cv,h=>by
  simp only [fz,VR] at h ⊢;obtain ⟨cs,e,hs⟩:=h;exact ⟨cs,e,cI hx cap _ hs⟩
 | .tup cap,cv,h=>by
  simp only [fz,VR] at h ⊢;obtain ⟨cs,e,hs⟩:=h;exact ⟨cs,e,cI hx cap _ hs⟩
 | .yld i,cv,h=>by simp only [fz];exact VR.mono (Env.le_frz ρ k x) _ _ h
 | .rcd ..,cv,h=>by simp only [VR] at h
theorem cI {ρ:Env} {m k:Nat} {x:Option Q3} (hx:ρ.rw[m]?=some x):∀ (l:List AV) (cl:List Value),VRs ρ l cl→VRs (ρ.frz k x) (fzs m k l) cl
 | [],_,h=>by simpa [fzs,VRs] using h
 | v::l,cl,h=>by
  simp only [fzs,VRs] at h ⊢;obtain ⟨y,ys,e,h1,h2⟩:=h;exact ⟨y,ys,e,kM hx v y h1,cI hx l ys h2⟩
end
mutual
/-- what names no block of the heap hangs on the read-only places alone -/
theorem tB {ρ ρ':Env} (h:∀ i b d,ρ.ro i b d→ρ'.ro i b d):∀ (v:AV) (cv:Value),E8 v=true→VR ρ v cv→VR ρ' v cv
 | .undef,_,_,_=>by simp [VR]
 | .bool _,_,_,hv=>by simpa [VR] using hv
 | .int _ _,_,_,hv=>by simpa [VR] using hv
 | .str _,_,_,hv=>by simpa [VR] using hv
 | .nilp,_,_,hv=>by simpa [VR] using hv
 | .nils,_,_,hv=>by simpa [VR] using hv
 | .nilf,_,_,hv=>by simpa [VR] using hv
 | .ptr (.rw i) off,_,hb,_=>by simp [E8] at hb
 | .ptr (.ro i) off,cv,_,hv=>by
  simp only [VR] at hv ⊢;obtain ⟨b,d,h1,h2⟩:=hv;exact ⟨b,d,h _ _ _ h1,h2⟩
 | .slice mb (.rw i) off len,_,hb,_=>by simp [E8] at hb
 | .slice mb (.ro i) off len,cv,_,hv=>by
  simp only [VR] at hv ⊢;obtain ⟨ca,cap,hv,hl,hc⟩:=hv;refine ⟨ca,cap,hv,hl,?_⟩;rcases hc with hc | hc | ⟨b,d,h1,h2⟩
  ·exact .inl hc
  ·exact .inr (.inl hc)
  ·exact .inr (.inr ⟨b,d,h _ _ _ h1,h2⟩)
 | .func f cap,cv,hb,hv=>by
  simp only [E8] at hb;simp only [VR] at hv ⊢;obtain ⟨cs,e,hs⟩:=hv;exact ⟨cs,e,Mx h cap _ hb hs⟩
 | .agg cap,cv,hb,hv=>by
  simp only [E8] at hb;simp only [VR] at hv ⊢;obtain ⟨cs,e,hs⟩:=hv;exact ⟨cs,e,Mx h cap _ hb hs⟩
 | .tup cap,cv,hb,hv=>by
  simp only [E8] at hb;simp only [VR] at hv ⊢;obtain ⟨cs,e,hs⟩:=hv;exact ⟨cs,e,Mx h cap _ hb hs⟩
 | .yld i,cv,hb,_=>by simp [E8] at hb
 | .rcd ..,cv,_,hv=>by simp only [VR] at hv
theorem Mx {ρ ρ':Env} (h:∀ i b d,ρ.ro i b d→ρ'.ro i b d):∀ (l:List AV) (cl:List Value),J0 l=true→VRs ρ l cl→VRs ρ' l cl
 | [],_,_,hv=>by simpa [VRs] using hv
 | v::l,cl,hb,hv=>by
  simp only [J0,zO] at hb;simp only [VRs] at hv ⊢;obtain ⟨x,xs,e,h1,h2⟩:=hv;exact ⟨x,xs,e,tB h v x hb.1 h1,Mx h l xs hb.2 h2⟩
end
def kN (x y:AV):Prop:=∀ (ρ:Env) cv,VR ρ x cv→VR ρ y cv
def wP (C:A1) (m k:Nat) (H:Hp):Prop:=
 ∃ b,H[m]?=some (some b)∧isRec b=false∧∀ (j:Nat) v,(C.G k)[j]?=some v→∃ x,b.cells[j]?=some x∧E8 x=true∧kN x v
theorem B2.frz {C:A1} {ρ:Env} {H:Hp} {w:World} {m k:Nat} (hH:B2 C ρ H w) (hf:wP C m k H) :
  ∃ ρ',ρ.le ρ'∧ρ'.rw=ρ.rw∧ρ'.dfs=ρ.dfs∧B2 C ρ' (Ut m k H) w∧Frm ρ w ρ' w∧∀ v cv,VR ρ v cv→VR ρ' (fz m k v) cv:=by
 obtain ⟨b,hb,hr,hc⟩:=hf;have hl:=hH.live m b hb
 obtain ⟨x,hx⟩:∃ x,ρ.rw[m]?=some x:=by
  cases h:ρ.rw[m]? with
  | none=>rw [h] at hl;exact hl.elim
  | some x=>exact ⟨x,rfl⟩
 have le:=Env.le_frz ρ k x
 have key:∀ (i:Nat) c,(Ut m k H)[i]?=some (some c)→i≠m∧∃ c0,H[i]?=some (some c0)∧c=⟨c0.esz,fzs m k c0.cells⟩:=fun i c h=>by
  unfold Ut at h;rw [zA5] at h;by_cases hi:m=i
  ·rw [if_pos hi] at h;split at h<;>simp at h
  ·rw [if_neg hi,zA0] at h;obtain ⟨o,ho,h⟩:=Option.map_eq_some_iff.1 h;cases o with
   | none=>simp [fzB] at h
   | some c0=>simp [fzB] at h;exact ⟨fun h=>hi h.symm,c0,ho,h.symm⟩
 refine ⟨ρ.frz k x,le,rfl,rfl,⟨by simp [Ut,Env.frz,hH.len],hH.base,hH.ents,fun i c h=>?_,fun i j c c' e e' h1 h2 h3 h4 h5=>?_,fun i b1 d hro=>?_,fun D hD=>⟨(hH.df D hD).1,(hH.df D hD).2.1,fun i d hro=>?_⟩⟩,
  ⟨rfl,rfl,rfl,zA7 _,fun _ _ _=>rfl,fun i e h=>.inl ⟨i,e,h,rfl⟩,fun _ _ _ h=>.inl h,fun i b1 d hro=>?_,fun _ h=>.inl h⟩,fun v cv h=>kM hx v cv h⟩
 ·obtain ⟨_,c0,h1,rfl⟩:=key i c h;have hl:=hH.live i c0 h1;show V8 _ _ (ρ.rw[i]?) _
  match hxi:ρ.rw[i]?,hl with
  | some (some e),hl=>
   have hrr:isRec (⟨c0.esz,fzs m k c0.cells⟩:Blk)=isRec c0:=rfl;cases hr0:isRec c0 with
   | true=>
    obtain ⟨g1,r,g2,p,ps,a,bd,F,q1,q2,q3,q4,q5,q6,q7⟩:=hl.rec hr0;refine .ofRec (hrr.trans hr0) ⟨g1,r,g2,p,ps,a,bd,F.map (fz m k),by simp only [q1,Bo,List.map_cons,fz],q2,q3,q4,q5,by simpa using q6,fun j v hv=>?_⟩;simp only [zA0,Option.map_eq_some_iff] at hv;obtain ⟨v0,hv0,rfl⟩:=hv;exact kM hx v0 _ (q7 j v0 hv0)
   | false=>
    obtain ⟨g1,cs,ty,fz0,g2,g3,g4,g5,g6⟩:=hl.cs hr0;refine .of (hrr.trans hr0) ⟨g1,cs,ty,fz0,g2,g3,by simpa [Bo] using g4,fun j v hv=>?_,g6⟩;simp only [Bo,zA0,Option.map_eq_some_iff] at hv;obtain ⟨v0,hv0,rfl⟩:=hv;obtain ⟨cv,p1,p2⟩:=g5 j v0 hv0;exact ⟨cv,p1,kM hx v0 cv p2⟩
  | some none,hl=>
   have:c0.cells=[]:=hl
   show fzs m k c0.cells=[];rw [this];simp [fzs]
  | none,hl=>exact hl.elim
 ·obtain ⟨_,c0,g1,_⟩:=key i c h1;obtain ⟨_,c1,g2,_⟩:=key j c' h2;exact hH.inj i j c0 c1 e e' g1 g2 h3 h4 h5
 ·rcases hro with hro | ⟨e,rfl,rfl,rfl,rfl⟩
  ·obtain ⟨g1,g2,g3⟩:=hH.ro i b1 d hro;refine ⟨g1,fun j c e q1 q2=>?_,fun j v hv=>?_⟩
   ·obtain ⟨_,c0,q3,_⟩:=key j c q1;exact g2 j c0 e q3 q2
   ·obtain ⟨cv,q1,q2⟩:=g3 j v hv;exact ⟨cv,q1,VR.sub (ρ:=⟨[],ρ.ro,[]⟩) ⟨fun _ _ h=>by simp at h,fun _ _ _ h=>Or.inl h⟩ v cv q2⟩
  ·rw [hx] at hl;obtain ⟨g1,cs,ty,fz0,g2,g3,g4,g5,g6⟩:=hl.cs hr;refine ⟨(hH.ents m e hx).2,fun j c e' q1 q2 hbe=>?_,fun j v hv=>?_⟩
   ·obtain ⟨hne,c0,q3,_⟩:=key j c q1;exact hne (hH.inj j m c0 b e' e q3 hb q2 hx hbe)
   ·obtain ⟨y,q1,q2,q3⟩:=hc j v hv;obtain ⟨cv,q4,q5⟩:=g5 j y q1;refine ⟨cv,by simp [World.cell?,g2,q4],q3 _ _ (tB (fun i b d h=>?_) y cv q2 q5)⟩;exact .inl h
 ·rcases hro with hro | ⟨e,rfl,rfl,rfl,rfl⟩
  ·exact (hH.df _ hD).2.2 i d hro
  ·exact (hH.df _ hD).2.1 m e hx rfl
 ·rcases hro with hro | ⟨e,rfl,rfl,rfl,rfl⟩
  ·exact .inl hro
  ·exact .inr (.inl ⟨m,e,hx,rfl⟩)
theorem D0.frz {ρ ρ':Env} {m k:Nat} {F:Fr} {a:Act} (h:D0 ρ F a) (hd:ρ'.dfs=ρ.dfs) (hv:∀ v cv,VR ρ v cv→VR ρ' (fz m k v) cv):D0 ρ' (fzs m k F) a:=by
 refine ⟨by rw [hd];exact h.nod,by rw [Bo,List.length_map];exact h.len,fun i v hi=>?_⟩;rw [Bo,zA0,Option.map_eq_some_iff] at hi;obtain ⟨v0,h0,rfl⟩:=hi;exact hv _ _ (h.val i v0 h0)
theorem AWp.frzQ {C:A1} {n:Nat} {c:Code} {F:Fr} {H:Hp} {Q Q':Post} (h:AWp C n c F H Q) (hq:∀ e F' H',Q e F' H'→∃ m k,wP C m k H'∧Q' e (fzs m k F') (Ut m k H')):AWp C n c F H Q':=by
 intro r hr ρ a w hH hF;refine Code.wpIn_mono ?_ (h r hr ρ a w hH hF);rintro e a' w' ⟨ae,ρ',F',H',rfl,h2,h3,h4,h5,h6⟩;obtain ⟨m,k,g1,g2⟩:=hq _ _ _ h2;obtain ⟨ρ2,q1,q2,q3,q4,q5,q6⟩:=h4.frz g1;exact ⟨ae,ρ2,_,_,rfl,g2,fun i hi=>by rw [q2];exact h3 i hi,q4,h5.frz q3 q6,h6.trans q5⟩
theorem kN.rfl {x:AV}:kN x x:=fun _ _ h=>h
theorem beqF {i m:Nat} (h:i≠m):zL i m=false:=by
 cases hb:zL i m with
 | true=>exact absurd (rG hb) h
 | false=>rfl
mutual
theorem fz_bnd {n m k:Nat} (hm:n≤m):∀ v,B0 n v=true→fz m k v=v
 | .undef,_=>by simp [fz]
 | .bool _,_=>by simp [fz]
 | .int _ _,_=>by simp [fz]
 | .str _,_=>by simp [fz]
 | .nilp,_=>by simp [fz]
 | .nils,_=>by simp [fz]
 | .nilf,_=>by simp [fz]
 | .ptr (.rw i) off,h=>by
  simp only [B0,qC] at h;simp only [fz];rw [show zL i m=false from beqF (by omega)];rfl
 | .ptr (.ro i) off,_=>by simp [fz]
 | .slice mb (.rw i) off len,h=>by
  simp only [B0,qC] at h;simp only [fz];rw [show zL i m=false from beqF (by omega)];rfl
 | .slice mb (.ro i) off len,_=>by simp [fz]
 | .func f cap,h=>by simp only [B0] at h;simp only [fz,Ga hm cap h]
 | .agg cs,h=>by simp only [B0] at h;simp only [fz,Ga hm cs h]
 | .tup cs,h=>by simp only [B0] at h;simp only [fz,Ga hm cs h]
 | .yld i,h=>by simp [fz]
 | .rcd ..,_=>by simp [fz]
theorem Ga {n m k:Nat} (hm:n≤m):∀ l,A6 n l=true→fzs m k l=l
 | [],_=>by simp [fzs]
 | v::l,h=>by
  simp only [A6,zO] at h;simp only [fzs,fz_bnd hm v h.1,Ga hm l h.2]
end
theorem rF (m k:Nat) (live:List Nat) (F:Fr):Ce live (fzs m k F)=fzs m k (Ce live F):=by
 simp only [Ce,Bo,List.map_map];congr 1;funext i;simp only [Function.comp,List.getD,zA0];cases F[i]? with
 | none=>simp [fz]
 | some v=>rfl
theorem AWp.frzL {C:A1} {n:Nat} {c:Code} {F:Fr} {H:Hp} {N:Nat} {live:List Nat} {Q Q':Ex→List AV→Hp→Prop} (m k:Nat) (h:AWp C n c F H (lv N live Q)) (hq:∀ e vs H',Q e vs H'→wP C m k H'∧Q' e (fzs m k vs) (Ut m k H')):AWp C n c F H (lv N live Q'):=
 h.frzQ fun e F' H' h=>by
  obtain ⟨h1,h2⟩:=U6 h;obtain ⟨g1,g2⟩:=hq _ _ _ h2;refine ⟨m,k,g1,?_⟩;have hl:(fzs m k F').length=F'.length:=by rw [Bo,List.length_map]
  show chk (zL (fzs m k F').length N) (Q' e (Ce live (fzs m k F')) (Ut m k H'));rw [rF,hl,h1];exact g2
def jR (b b':Blk):Prop:=b=b'∨(b.esz=b'.esz∧isRec b=false∧b.cells.length=b'.cells.length∧∀ (j:Nat) v,b'.cells[j]?=some v→∃ x,b.cells[j]?=some x∧kN x v)
def Kj:Hp→Hp→Prop
 | [],[]=>True
 | none::H,none::H'=>Kj H H'
 | some b::H,some b'::H'=>jR b b'∧Kj H H'
 | _,_=>False
theorem Qq:∀ H:Hp,Kj H H
 | []=>trivial
 | none::H=>Qq H
 | some _::H=>⟨.inl rfl,Qq H⟩
theorem Td:∀ {H H':Hp},Kj H H'→H.length=H'.length
 | [],[],_=>rfl
 | none::H,none::H',h=>by simp only [List.length_cons,Td (H:=H) (H':=H') h]
 | some _::H,some _::H',h=>by simp only [List.length_cons,Td (H:=H) (H':=H') h.2]
 | [],_::_,h=>h.elim
 | none::_,[],h=>h.elim
 | some _::_,[],h=>h.elim
 | none::_,some _::_,h=>h.elim
 | some _::_,none::_,h=>h.elim
theorem Hn:∀ {H H':Hp},Kj H H'→∀ (i:Nat) b',H'[i]?=some (some b')→∃ b,H[i]?=some (some b)∧jR b b'
 | [],[],_,i,b',h=>by simp at h
 | none::H,none::H',h,i,b',hb=>by
  cases i with
  | zero=>simp at hb
  | succ i=>exact Hn (H:=H) (H':=H') h i b' (by simpa using hb)
 | some b::H,some c::H',h,i,b',hb=>by
  cases i with
  | zero=>simp at hb;subst hb;exact ⟨b,rfl,h.1⟩
  | succ i=>exact Hn (H:=H) (H':=H') h.2 i b' (by simpa using hb)
 | [],_::_,h,_,_,_=>h.elim
 | none::_,[],h,_,_,_=>h.elim
 | some _::_,[],h,_,_,_=>h.elim
 | none::_,some _::_,h,_,_,_=>h.elim
 | some _::_,none::_,h,_,_,_=>h.elim
theorem Te:∀ {A A' B B':Hp},Kj A A'→Kj B B'→Kj (A++B) (A'++B')
 | [],[],_,_,_,h=>h
 | none::A,none::A',_,_,h,h'=>Te (A:=A) (A':=A') h h'
 | some _::A,some _::A',_,_,h,h'=>⟨h.1,Te (A:=A) (A':=A') h.2 h'⟩
 | [],_::_,_,_,h,_=>h.elim
 | none::_,[],_,_,h,_=>h.elim
 | some _::_,[],_,_,h,_=>h.elim
 | none::_,some _::_,_,_,h,_=>h.elim
 | some _::_,none::_,_,_,h,_=>h.elim
theorem B2.tell {C:A1} {ρ:Env} {H H':Hp} {w:World} (hH:B2 C ρ H w) (h:Kj H H'):B2 C ρ H' w:=by
 refine ⟨by rw [←Td h];exact hH.len,hH.base,hH.ents,fun i c hc=>?_,fun i j c c' e e' h1 h2 h3 h4 h5=>?_,fun i b d hr=>?_,hH.df⟩
 ·obtain ⟨b,hb,ht⟩:=Hn h i c hc;have hl:=hH.live i b hb;rcases ht with rfl | ⟨t1,t2,t3,t4⟩
  ·exact hl
  ·match hxi:ρ.rw[i]?,hl with
   | some (some e),hl=>
    obtain ⟨g1,cs,ty,fz0,g2,g3,g4,g5,g6⟩:=hl.cs t2
    have hrr:isRec c=false:=by
     unfold isRec at t2 ⊢;rw [←t1];exact t2
    refine .of hrr ⟨by rw [←t1];exact g1,cs,ty,fz0,g2,g3,by rw [←t3];exact g4,fun j v hv=>?_,g6⟩;obtain ⟨x,q1,q2⟩:=t4 j v hv;obtain ⟨cv,p1,p2⟩:=g5 j x q1;exact ⟨cv,p1,q2 _ _ p2⟩
   | some none,hl=>
    have:b.cells=[]:=hl
    show c.cells=[];rw [this] at t3;exact List.eq_nil_of_length_eq_zero t3.symm
   | none,hl=>exact hl.elim
 ·obtain ⟨b,hb,_⟩:=Hn h i c h1;obtain ⟨b',hb',_⟩:=Hn h j c' h2;exact hH.inj i j b b' e e' hb hb' h3 h4 h5
 ·obtain ⟨g1,g2,g3⟩:=hH.ro i b d hr;refine ⟨g1,fun j c e q1 q2=>?_,g3⟩;obtain ⟨b',hb',_⟩:=Hn h j c q1;exact g2 j b' e hb' q2
theorem Fk {N:Nat} {g:Nat→Nat} {i:Nat} (hi:i<N):((List.range N).map g).getD i 0=g i:=by
 simp [List.getD,hi]
theorem C5.fn {m N:Nat} {F F':Fr} {H H':Hp} (g:Nat→Nat) (hN:H.length=N) (hm:m≤N) (hfix:∀ i,i<m→g i=i) (hinj:∀ i j,i<N→j<N→g i=g j→i=j)
  (hb:∀ i,i<N→∃ b b',H[i]?=some (some b)∧H'[g i]?=some (some b')∧b.esz=b'.esz∧A6 N b.cells=true∧((b.cells=[]∧b.esz=1)∨b'.cells=rens ((List.range N).map g) b.cells))
  (hF:A6 N F=true) (hF':wk (rens ((List.range N).map g) F) F'):C5 m F H F' H':=by
 have hl:((List.range N).map g).length=N:=by simp
 refine ⟨(List.range N).map g,by rw [hl,hN],by omega,fun i hi=>by rw [Fk (by omega)];exact hfix i hi,fun i hi=>?_,fun i j b b' h1 h2 he=>?_,fun i b h=>?_,by rw [←Sx hF',I9];simp,fun k v hk=>?_⟩
 ·rw [hl] at hi;rw [Fk hi];obtain ⟨b,b',_,h2,_⟩:=hb i hi;exact (zP.1 h2).1
 ·have hi:=(zP.1 h1).1;have hj:=(zP.1 h2).1;rw [hN] at hi hj;rw [Fk hi,Fk hj] at he;exact hinj i j hi hj he
 ·have hi:=(zP.1 h).1;rw [hN] at hi;obtain ⟨b1,b',h1,h2,h3,h4,h5⟩:=hb i hi;rw [h] at h1;simp only [zN] at h1;subst h1;rw [Fk hi];refine ⟨b',h2,?_,h3,fun k v hk=>?_,fun hr=>?_⟩
  ·rcases h5 with ⟨h5,_⟩ | h5
   ·rw [h5];exact zA8 _
   ·rw [h5,I9];simp
  ·rcases h5 with ⟨h5,_⟩ | h5
   ·rw [h5] at hk;simp at hk
   ·rw [O1,qD] at h4;refine ⟨by rw [hl];exact h4 v (zA1 hk),.inr ?_⟩;rw [h5,I9];simp [hk]
  ·rcases h5 with ⟨_,h5⟩ | h5
   ·unfold isRec at hr;rw [h5] at hr;cases hr
   ·rw [h5,I9];simp
 ·rw [O1,qD] at hF;refine ⟨by rw [hl];exact hF v (zA1 hk),?_⟩;rcases Sy hF' k (Go.Am.C2 ((List.range N).map g) v) (by rw [I9];simp [hk]) with h | h
  ·left;cases v with
   | undef=>rfl
   | ptr r o=>cases r<;>simp [Go.Am.C2] at h
   | slice m r o n=>cases r<;>simp [Go.Am.C2] at h
   | _=>simp [Go.Am.C2] at h
  ·exact .inr h
theorem AWp.pads {C:A1} {m:Nat} {c:Code} {F:Fr} {Q:Post}:∀ (k:Nat) {H:Hp},m≤H.length→AWp C m c F (H++List.replicate k (some ⟨1,[]⟩)) Q→AWp C m c F H Q
 | 0,H,_,h=>by rw [List.replicate_zero,List.append_nil] at h;exact h
 | k+1,H,hm,h=>by
  refine AWp.nil 1 hm (Q7 _) (Jm H) (AWp.pads k (by rw [zA6];omega) ?_);rw [List.append_assoc,List.singleton_append,←List.replicate_succ];exact h
theorem eO {m:Nat}:∀ {H:Hp},(∀ (i:Nat) b,H[i]?=some (some b)→A6 m b.cells=true)→I1 m H=true
 | [],_=>rfl
 | none::H,h=>by simp only [I1];exact eO fun i b hb=>h (i+1) b hb
 | some b::H,h=>by
  simp only [I1,zO];exact ⟨h 0 b rfl,eO fun i b hb=>h (i+1) b hb⟩
section
variable {C:A1}
end
section
variable {C:A1}
open Classical in
noncomputable def D9 (vs0:List AV) (H0:Hp):List AV→Bool:=fun xs=>decide (xs=[.agg vs0,.agg (O9 H0)])
theorem Ig {vs0 vs:List AV} {H0 H:Hp} (h:D9 vs0 H0 [.agg vs,.agg (O9 H)]=true):vs=vs0∧H=H0:=by
 unfold D9 at h;simp only [qC,List.cons.injEq,AV.agg.injEq,and_true] at h;exact ⟨h.1,Zq _ _ h.2⟩
theorem D2 {vs0:List AV} {H0:Hp}:D9 vs0 H0 [.agg vs0,.agg (O9 H0)]=true:=by
 unfold D9;simp
def mR (G:Nat→List AV) (H0:Hp):Outs→AV→Hp→Prop
 | .one v hs=>fun v' H'=>v'=vV G v∧H'=acts H0 (hs.map (I6 G))
 | .chk _ x=>mR G H0 x
 | .tst b x y=>fun v' H'=>(vB G b=true∧mR G H0 x v' H')∨(vB G b=false∧mR G H0 y v' H')
 | _=>fun _ _=>False
theorem Rf {G:Nat→List AV} {H0:Hp} {P:EV→List DHop→Prop} (R:(AV→Hp→Prop)→Prop) (mono:∀ K K':AV→Hp→Prop,(∀ v H',K v H'→K' v H')→R K→R K') (abs:R (fun _ _=>False)→∀ v hs,P v hs)
  (one:∀ v hs,R (fun v' H'=>v'=vV G v∧H'=acts H0 (hs.map (I6 G)))→P v hs):∀ o,R (mR G H0 o)→Eb G P o
 | .one v hs,h=>one v hs h
 | .chk b x,h=>fun _=>Rf R mono abs one x h
 | .tst b x y,h=>⟨fun hb=>Rf R mono abs one x (mono _ _ (fun v H' h=>by
   rcases h with ⟨_,h⟩ | ⟨h1,_⟩
   ·exact h
   ·rw [hb] at h1;cases h1) h),fun hb=>Rf R mono abs one y (mono _ _ (fun v H' h=>by
   rcases h with ⟨h1,_⟩ | ⟨_,h⟩
   ·rw [hb] at h1;cases h1
   ·exact h) h)⟩
 | .namI e f,h=>fun j=>oAll_of abs h _
 | .namN e f,h=>fun j=>oAll_of abs h _
 | .namB e f,h=>fun j=>oAll_of abs h _
 | .namL e f,h=>fun j=>oAll_of abs h _
where
 oAll_of {G:Nat→List AV} {P:EV→List DHop→Prop} {R:(AV→Hp→Prop)→Prop} (abs:R (fun _ _=>False)→∀ v hs,P v hs) (h:R (fun _ _=>False)):∀ o,Eb G P o
  | .one v hs=>abs h v hs
  | .chk b x=>fun _=>oAll_of abs h x
  | .tst b x y=>⟨fun _=>oAll_of abs h x,fun _=>oAll_of abs h y⟩
  | .namI e f=>fun j=>oAll_of abs h _
  | .namN e f=>fun j=>oAll_of abs h _
  | .namB e f=>fun j=>oAll_of abs h _
  | .namL e f=>fun j=>oAll_of abs h _
def Bl (j:Nat) (q:List AV→Bool) (o:Outs):DSum:=fun args H=>some (.chk (.uf j q [.agg (.of args),.agg (.of (Xk H))]) o)
theorem Mb {f j:Nat} {o:Outs} {vs0:List AV} {H0:Hp} {q:List AV→Bool} (hq:q=D9 vs0 H0) (h:ACalls C f vs0 H0 (mR C.G H0 o)):DSumOk C f (Bl j q o):=by
 intro args H o' ho;simp only [Bl,zN] at ho;subst ho;intro h1;simp only [vB,vVs,vV,vL,Ll,hq] at h1;obtain ⟨e1,e2⟩:=Ig h1;refine Rf (H0:=H0) (fun K=>ACalls C f vs0 H0 K) (fun K K' hk h=>h.monoK hk) (fun h v hs=>?_) (fun v hs h=>?_) o h
 ·unfold E1;rw [e1,e2];exact h.monoK fun _ _ h=>h.elim
 ·unfold E1;rw [e1,e2];exact h
theorem N7 {M:Nat} {c:Code} {j:Nat} {ex N:Nat} {live:List Nat} {o:LOut} {vs0:List AV} {H0:Hp} {q:List AV→Bool} (hq:q=D9 vs0 H0)
  (h:AWp C M (.loop c) (fl N live vs0) H0 (lv N live (o.post C.G M))):F5 C M c (D4 j q ex N live o):=by
 refine .of fun vs H o' ho n Q hQ=>?_;simp only [D4,zN] at ho;subst ho;obtain ⟨h1,h2⟩:=hQ;simp only [vB,vVs,vV,vL,Ll,hq] at h1;obtain ⟨e1,e2⟩:=Ig h1;rw [e1,e2];exact h.lmono fun e vs H hp=>Gp o n h2 hp
end
def tl (T:List Deferred) (a:Act):Act:=⟨a.tmps,a.defers++T⟩
def tlQ (T:List Deferred) (Q:Exit→Act→World→Prop):Exit→Act→World→Prop:=fun e a w=>∃ a0,a=tl T a0∧Q e a0 w
theorem Pe (T:List Deferred) (a:Act) (d:Option Tmp) (v:Value):(tl T a).put d v=tl T (a.put d v):=by cases d<;>rfl
theorem qI (T:List Deferred) (a:Act):(tl T a).eval=a.eval:=rfl
theorem Oper.wpIn_tail {F:Fence} {n:Nat} {P:Program} {o:Oper} {a:Act} {w:World} (T:List Deferred) {K K':Act→World→Prop} {Q Q':Exit→Act→World→Prop} (hk:∀ a w,K a w→K' (tl T a) w) (hq:∀ e a w,Q e a w→Q' e (tl T a) w) (h:o.wpIn F n P a w K Q):o.wpIn F n P (tl T a) w K' Q':=by
 unfold Oper.wpIn at *;rw [qI];refine ⟨h.1,?_⟩;have h:=h.2;generalize (o.semAt F.round a.eval).run P w=r at *;have hl:LetsOut Q→LetsOut Q':=fun ⟨a,w,h⟩=>⟨_,w,hq _ _ _ h⟩;have hp:∀ v w,K (a.put o.dst v) w→K' ((tl T a).put o.dst v) w:=fun v w h=>by rw [Pe];exact hk _ _ h
 have hd:∀ d w,K ({ a with defers:=d::a.defers }.put o.dst undef) w→K' ({ (tl T a) with defers:=d::(tl T a).defers }.put o.dst undef) w:=fun d w h=>by
  have:=hk _ _ h
  rw [←Pe] at this;exact this
 cases r with
 | ok n w'=>
  cases n<;>simp only [Oper.uponIn] at h ⊢ <;>
   first
    | exact hp _ _ h
    | exact hd _ _ h
    | exact ⟨h.1,CallsIn.mono h.2 (fun e w'' he=>by cases e<;>first | exact hp _ _ he | exact hq _ _ _ he | exact hl he)⟩
    | exact ⟨h.1,RowsIn.mono h.2 (fun _ _ he=>hp _ _ he)⟩
    | exact ⟨h.1,RoundIn.mono h.2 (fun e w'' he=>by cases e<;>first | exact hp _ _ he | exact hq _ _ _ he | exact hl he)⟩
 | halt x w'=>cases x<;>simp only [Oper.uponIn] at h ⊢<;>exact hq _ _ _ h
theorem Jy {F:Fence} {n:Nat} {P:Program} {ops:Array Oper} (T:List Deferred) {Q Q':Exit→Act→World→Prop} (hq:∀ e a w,Q e a w→Q' e (tl T a) w):∀ (l:List Oper) (a:Act) (w:World),wpListIn F n P ops Q l a w→wpListIn F n P ops Q' l (tl T a) w
 | [],a,w,h=>hq _ _ _ h
 | o::l,a,w,h=>by
  unfold wpListIn at *;split
  ·rename_i hw;rw [if_pos (show Region.wanted o (yielded ops a.tmps)=true from hw)] at h;exact Oper.wpIn_tail T (Jy T hq l) hq h
  ·rename_i hw;rw [if_neg (show ¬Region.wanted o (yielded ops a.tmps)=true from hw)] at h;refine ⟨h.1,?_⟩;rw [Pe];exact Jy T hq l _ _ h.2
theorem pI {F:Fence} {n:Nat} {P:Program} {ops:Array Oper} (T:List Deferred) {i:Nat} {a:Act} {w:World} {K K':Act→World→Prop} {Q Q':Exit→Act→World→Prop} (hk:∀ a w,K a w→K' (tl T a) w) (hq:∀ e a w,Q e a w→Q' e (tl T a) w) (h:wpOpIn F n P ops Q i K a w):wpOpIn F n P ops Q' i K' (tl T a) w:=by
 unfold wpOpIn at *;cases ho:ops[i]? with
 | none=>rw [ho] at h;exact hk _ _ h
 | some o=>
  rw [ho] at h;simp only at h ⊢;split
  ·rename_i hw;rw [if_pos (show Region.wanted o (yielded ops a.tmps)=true from hw)] at h;exact Oper.wpIn_tail T hk hq h
  ·rename_i hw;rw [if_neg (show ¬Region.wanted o (yielded ops a.tmps)=true from hw)] at h;refine ⟨h.1,?_⟩;rw [Pe];exact hk _ _ h.2
theorem Sw {F:Fence} {n:Nat} {P:Program} {md:Region.Mode} {ops:Array Oper} (T:List Deferred) {Q Q':Exit→Act→World→Prop} (hq:∀ e a w,Q e a w→Q' e (tl T a) w):∀ (k:Nat) (ls:Array Bool) (a:Act) (w:World),wpAnyIn F n P md ops Q k ls a w→wpAnyIn F n P md ops Q' k ls (tl T a) w
 | 0,ls,a,w,h=>⟨h.1,hq _ _ _ h.2⟩
 | k+1,ls,a,w,h=>⟨fun hr=>hq _ _ _ (h.1 hr),fun i hi=>pI T (Sw T hq k _) hq (h.2 i hi)⟩
section
variable {K:Cfg} {lps:List Code}
theorem iP (hK:Ee K lps) (T:List Deferred) {all:List Oper} {trs:List Tr} {F F':Fr} {H H':Hp} (ht:DT K all all F H trs F' H') (hd:X4 all trs=true) {ρ:Env} {a:Act} {w:World} (hH:B2 K.C ρ H w) (hF:D0 ρ F a)
  {id:Nat} {r:Option Nat} {Q Q':Exit→Act→World→Prop} (hq:∀ e a w,Q e a w→Q' e (tl T a) w) (hQ:∀ ρ' a' w',B2 K.C ρ' H' w'→D0 ρ' F' a'→ρ.le ρ'→Frm ρ w ρ' w'→Q .normal a' w'):(Code.region id all.toArray true).wpIn (W r) 0 K.C.P Q' (tl T a) w:=by
 obtain ⟨vs,h1,h2,h3,h4,h5⟩:=ht.spell;refine wpIn_region_any hK.mix (Sw T hq _ _ a _ ?_);have hw:({ w with drawn:=w.drawn+1 }:World)=w.drew:=rfl;rw [hw];have hsz:all.toArray.size=all.length:=by simp
 rw [hsz];refine Zr (F0:=F) (H0:=H) (ρ0:=ρ) (w0:=w) hK hd h1 h2 h5 (fun a' w' hs=>?_) all.length _ a w.drew (by simp) ?_ ⟨fun j o _ hj=>?_,ρ,?_,?_,Env.le_refl ρ,(Frm.refl ρ w).drew⟩
 ·obtain ⟨ρ',g1,g2,g3,g4⟩:=hs.rel;rw [h4] at g1;rw [h3] at g2;exact hQ ρ' a' w' g1 g2 g3 g4
 ·rw [List.countP_eq_length.2]
  ·simp
  ·intro i hi
   have:=List.mem_range.1 hi
   simp [Array.getD]
 ·simp [Array.getD] at hj
 ·rw [Dk]
  ·exact hH.drew
  ·intro k _;simp [Array.getD]
 ·have none:∀ (l:List Oper) (vs:List AV) (i:Nat) (F:Fr),FSel (fun i=>(Array.replicate all.length false).getD i false) i l vs F=F:=by
   intro l
   induction l with
   | nil=>intro vs i F;simp [FSel]
   | cons o l ih=>
    intro vs i F;cases vs with
    | nil=>simp [FSel]
    | cons x vs=>
     simp only [FSel]
     have:(Array.replicate all.length false).getD i false=false:=by simp [Array.getD]
     rw [this];exact ih vs _ F
  rw [none];exact hF
end
def Oe:Code→Bool
 | .skip=>true
 | .region ..=>true
 | .seq x y=>Oe x&&Oe y
 | .cond _ x y=>Oe x&&Oe y
 | .ret=>true
 | _=>false
theorem bC6 {C:A1} {K:DCfg} {lps:List Code} (hK:DGood C K lps) (T:List Deferred):∀ n m c F H fs q (Q:Post) (QQ:Ex→List AV→Hp→Prop) (RR:AV→Hp→Prop),
    (∀ e F H fs,vT C.G QQ RR (q e F H fs)→Q e (vVs C.G F) (B8 C.G H))→Oe c=true→vT C.G QQ RR (dx K n m (.code c) F H fs q)→
    ∀ (ρ:Env) (a:Act) (w:World),m≤(B8 C.G H).length→B2 C ρ (B8 C.G H) w→D0 ρ (vVs C.G F) a→c.wpIn (W none) 0 C.P (tlQ T (AP C m ρ w Q)) (tl T a) w:=by
  intro n
  induction n with
  | zero => intro m c F H fs q Q QQ RR _ _ h; exact h.elim
  | succ n ih=>
    intro m c F H fs q Q QQ RR hq hs h;have g0:=Fz (C:=C) hK.mix lps;change vT C.G QQ RR (Y6 K (dx K n) m c F H fs q) at h;intro ρ a w hm hH hF;have here:∀ ae,Q ae (vVs C.G F) (B8 C.G H)→tlQ T (AP C m ρ w Q) (Lr ae) (tl T a) w:=fun ae hq=>⟨a,rfl,ae,ρ,_,_,rfl,hq,K3.refl m ρ,hH,hF,Frm.refl ρ w⟩;cases c with
    | skip=>exact wpIn_skip (here .normal (hq _ _ _ _ h))
    | region id ops draw=>
      cases draw with
      | true=>
        obtain ⟨trs',F',H',g1,g2,g3⟩:=Il hK n m (.dr ops.toList ops.toList []) F H fs q Q QQ RR hq trivial h
        have:=iP (id:=id) (r:=none) (Q:=AP C m ρ w Q) (Q':=tlQ T (AP C m ρ w Q)) (lps:=lps) g0 T g1 (by simpa using g2) hH hF (fun e a w h=>⟨a,rfl,h⟩) fun ρ' a' w' q1 q2 q3 q4=>⟨.normal,ρ',F',H',rfl,g3,K3.of_le hH q3 hm,q1,q2,q4⟩
        rwa [Array.toArray_toList] at this
      | false=>
        have:=Il hK n m (.ops ops.toList ops.toList) F H fs q Q QQ RR hq trivial h none ρ a w hm hH hF
        rw [Array.toArray_toList] at this;exact wpIn_region_list (Jy T (fun e a w h=>⟨a,rfl,h⟩) _ _ _ this)
    | seq x y=>
      have hxy:=hs;simp only [Oe,zO] at hxy;obtain ⟨hx,hy⟩:=hxy
      have key:=ih m x F H fs (Wc (dx K n) m y q) (fun e F1 H1=>match e with
        | .normal=>∀ ρ' a' w',m≤H1.length→B2 C ρ' H1 w'→D0 ρ' F1 a'→y.wpIn (W none) 0 C.P (tlQ T (AP C m ρ' w' Q)) (tl T a') w'
        | e=>Q e F1 H1) QQ RR (fun e F1 H1 fs1 ht=>by
          cases e with
          | normal=>exact fun ρ' a' w' q1 q2 q3=>ih m y F1 H1 fs1 q Q QQ RR hq hy ht ρ' a' w' q1 q2 q3
          | exit i=>exact hq _ _ _ _ ht
          | ret=>exact hq _ _ _ _ ht) hx h ρ a w hm hH hF
      refine wpIn_seq (Code.wpIn_mono ?_ key);rintro e _ w' ⟨a',rfl,ae,ρ',F',H',rfl,h2,h3,h4,h5,h6⟩;cases ae with
      | normal=>exact Code.wpIn_mono (fun e a w ⟨a0,e0,h⟩=>⟨a0,e0,AP.link h3 h6 h⟩) (h2 ρ' a' w' (S2 hm hH h4 h3) h4 h5)
      | exit i=>exact ⟨a',rfl,.exit i,ρ',F',H',rfl,h2,h3,h4,h5,h6⟩
      | ret=>exact ⟨a',rfl,.ret,ρ',F',H',rfl,h2,h3,h4,h5,h6⟩
    | cond c x y=>
      have hxy:=hs;simp only [Oe,zO] at hxy;obtain ⟨hx,hy⟩:=hxy;simp only [Y6,Fm] at h;split at h
      · rename_i t;rw [Db] at h;split at h
        · rename_i b hb;have hv:=hF.at t;rw [U2,hb] at hv;simp only [vV,VR] at hv
          have hs:∀ x:Bool,vB C.G b=x→vVs C.G (K5 F (some t) (.bool (.lit x)))=vVs C.G F:=fun x hx=>by
            rw [M8];simp only [put,vV,vB];refine U5 ?_ (by simp);rw [U2,hb];simp only [vV,hx]
          rcases T4 b fs _ _ h with ⟨h1,fs1,_,h2⟩ | ⟨h1,fs1,_,h2⟩
          · rw [h1] at hv
            have:=ih m x _ H fs1 q Q QQ RR hq hx h2 ρ a w hm hH
            rw [hs _ h1] at this;exact wpIn_cond_true hv (this hF)
          · rw [h1] at hv
            have:=ih m y _ H fs1 q Q QQ RR hq hy h2 ρ a w hm hH
            rw [hs _ h1] at this;exact wpIn_cond_false hv (this hF)
        · exact h.elim
      · rename_i b;cases b with
        | true=>exact wpIn_cond_true rfl (ih m x F H fs q Q QQ RR hq hx h ρ a w hm hH hF)
        | false=>exact wpIn_cond_false rfl (ih m y F H fs q Q QQ RR hq hy h ρ a w hm hH hF)
      · exact h.elim
    | ret=>exact wpIn_ret (here .ret (hq _ _ _ _ h))
    | _=>simp [Oe] at hs
theorem aO6 {C:A1} {K:DCfg} {lps:List Code} {fuel n0 m:Nat} {c:Code} {N:Nat} {live:List Nat} {vs:List EV} {H:DHp} {Q:Ex→List AV→Hp→Prop} (hK:DGood C K lps) (T:List Deferred) (hs:Oe c=true)
  (h:vT C.G Q (fun _ _=>False) (H4 K fuel n0 m c N live vs H)) {ρ:Env} {a:Act} {w:World} (hm:m≤H.length) (hH:B2 C ρ (B8 C.G H) w) (hF:D0 ρ (fl N live (vVs C.G vs)) a):c.wpIn (W none) 0 C.P (tlQ T (AP C m ρ w (lv N live Q))) (tl T a) w:=by
 refine bC6 hK T fuel m c (Vc N live vs) H (f0 n0) _ (lv N live Q) Q (fun _ _=>False) (fun e F1 H1 fs1 ht=>?_) hs h ρ a w (by simpa [E2] using hm) hH (by rw [Ta];exact hF);unfold Zn at ht;split at ht
 ·rename_i hb;simp only [vT,Pa] at ht;simp only [lv,O7,hb];exact ht
 ·exact ht.elim
theorem Gt {P:Program} {fn:Func} {tmps:Array Value} {R:Ending→World→Prop} {rest:List Deferred} {u:FrameMode} (hu:u≠.run):∀ (ds:List Nat) (w:World),ds.Nodup→(∀ D∈ds,w.heap[D]?=some (.deferred (some [])))→
  (∀ w':World,w'.heap.size=w.heap.size→(∀ k,k ∉ ds→w'.heap[k]?=w.heap[k]?)→w'.os=w.os→w'.tape=w.tape→w'.output=w.output→LeavesInM Fence.wide 0 P fn tmps R rest u w')→
  LeavesInM Fence.wide 0 P fn tmps R ((ds.map fun D=>{ target:=.collected D,args:=#[] })++rest) u w
 | [],w,_,_,h=>h w rfl (fun _ _=>rfl) rfl rfl rfl
 | D::ds,w,hn,hd,h=>by
  refine ⟨hu,.inl ⟨D,w.putObj D (.deferred none),rfl,run_takeDeferred (hd D (by simp)),?_⟩⟩;refine Gt hu ds _ (List.nodup_cons.1 hn).2 (fun D' hD'=>?_) fun w' h1 h2 h3 h4 h5=>?_
  ·rw [World.putObj_heap_other (fun e:D'=D=>(List.nodup_cons.1 hn).1 (by rw [←e];exact hD'))];exact hd D' (by simp [hD'])
  ·refine h w' (by rw [h1];simp) (fun k hk=>?_) h3 h4 h5;rw [h2 k (fun hh=>hk (by simp [hh])),World.putObj_heap_other (fun e=>hk (by simp [e]))]
def wM (P:Program) (D:Deferred):Prop:=∃ fv cap g cargs,D.target=.fn fv cap∧∀ w,(invoke D.target D.args).run P w=.ok (.enter g cargs) w∧
 CallsDIn Fence.wide 0 P g cargs .returning w fun e u' w'=>e=.returned (.tuple #[])∧u'=.returning∧w'=w
theorem Yc {P:Program} {fn:Func} {tmps:Array Value} {R:Ending→World→Prop} {D:Deferred} {w:World} (hD:wM P D) (h:∃ v,(results fn tmps).run P w=.ok v w∧R (.returned v) w):LeavesInM Fence.wide 0 P fn tmps R [D] .returning w:=by
 obtain ⟨fv,cap,g,cargs,h1,h2⟩:=hD;obtain ⟨h3,h4⟩:=h2 w;refine ⟨by simp,.inr ⟨fun h=>by simp [Fence.wide] at h,fv,cap,g,cargs,h1,h3,fun _ _=>trivial,h4.mono ?_⟩⟩;rintro e u' w' ⟨rfl,rfl,rfl⟩;exact h
theorem oX {C : A1} {f : FuncId} {fn : Func} {c : Code} {args : List AV} {H : Hp} {K : AV → Hp → Prop} (hf : C.P.funcs[f]? = some fn) (hb : fn.body = some c) (hn : (fn.name == "runtime.NumGoroutine") = false)
  (h:∀ (ρ:Env) (a:Act) (w:World),B2 C ρ H w→D0 ρ (K7 fn args) a→a.defers=[]→c.wpIn (W none) 0 C.P (fun e a' w'=>∃ D a0,a'=tl [D] a0∧wM C.P D∧AP C H.length ρ w (L1 C fn K) e a0 w') a w):ACalls C f args H K:=by
 refine ⟨⟨fn,c,hf,hb,hn⟩,fun ρ w cargs hH hv=>callsIn_wide.1 (callsIn_of_wp_marks (n:=0) hf hb trivial (wpIn_mono (h ⟨ρ.rw,ρ.ro,[]⟩ _ w (hH.setDfs [] (fun _ h=>by simp at h)) (Kv (VRs.sub (Env.sub_dfs ρ []) _ _ hv)) rfl) ?_))⟩;rintro e _ w' ⟨Dd,a',rfl,hDd,ae,ρ',F',H',rfl,hQ,hp,hH',hF',hfr⟩
 have fin:Sp (Kb C fn F' H') (fun v=>K v H')→LeavesInM Fence.wide 0 C.P fn (tl [Dd] a').tmps (fun e w''=>∃ v cv ρ' H',e=.returned cv∧K v H'∧ρ.le ρ'∧B2 C ρ' H' w''∧VR ρ' v cv∧Frm ρ w ρ' w'') (tl [Dd] a').defers .returning w':=by
  intro ho;obtain ⟨ds,hds,hnd,hD⟩:=hF'.nod
  have fresh:∀ D∈ds,w.heap.size≤D:=fun D h=>by
   rcases hfr.mkn D (hD D h) with h1 | h1
   ·simp at h1
   ·exact h1
  show LeavesInM Fence.wide 0 C.P fn a'.tmps _ (a'.defers++[Dd]) .returning w';rw [hds];refine Gt (by simp) ds w' hnd (fun D h=>(hH'.df D (hD D h)).1) fun w'' hs hk ho2 ht hou=>Yc hDd ?_;obtain ⟨v,h1,h2⟩:=S3 ho
  have hH'':B2 C ⟨ρ'.rw,ρ'.ro,ρ.dfs⟩ H' w'':=by
   refine ⟨hH'.len,by rw [hs];exact hH'.base,fun i e he=>by rw [hs];exact hH'.ents i e he,fun i b hb=>(hH'.live i b hb).sub (Env.sub_dfs ρ' ρ.dfs) fun e he=>hk e.blk fun hin=>(hH'.df _ (hD _ hin)).2.1 i e he rfl,hH'.inj,fun i b d hr=>?_,fun D hDD=>⟨?_,fun i e he=>?_,fun i d hr=>?_⟩⟩
   ·obtain ⟨g1,g2,g3⟩:=hH'.ro i b d hr;refine ⟨by rw [hs];exact g1,g2,fun k v hv=>?_⟩;obtain ⟨cv,g4,g5⟩:=g3 k v hv;refine ⟨cv,?_,g5⟩;rw [World.cell?_of_block (w:=w') (hk b fun hin=>(hH'.df b (hD b hin)).2.2 i d hr)];exact g4
   ·have hlt:=hH.df_lt hDD;rw [hk D fun hin=>by have:=fresh D hin;omega,hfr.keep D hlt (.inr (hH.df D hDD).2.1)];exact (hH.df D hDD).1
   ·have hlt:=hH.df_lt hDD;rcases hfr.news i e he with ⟨j,e',hj,hje⟩ | hge
    ·rw [←hje];exact (hH.df D hDD).2.1 j e' hj
    ·omega
   ·have hlt:=hH.df_lt hDD;rcases hfr.newro i D d hr with h1 | ⟨j,e,he,heb⟩ | h1
    ·exact (hH.df D hDD).2.2 i d h1
    ·exact (hH.df D hDD).2.1 j e he heb
    ·omega
  have hF'':D0 ⟨ρ'.rw,ρ'.ro,ρ.dfs⟩ F' ⟨a'.tmps,[]⟩:=⟨⟨[],rfl,List.nodup_nil,fun _ h=>by simp at h⟩,hF'.len,fun i v hv=>VR.sub (Env.sub_dfs ρ' ρ.dfs) v _ (hF'.val i v hv)⟩;obtain ⟨cv,g1,g2⟩:=Bm hH'' hF'' h1
  have hle:ρ.le ⟨ρ'.rw,ρ'.ro,ρ.dfs⟩:=⟨fun i x hx=>by
   have hlt:i<ρ.rw.length:=(zP.1 hx).1;show ρ'.rw[i]?=_
   rw [hp i (by rw [←hH.len];exact hlt)];exact hx,hfr.ro,fun _ h=>h⟩
  exact ⟨cv,g1,v,cv,_,H',rfl,h2,hle,hH'',g2,⟨ho2.trans hfr.os,ht.trans hfr.tape,hou.trans hfr.output,by rw [hs];exact hfr.size,
   fun b hb hn=>(hk b fun hin=>by have:=fresh b hin;omega).trans (hfr.keep b hb hn),hfr.news,hfr.ro,hfr.newro,fun _ h=>.inl h⟩⟩
 cases ae with
 | normal=>exact fin hQ
 | ret=>exact fin hQ
 | exit i=>exact hQ.elim
def pmE:EV:=.func 987654 []
def pmV:AV:=.func 987654 []
def panRg (l:List Oper):Option (Nat×Nat):=match l with
 | [⟨some a,.build t ps,_,_,_,none⟩,⟨some b,.makeInterface t' (.tmp a'),_,_,_,none⟩,⟨_,.panic (.tmp b'),_,_,_,none⟩]=>
  if Nat.beq a a'&&(Nat.beq b b'&&(Nat.beq t t'&&(ps.toList.isEmpty&&Nat.beq (a+1) b))) then some (t,b) else none
 | _=>none
def Bd {α:Type} (H:List (Option α)) (l:List Nat):List (Option α):=l.foldl (fun H j=>H.set j none) H
structure Hf where
 K:DCfg
 rt:Nat
 ps:FuncId→List EV→DHp→Option (EB×EB×EV×List DHop×List Nat)
 /-- loops that surely panic -/
 lp:DFr→DHp→Option EB
 lc:Code
noncomputable def qO (Z:Hf) (rec:DRec) (m:Nat) (all l:List Oper) (dst:Option Tmp) (op:Op) (F:DFr) (H:DHp) (fs:Facts) (Q:DK):T:=
 match kdOf Z.K.P op with
 | .call=>match Sb F op with
  | some (f,args)=>match Z.ps f args H with
   | some (c,b,v,hs,hp)=>Bz c (Ah fs b (fun fs=>rec m (.ops all l) (K5 F dst v) (Ha H hs) fs Q) (fun _=>.ret pmE (Bd H hp)))
   | none=>Hq Z.K rec m all l dst op F H fs Q
  | none=>.fail
 | _=>Hq Z.K rec m all l dst op F H fs Q
noncomputable def Yp (Z:Hf) (rec:DRec) (m:Nat) (all l:List Oper) (F:DFr) (H:DHp) (fs:Facts) (Q:DK):T:=
 match l with
 | []=>Q .normal F H fs
 | ⟨dst,op,_,_,_,guard⟩::l=>
  Mo fs all guard F (fun F fs=>qO Z rec m all l dst op F H fs Q) (fun F fs=>rec m (.ops all l) (K5 F dst (.tup [])) H fs Q)
noncomputable def Jh (Z:Hf) (n:Nat) (rec:DRec) (m:Nat) (c:Code) (F:DFr) (H:DHp) (fs:Facts) (Q:DK):T:=
 match c with
 | .skip=>Q .normal F H fs
 | .region _ ops draw=>match draw with
  | true=>dx Z.K n m (.dr ops.toList ops.toList []) F H fs Q
  | false=>match panRg ops.toList with
   | some (t,k)=>match Nat.beq t Z.rt&&Nat.blt k F.length with
    | true=>.ret pmE H
    | false=>.fail
   | none=>rec m (.ops ops.toList ops.toList) F H fs Q
 | .seq a b=>rec m (.code a) F H fs (Wc rec m b Q)
 | .cond c x y=>Fm Z.K rec m c x y F H fs Q
 | .block id c=>rec m (.code c) F H fs (Ms id Q)
 | .loop c=>match Nat.ble m Z.K.M with
  | true=>match Z.lp F H with
   | some b=>Bz b (.ret pmE H)
   | none=>.fail
  | false=>.fail
 | .exit id=>Q (.exit id) F H fs
 | .ret=>Q .ret F H fs
 | _=>.fail
noncomputable def Vf (Z:Hf):Nat→DRec
 | 0=>fun _ _ _ _ _ _=>.fail
 | n+1=>fun m wk F H fs Q=>match wk with
  | .ops all l=>Yp Z (Vf Z n) m all l F H fs Q
  | .dr _ _ _=>.fail
  | .code c=>Jh Z n (Vf Z n) m c F H fs Q
noncomputable def Wn (Z:Hf) (fuel n0 m:Nat) (c:Code) (N:Nat) (live:List Nat) (vs:List EV) (H:DHp):T:=
 Vf Z fuel m (.code c) (Vc N live vs) H (f0 n0) (Zn N live)
noncomputable def ppan (Z:Hf) (fuel n0:Nat) (fn:Func) (args:List EV) (H:DHp):T:=
 Vf Z fuel H.length (.code (C3 fn)) (De fn args) H (f0 n0) (Me Z.K.P fn fun _ _ _=>.fail)
def PX (rt:Nat):List PanicEntry:=[{ v:=.iface rt (.agg #[]),recovered:=false }]
def XP (rt:Nat) (Q:Post) (Qp:Hp→Prop) (e:Exit) (F:Fr) (H:Hp):Prop:=(∃ ae,e=Lr ae∧Q ae F H)∨(e=.panic (PX rt)∧Qp H)
def Z5 (C:A1) (m:Nat) (ρ:Env) (w:World) (X:Exit→Fr→Hp→Prop):Exit→Act→World→Prop:=fun e a' w'=>
 ∃ ρ' F' H',X e F' H'∧K3 m ρ ρ'∧B2 C ρ' H' w'∧D0 ρ' F' a'∧Frm ρ w ρ' w'
theorem Z5.link {C:A1} {m:Nat} {ρ0 ρ:Env} {w0 w:World} {X:Exit→Fr→Hp→Prop} (hp:K3 m ρ0 ρ) (hf:Frm ρ0 w0 ρ w) {e:Exit} {a:Act} {w':World} (h:Z5 C m ρ w X e a w'):Z5 C m ρ0 w0 X e a w':=by
 obtain ⟨ρ',F',H',h2,h3,h4,h5,h6⟩:=h;exact ⟨ρ',F',H',h2,hp.trans h3,h4,h5,hf.trans h6⟩
theorem Z5.of {C:A1} {m:Nat} {ρ:Env} {w:World} {rt:Nat} {Q:Post} {Qp:Hp→Prop} {e:Exit} {a:Act} {w':World} (h:AP C m ρ w Q e a w'):Z5 C m ρ w (XP rt Q Qp) e a w':=by
 obtain ⟨ae,ρ',F',H',h1,h2,h3⟩:=h;exact ⟨ρ',F',H',.inl ⟨ae,h1,h2⟩,h3⟩
def ACallsX (C:A1) (rt:Nat) (f:FuncId) (args:List AV) (H:Hp) (K:AV→Hp→Prop) (Kp:Hp→Prop):Prop:=
 Qj C.P f∧∀ (ρ:Env) (w:World) (cargs:List Value),B2 C ρ H w→VRs ρ args cargs→
  Calls C.P f cargs.toArray w fun e w'=>(∃ v cv ρ' H',e=.returned cv∧K v H'∧ρ.le ρ'∧B2 C ρ' H' w'∧VR ρ' v cv∧Frm ρ w ρ' w')∨(e=.panicked (PX rt)∧∃ ρ' H',Kp H'∧ρ.le ρ'∧B2 C ρ' H' w'∧Frm ρ w ρ' w')
theorem aA {C:A1} {ρ ρ':Env} {H H':Hp} {w w' w'':World} {ds:List Nat} {m:Nat} (hH:B2 C ρ H w) (hm:H.length≤m) (hp:K3 m ⟨ρ.rw,ρ.ro,[]⟩ ρ') (hH':B2 C ρ' H' w') (hfr:Frm ⟨ρ.rw,ρ.ro,[]⟩ w ρ' w') (hD:∀ D∈ds,D∈ρ'.dfs)
  (hs:w''.heap.size=w'.heap.size) (hk:∀ k,k ∉ ds→w''.heap[k]?=w'.heap[k]?) (ho2:w''.os=w'.os) (ht:w''.tape=w'.tape) (hou:w''.output=w'.output) :
  B2 C ⟨ρ'.rw,ρ'.ro,ρ.dfs⟩ H' w''∧ρ.le ⟨ρ'.rw,ρ'.ro,ρ.dfs⟩∧Frm ρ w ⟨ρ'.rw,ρ'.ro,ρ.dfs⟩ w'':=by
 have fresh:∀ D∈ds,w.heap.size≤D:=fun D h=>by
  rcases hfr.mkn D (hD D h) with h1 | h1
  ·simp at h1
  ·exact h1
 refine ⟨?_,?_,?_⟩
 ·refine ⟨hH'.len,by rw [hs];exact hH'.base,fun i e he=>by rw [hs];exact hH'.ents i e he,fun i b hb=>(hH'.live i b hb).sub (Env.sub_dfs ρ' ρ.dfs) fun e he=>hk e.blk fun hin=>(hH'.df _ (hD _ hin)).2.1 i e he rfl,hH'.inj,fun i b d hr=>?_,fun D hDD=>⟨?_,fun i e he=>?_,fun i d hr=>?_⟩⟩
  ·obtain ⟨g1,g2,g3⟩:=hH'.ro i b d hr;refine ⟨by rw [hs];exact g1,g2,fun k v hv=>?_⟩;obtain ⟨cv,g4,g5⟩:=g3 k v hv;refine ⟨cv,?_,g5⟩;rw [World.cell?_of_block (w:=w') (hk b fun hin=>(hH'.df b (hD b hin)).2.2 i d hr)];exact g4
  ·have hlt:=hH.df_lt hDD;rw [hk D fun hin=>by have:=fresh D hin;omega,hfr.keep D hlt (.inr (hH.df D hDD).2.1)];exact (hH.df D hDD).1
  ·have hlt:=hH.df_lt hDD;rcases hfr.news i e he with ⟨j,e',hj,hje⟩ | hge
   ·rw [←hje];exact (hH.df D hDD).2.1 j e' hj
   ·omega
  ·have hlt:=hH.df_lt hDD;rcases hfr.newro i D d hr with h1 | ⟨j,e,he,heb⟩ | h1
   ·exact (hH.df D hDD).2.2 i d h1
   ·exact (hH.df D hDD).2.1 j e he heb
   ·omega
 ·exact ⟨fun i x hx=>by
   have hlt:i<ρ.rw.length:=(zP.1 hx).1;show ρ'.rw[i]?=_
   rw [hp i (by rw [hH.len] at hlt;omega)];exact hx,hfr.ro,fun _ h=>h⟩
 ·exact ⟨ho2.trans hfr.os,ht.trans hfr.tape,hou.trans hfr.output,by rw [hs];exact hfr.size,
   fun b hb hn=>(hk b fun hin=>by have:=fresh b hin;omega).trans (hfr.keep b hb hn),hfr.news,hfr.ro,hfr.newro,fun _ h=>.inl h⟩
theorem cH {C : A1} {rt : Nat} {f : FuncId} {fn : Func} {c : Code} {args : List AV} {H : Hp} {K : AV → Hp → Prop} {Kp : Hp → Prop} (hf : C.P.funcs[f]? = some fn) (hb : fn.body = some c) (hn : (fn.name == "runtime.NumGoroutine") = false)
  (h:∀ (ρ:Env) (a:Act) (w:World),B2 C ρ H w→D0 ρ (K7 fn args) a→c.wpIn (W none) 0 C.P (Z5 C H.length ρ w (XP rt (L1 C fn K) Kp)) a w):ACallsX C rt f args H K Kp:=by
 refine ⟨⟨fn,c,hf,hb,hn⟩,fun ρ w cargs hH hv=>callsIn_wide.1 (callsIn_of_wp_marks (n:=0) hf hb trivial (wpIn_mono (h ⟨ρ.rw,ρ.ro,[]⟩ _ w (hH.setDfs [] (fun _ h=>by simp at h)) (Kv (VRs.sub (Env.sub_dfs ρ []) _ _ hv))) ?_))⟩;rintro e a' w' ⟨ρ',F',H',hX,hp,hH',hF',hfr⟩;obtain ⟨ds,hds,hnd,hD⟩:=hF'.nod;rcases hX with ⟨ae,rfl,hQ⟩ | ⟨rfl,hQ⟩
 ·have fin:Sp (Kb C fn F' H') (fun v=>K v H')→LeavesInM Fence.wide 0 C.P fn a'.tmps (fun e w'=>(∃ v cv ρ' H',e=.returned cv∧K v H'∧ρ.le ρ'∧B2 C ρ' H' w'∧VR ρ' v cv∧Frm ρ w ρ' w')∨(e=.panicked (PX rt)∧∃ ρ' H',Kp H'∧ρ.le ρ'∧B2 C ρ' H' w'∧Frm ρ w ρ' w')) a'.defers .returning w':=by
   intro ho;rw [hds];refine Ml ds w' hnd (fun D h=>(hH'.df D (hD D h)).1) fun w'' hs hk ho2 ht hou=>?_;obtain ⟨v,h1,h2⟩:=S3 ho;obtain ⟨q1,q2,q3⟩:=aA hH (zA7 _) hp hH' hfr hD hs hk ho2 ht hou;have hF'':D0 ⟨ρ'.rw,ρ'.ro,ρ.dfs⟩ F' ⟨a'.tmps,[]⟩:=⟨⟨[],rfl,List.nodup_nil,fun _ h=>by simp at h⟩,hF'.len,fun i v hv=>VR.sub (Env.sub_dfs ρ' ρ.dfs) v _ (hF'.val i v hv)⟩;obtain ⟨cv,g1,g2⟩:=Bm q1 hF'' h1;exact ⟨cv,g1,.inl ⟨v,cv,_,H',rfl,h2,q2,q1,g2,q3⟩⟩
  cases ae with
  | normal=>exact fin hQ
  | ret=>exact fin hQ
  | exit i=>exact hQ.elim
 ·show LeavesInM Fence.wide 0 C.P fn a'.tmps _ a'.defers (.panicking (PX rt)) w';rw [hds,←List.append_nil (ds.map _)];refine Gt (by simp) ds w' hnd (fun D h=>(hH'.df D (hD D h)).1) fun w'' hs hk ho2 ht hou=>?_;obtain ⟨q1,q2,q3⟩:=aA hH (zA7 _) hp hH' hfr hD hs hk ho2 ht hou;exact .inr ⟨rfl,_,H',hQ,q2,q1,q3⟩
def Dp (S:List Nat) (d:Option Tmp):Bool:=match d with | none=>true | some t=>!(S.any (Nat.beq t))
def aD8 (P:Program) (rt k:Nat) (ops:List Oper):Prop:=∀ (r:Option Nat) (Q:Exit→Act→World→Prop) (a:Act) (w:World),k<a.tmps.size→∀ S:List Nat,(ops.all fun o=>Dp S o.dst)=true→(∀ a':Act,a'.defers=a.defers→a'.tmps.size=a.tmps.size→(∀ t∈S,a'.tmps.getD t undef=a.tmps.getD t undef)→Q (.panic (PX rt)) a' w)→wpListIn (W r) 0 P ops.toArray Q ops a w
def pA (C:A1) (rt:Nat) (f:FuncId) (args:List EV) (H:DHp) (l:List Nat):Prop:=
 ACallsX C rt f (vVs C.G args) (B8 C.G H) (fun _ _=>False) fun H'=>H'=Bd (B8 C.G H) l
theorem gE {G:Nat→List AV}:∀ (l:List Nat) (H:DHp),B8 G (Bd H l)=Bd (B8 G H) l
 | [],H=>rfl
 | j::l,H=>by
  show B8 G (Bd (H.set j none) l)=Bd ((B8 G H).set j none) l;rw [gE l];congr 1;simp [B8,List.map_set]
structure Xv (C:A1) (Z:Hf):Prop where
 g:DGood C Z.K []
 ps:∀ f args H c b v hs hp,Z.ps f args H=some (c,b,v,hs,hp)→vB C.G c=true→(vB C.G b=true→E1 C f args H v hs)∧(vB C.G b=false→pA C Z.rt f args H hp)
 lp:∀ F H b,Z.lp F H=some b→vB C.G b=true→∀ (m:Nat) (ρ:Env) (a:Act) (w:World),m≤Z.K.M→m≤(B8 C.G H).length→B2 C ρ (B8 C.G H) w→D0 ρ (vVs C.G F) a→(Code.loop Z.lc).wpIn (W none) 0 C.P (Z5 C m ρ w (XP Z.rt (fun _ _ _=>False) fun _=>True)) a w
 pan:∀ ops k,panRg ops=some (Z.rt,k)→aD8 C.P Z.rt k ops
def Nw (S:List Nat) (a1 a:Act):Prop:=∀ t∈S,a.tmps.getD t undef=a1.tmps.getD t undef
def Ls (T:List Deferred) (S:List Nat) (a1:Act) (Q:Exit→Act→World→Prop):Exit→Act→World→Prop:=fun e a w=>∃ a0,a=tl T a0∧Nw S a1 a0∧Q e a0 w
theorem Rn {S:List Nat} {a1 a:Act} {d:Option Tmp} {v:Value} (h:Nw S a1 a) (hd:Dp S d=true):Nw S a1 (a.put d v):=by
 cases d with
 | none=>exact h
 | some d=>
  intro t ht;rw [←h t ht]
  have hne:d≠t:=fun e=>by
   subst e;simp only [Dp,Bool.not_eq_true',List.any_eq_false] at hd;exact hd d ht (zA9 d)
  simp only [Act.put,Array.getD_eq_getD_getElem?];rw [Array.getElem?_setIfInBounds_ne hne]
def Gq (S:List Nat):jB→Bool
 | .ops _ l=>l.all fun o=>Dp S o.dst
 | .dr _ _ _=>true
 | .code c=>okC S c
where okC (S:List Nat):Code→Bool
 | .region _ ops draw=>S.isEmpty||(!draw&&ops.toList.all fun o=>Dp S o.dst)
 | .seq x y=>okC S x&&okC S y
 | .cond _ x y=>okC S x&&okC S y
 | .block _ c=>okC S c
 | _=>true
def LpZ (Z:Hf):jB→Prop
 | .code c=>∀ b∈loopsOf c,b=Z.lc
 | _=>True
def SndP (C:A1) (rt:Nat) (r:Option Nat) (T:List Deferred) (S:List Nat) (m:Nat) (wk:jB) (F:Fr) (H:Hp) (Q:Post) (Qp:Hp→Prop):Prop:=
 match wk with
 | .code c=>∀ (ρ:Env) (a:Act) (w:World),m≤H.length→B2 C ρ H w→D0 ρ F a→c.wpIn (W r) 0 C.P (Ls T S a (Z5 C m ρ w (XP rt Q Qp))) (tl T a) w
 | .ops all l=>∀ (a1:Act) (ρ:Env) (a:Act) (w:World),Nw S a1 a→m≤H.length→B2 C ρ H w→D0 ρ F a→wpListIn (W r) 0 C.P all.toArray (Ls T S a1 (Z5 C m ρ w (XP rt Q Qp))) l (tl T a) w
 | .dr _ _ _=>True
theorem iA (d:Option Tmp):Dp [] d=true:=by cases d<;>rfl
theorem aL8 (c:Code):Gq.okC [] c=true:=by
 induction c<;>simp_all [Gq.okC]
theorem Ua (c:Code):Gq [] (.code c)=true:=aL8 c
theorem Jg (a:Act):tl [] a=a:=by cases a;simp [tl]
theorem As {C:A1} {r:Option Nat} {lps:List Code} (g0:Ee (K0 C) lps) {T:List Deferred} {S:List Nat} {all:List Oper} {o:Oper} {l:List Oper} {F:Fr} {H H':Hp} {tr:Tr} {v:AV} {m:Nat} {X:Exit→Fr→Hp→Prop} (hd:Dp S o.dst=true) (hst:St (K0 C) all o F H tr v H')
  (hr:∀ (a1:Act) (ρ:Env) (a:Act) (w:World),Nw S a1 a→m≤H'.length→B2 C ρ H' w→D0 ρ (put F o.dst v) a→wpListIn (W r) 0 C.P all.toArray (Ls T S a1 (Z5 C m ρ w X)) l (tl T a) w) :
  ∀ (a1:Act) (ρ:Env) (a:Act) (w:World),Nw S a1 a→m≤H.length→B2 C ρ H w→D0 ρ F a→wpListIn (W r) 0 C.P all.toArray (Ls T S a1 (Z5 C m ρ w X)) (o::l) (tl T a) w:=by
 intro a1 ρ a w hkp hm hH hF
 have key:=St.sound g0 hst hH hF (r:=r) (next:=fun a' w'=>wpListIn (W r) 0 C.P all.toArray (Ls T S a1 (Z5 C m ρ w X)) l (tl T a') w') (Q:=fun e a' w'=>Ls T S a1 (Z5 C m ρ w X) e (tl T a') w') (fun ρ' cv w' h1 h2 h3 h4=>by
  have hp:=K3.of_le hH h3 hm
  exact N8 (fun e a w ⟨a0,e0,e1,h⟩=>⟨a0,e0,e1,Z5.link hp h4 h⟩) l _ _ (hr a1 ρ' _ w' (Rn hkp hd) (S2 hm hH h1 hp) h1 ((hF.mono h3).put _ _ _ h2)))
 unfold wpListIn;by_cases hw:Region.wanted o (yielded all.toArray a.tmps)=true
 ·rw [if_pos hw] at key;rw [if_pos (show Region.wanted o (yielded all.toArray (tl T a).tmps)=true from hw)];exact Oper.wpIn_tail T (fun _ _ h=>h) (fun _ _ _ h=>h) key
 ·rw [if_neg hw] at key;rw [if_neg (show ¬Region.wanted o (yielded all.toArray (tl T a).tmps)=true from hw)];refine ⟨key.1,?_⟩;rw [Pe];exact key.2
theorem Sa {C:A1} {r:Option Nat} {rt:Nat} {T:List Deferred} {S:List Nat} {all:List Oper} {o:Oper} {l:List Oper} {F:Fr} {H:Hp} {m:Nat} {Q:Post} {Qp:Hp→Prop} {f:FuncId} {args:List AV} {K:AV→Hp→Prop} {Kp:Hp→Prop} (hd:Dp S o.dst=true) (hw:wantA all o.guard F=some true) (hc:callOp F o.op=some (f,args)) (hcall:ACallsX C rt f args H K Kp)
  (hp:∀ H',Kp H'→Qp H') (hr:∀ v H',K v H'→∀ (a1:Act) (ρ:Env) (a:Act) (w:World),Nw S a1 a→m≤H'.length→B2 C ρ H' w→D0 ρ (put F o.dst v) a→wpListIn (W r) 0 C.P all.toArray (Ls T S a1 (Z5 C m ρ w (XP rt Q Qp))) l (tl T a) w) :
  ∀ (a1:Act) (ρ:Env) (a:Act) (w:World),Nw S a1 a→m≤H.length→B2 C ρ H w→D0 ρ F a→wpListIn (W r) 0 C.P all.toArray (Ls T S a1 (Z5 C m ρ w (XP rt Q Qp))) (o::l) (tl T a) w:=by
 intro a1 ρ a w hkp hm hH hF;unfold wpListIn;rw [if_pos (show Region.wanted o (yielded all.toArray (tl T a).tmps)=true from S8 hF hw)];obtain ⟨cargs,hv,h1⟩:=Jc (w:=w) hF hc hcall.1;refine U1 (Wu hc) ?_;rw [qI,h1];refine ⟨fun h=>by simp [W,Fence.wide] at h,Jt.2 ((hcall.2 ρ w cargs hH hv).mono ?_)⟩;rintro e w' (⟨v,cv,ρ',H',rfl,g1,g2,g3,g4,g5⟩ | ⟨rfl,ρ',H',g1,g2,g3,g5⟩)
 ·have hpn:=K3.of_le hH g2 hm;show wpListIn _ _ _ _ _ l ((tl T a).put o.dst cv) w';rw [Pe];exact N8 (fun e a w ⟨a0,e0,e1,h⟩=>⟨a0,e0,e1,Z5.link hpn g5 h⟩) l _ _ (hr v H' g1 a1 ρ' _ w' (Rn hkp hd) (S2 hm hH g3 hpn) g3 ((hF.mono g2).put _ _ _ g4))
 ·exact ⟨a,rfl,hkp,ρ',F,H',.inr ⟨rfl,hp _ g1⟩,K3.of_le hH g2 hm,g3,hF.mono g2,g5⟩
theorem ACallsX.of {C:A1} {rt:Nat} {f:FuncId} {args:List AV} {H:Hp} {K:AV→Hp→Prop} {Kp:Hp→Prop} (h:ACalls C f args H K):ACallsX C rt f args H K Kp:=
 ⟨h.1,fun ρ w cargs h1 h2=>(h.2 ρ w cargs h1 h2).mono fun _ _ h=>.inl h⟩
theorem iO {C:A1} {Z:Hf} (hZ:Xv C Z):∀ n (r:Option Nat) (T:List Deferred) (S:List Nat) m wk F H fs q (Q:Post) (Qp:Hp→Prop) (QQ:Ex→List AV→Hp→Prop) (RR:AV→Hp→Prop),
    (∀ e F H fs,vT C.G QQ RR (q e F H fs)→Q e (vVs C.G F) (B8 C.G H))→(∀ H,RR pmV H→Qp H)→((∀ F H,Z.lp F H=none)∨(r=none∧T=[]∧S=[]∧(∀ H,Qp H)∧LpZ Z wk))→Gq S wk=true→vT C.G QQ RR (Vf Z n m wk F H fs q)→SndP C Z.rt r T S m wk (vVs C.G F) (B8 C.G H) Q Qp:=by
  have hK:=hZ.g;have hG:C.G=C.G:=rfl;have hP:=hK.hP;intro n
  induction n with
  | zero => intro r T S m wk F H fs q Q Qp QQ RR _ _ _ _ h; exact h.elim
  | succ n ih=>
    intro r T S m wk F H fs q Q Qp QQ RR hq hR hL hS h;have g0:=Fz (C:=C) hK.mix [];cases wk with
    | dr all l trs => trivial
    | ops all l=>
      have hLo:∀ l',(∀ F H,Z.lp F H=none)∨(r=none∧T=[]∧S=[]∧(∀ H,Qp H)∧LpZ Z (.ops all l')):=fun _=>hL.imp (fun h=>h) fun h=>⟨h.1,h.2.1,h.2.2.1,h.2.2.2.1,trivial⟩;change vT C.G QQ RR (Yp Z (Vf Z n) m all l F H fs q) at h;cases l with
      | nil=>exact fun a1 ρ a w hkp hm hH hF=>⟨a,rfl,hkp,ρ,_,_,.inl ⟨.normal,rfl,hq _ _ _ _ h⟩,K3.refl m ρ,hH,hF,Frm.refl ρ w⟩
      | cons o l=>
        obtain ⟨dst,op,ty,pos,after,guard⟩:=o;have hS':Dp S dst=true∧Gq S (.ops all l)=true:=by simpa only [Gq,List.all_cons,zO] using hS
        obtain ⟨hd,hSl⟩:=hS';simp only [Yp] at h;obtain ⟨F',fs',hFe,_,h⟩:=Zk h;rw [← hFe];rw [← hFe] at h
        have plain:wantA all guard (vVs C.G F')=some true→vT C.G QQ RR (Hq Z.K (Vf Z n) m all l dst op F' H fs' q)→SndP C Z.rt r T S m (.ops all (⟨dst,op,ty,pos,after,guard⟩::l)) (vVs C.G F') (B8 C.G H) Q Qp:=by
          intro hw h;unfold Hq at h;rw [hP] at h;split at h
          · rename_i hk;obtain ⟨c,v,h1,h2,h3⟩:=Cl h
            have:=ih r T S m (.ops all l) _ _ _ _ _ _ _ _ hq hR (hLo l) hSl h3
            rw [M8] at this;exact As g0 (o:=⟨dst,op,ty,pos,after,guard⟩) hd (.pure hw hk (dM _ _ h1 h2)) this
          · rename_i hk;split at h
            · rename_i o ho;obtain ⟨fs2,v,h1,h3⟩:=fA hG (o:=o) ho h
              have:=ih r T S m (.ops all l) _ _ _ _ _ _ _ _ hq hR (hLo l) hSl h3
              rw [M8] at this;exact As g0 (o:=⟨dst,op,ty,pos,after,guard⟩) hd (.read hw hk h1) this
            · obtain ⟨c,v,h1,h2,h3⟩:=Cl h
              have:=ih r T S m (.ops all l) _ _ _ _ _ _ _ _ hq hR (hLo l) hSl h3
              rw [M8] at this;exact As g0 (o:=⟨dst,op,ty,pos,after,guard⟩) hd (.read hw hk (dG hG _ _ h1 h2)) this
          · rename_i hk;split at h
            · rename_i c v x hx;obtain ⟨h2,h3⟩:=Q9 c h
              have:=ih r T S m (.ops all l) _ _ _ _ _ _ _ _ hq hR (hLo l) hSl h3
              rw [M8,Qo] at this;exact As g0 (o:=⟨dst,op,ty,pos,after,guard⟩) hd (.write hw hk (Yk hG _ _ _ hx h2)) this
            · split at h
              · rename_i c hs hx;obtain ⟨h2,h3⟩:=Q9 c h;obtain ⟨hp,e1,e2⟩:=fZ hG hx h2
                have:=ih r T S m (.ops all l) _ _ _ _ _ _ _ _ hq hR (hLo l) hSl h3
                rw [M8,W0,←e2] at this;simp only [vV,vVs] at this;exact As g0 (o:=⟨dst,op,ty,pos,after,guard⟩) hd (.write hw hk e1) this
              · exact h.elim
          · rename_i hk;split at h
            · rename_i f args hc;have hc:=Xp (G:=C.G) hc;split at h
              · rename_i hi;split at h
                · rename_i fn hfn;split at h
                  · rename_i c hb;split at h
                    · exact h.elim
                    · rename_i hnm
                      have hbody:=ih none [] [] H.length (.code c) (De fn args) H fs' _ (L1 C fn fun v' H'=>∃ v H1 fs,v'=vV C.G v∧H'=B8 C.G H1∧vT C.G QQ RR (Vf Z n m (.ops all l) (K5 F' dst v) H1 fs q)) Qp QQ RR (fun e F1 H1 fs1 ht=>by
                        unfold Me at ht;split at ht
                        · exact ht.elim
                        · rename_i hne;obtain ⟨cc,v,q1,q2,q3⟩:=Cl ht;have e1:=aM hG _ _ q1 q2;cases e with
                          | exit i=>exact absurd rfl (hne i)
                          | normal=>simp only [L1];rw [e1];exact ⟨v,H1,fs1,rfl,rfl,q3⟩
                          | ret=>simp only [L1];rw [e1];exact ⟨v,H1,fs1,rfl,rfl,q3⟩) hR (hL.imp (fun h=>h) fun h=>⟨rfl,rfl,rfl,h.2.2.2.1,fun b hb'=>by have:=hK.inl f fn c hi hfn hb b hb';cases this⟩) (Ua _) h
                      rw [Mp] at hbody;rw [←E2 (G:=C.G) H] at hbody
                      have hcall:=cH (rt:=Z.rt) (f:=f) (C:=C) (fn:=fn) (Kp:=Qp) (K:=fun v' H'=>∃ v H1 fs,v'=vV C.G v∧H'=B8 C.G H1∧vT C.G QQ RR (Vf Z n m (.ops all l) (K5 F' dst v) H1 fs q)) hfn hb hnm (fun ρ a w hH hF=>by
                        have:=hbody ρ a w (zA7 _) hH hF
                        rw [Jg] at this;refine Code.wpIn_mono ?_ this;rintro e _ w' ⟨a0,rfl,_,h⟩
                        rw [Jg];exact h)
                      refine Sa (o:=⟨dst,op,ty,pos,after,guard⟩) hd hw hc hcall (fun _ h=>h) ?_;rintro v' H' ⟨v,H1,fs1,rfl,rfl,g1⟩
                      have:=ih r T S m (.ops all l) _ _ _ _ _ _ _ _ hq hR (hLo l) hSl g1
                      rw [M8] at this;exact this
                  · exact h.elim
                · exact h.elim
              · split at h
                · rename_i o ho;obtain ⟨fs1,v,hs,h1,h2⟩:=W1 o fs' h (hK.calls _ _ _ _ ho)
                  have:=ih r T S m (.ops all l) _ _ _ _ _ _ _ _ hq hR (hLo l) hSl h2
                  rw [M8,W0] at this;exact As g0 (o:=⟨dst,op,ty,pos,after,guard⟩) hd (.call hw hk hc h1) this
                · exact h.elim
            · split at h
              · rename_i i args hy;have hy:=kO (G:=C.G) hy;split at h
                · rename_i o ho;obtain ⟨fs1,v,hs,h1,h2⟩:=W1 o fs' h (hK.ylds _ _ _ _ ho)
                  have:=ih r T S m (.ops all l) _ _ _ _ _ _ _ _ hq hR (hLo l) hSl h2
                  rw [M8,W0] at this;exact As g0 (o:=⟨dst,op,ty,pos,after,guard⟩) hd (.yld hw hy h1) this
                · exact h.elim
              · exact h.elim
        rcases h with ⟨hw,h⟩ | ⟨hw,h⟩
        · unfold qO at h;split at h
          · split at h
            · rename_i f args hc;split at h
              · rename_i c b v hs hp hps;have hc:=Xp (G:=C.G) hc;obtain ⟨h1,h2⟩:=Q9 c h;obtain ⟨k1,k2⟩:=hZ.ps _ _ _ _ _ _ _ _ hps h1;rcases T4 b fs' _ _ h2 with ⟨e1,fs1,_,h3⟩ | ⟨e1,fs1,_,h3⟩
                · have:=ih r T S m (.ops all l) _ _ _ _ _ _ _ _ hq hR (hLo l) hSl h3
                  rw [M8,W0] at this;refine Sa (o:=⟨dst,op,ty,pos,after,guard⟩) (Kp:=fun _=>False) hd hw hc (ACallsX.of (k1 e1)) (fun _ h=>h.elim) ?_;rintro v' H' ⟨rfl,rfl⟩;exact this
                · have h3:RR pmV (B8 C.G (Bd H hp)):=h3;rw [gE] at h3;exact Sa (o:=⟨dst,op,ty,pos,after,guard⟩) hd hw hc (k2 e1) (fun H' e=>by rw [e];exact hR _ h3) (fun _ _ h=>h.elim)
              · exact plain hw h
            · exact h.elim
          · exact plain hw h
        · have:=ih r T S m (.ops all l) _ _ _ _ _ _ _ _ hq hR (hLo l) hSl h
          rw [M8] at this;simp only [vV,vVs] at this;exact As g0 (o:=⟨dst,op,ty,pos,after,guard⟩) hd (.skip hw) this
    | code c=>
      change vT C.G QQ RR (Jh Z n (Vf Z n) m c F H fs q) at h;intro ρ a w hm hH hF;have here:∀ ae,Q ae (vVs C.G F) (B8 C.G H)→Ls T S a (Z5 C m ρ w (XP Z.rt Q Qp)) (Lr ae) (tl T a) w:=fun ae hq=>⟨a,rfl,fun _ _=>rfl,ρ,_,_,.inl ⟨ae,rfl,hq⟩,K3.refl m ρ,hH,hF,Frm.refl ρ w⟩;cases c with
      | skip => exact wpIn_skip (here .normal (hq _ _ _ _ h))
      | region id ops draw=>
        cases draw with
        | true=>
          have hnil:S=[]:=by
            have:(S.isEmpty||(!true&&ops.toList.all fun o=>Dp S o.dst))=true:=hS
            simpa using this
          obtain ⟨trs',F',H',g1,g2,g3⟩:=Il hK n m (.dr ops.toList ops.toList []) F H fs q Q QQ RR hq trivial h
          have:=iP (id:=id) (r:=r) (Q:=AP C m ρ w Q) (Q':=Ls T S a (Z5 C m ρ w (XP Z.rt Q Qp))) (lps:=[]) g0 T g1 (by simpa using g2) hH hF (fun e a' w h=>⟨a',rfl,(by rw [hnil];intro t ht;cases ht),Z5.of h⟩) fun ρ' a' w' q1 q2 q3 q4=>⟨.normal,ρ',F',H',rfl,g3,K3.of_le hH q3 hm,q1,q2,q4⟩
          rwa [Array.toArray_toList] at this
        | false=>
          simp only [Jh] at h;split at h
          · rename_i t k hp;split at h
            · rename_i ht;obtain ⟨ht,hk⟩:=Bool.and_eq_true_iff.1 ht;have ht:=rG ht;subst ht
              have hk:k<(tl T a).tmps.size:=by
                have e1:=hF.len;rw [O7] at e1;have e2:k+1≤F.length:=by simpa [Nat.blt] using hk
                show k<a.tmps.size;omega
              have h:RR pmV (B8 C.G H):=h;refine wpIn_region_list ?_
              have:=hZ.pan _ _ hp r (Ls T S a (Z5 C m ρ w (XP Z.rt Q Qp))) (tl T a) w hk S (by
                rcases Bool.or_eq_true_iff.1 (show (S.isEmpty||(!false&&ops.toList.all fun o=>Dp S o.dst))=true from hS) with h1 | h1
                · have:S=[]:=by simpa using h1
                  subst this;exact qD.2 fun o _=>iA _
                · simpa only [Bool.not_false,Bool.true_and] using h1) (fun a' e1 e2 e3=>by
                refine ⟨⟨a'.tmps,a.defers⟩,?_,e3,ρ,List.replicate a'.tmps.size .undef,_,.inr ⟨rfl,hR _ h⟩,K3.refl m ρ,hH,?_,Frm.refl ρ w⟩
                · cases a';simp only [tl] at e1 ⊢;rw [e1]
                · refine ⟨hF.nod,by simp,fun i v hi=>?_⟩;simp only [List.getElem?_replicate] at hi;split at hi
                  · simp at hi;subst hi;simp [VR]
                  · simp at hi)
              rwa [Array.toArray_toList] at this
            · exact h.elim
          · have:=ih r T S m (.ops ops.toList ops.toList) F H fs q Q Qp QQ RR hq hR (hL.imp (fun h=>h) fun h=>⟨h.1,h.2.1,h.2.2.1,h.2.2.2.1,trivial⟩) (by
              rcases Bool.or_eq_true_iff.1 (show (S.isEmpty||(!false&&ops.toList.all fun o=>Dp S o.dst))=true from hS) with h1 | h1
              · have:S=[]:=by simpa using h1
                subst this;exact qD.2 fun o _=>iA _
              · exact (show (ops.toList.all fun o=>Dp S o.dst)=true by simpa only [Bool.not_false,Bool.true_and] using h1)) h a ρ a w (fun _ _=>rfl) hm hH hF
            rw [Array.toArray_toList] at this;exact wpIn_region_list this
      | seq x y=>
        have hLx:=hL.imp (fun h=>h) fun h:r=none∧T=[]∧S=[]∧(∀ H,Qp H)∧LpZ Z (.code (Code.seq x y))=>(⟨h.1,h.2.1,h.2.2.1,h.2.2.2.1,fun b hb=>h.2.2.2.2 b (List.mem_append.2 (.inl hb))⟩:r=none∧T=[]∧S=[]∧(∀ H,Qp H)∧LpZ Z (.code x));have hLy:=hL.imp (fun h=>h) fun h:r=none∧T=[]∧S=[]∧(∀ H,Qp H)∧LpZ Z (.code (Code.seq x y))=>(⟨h.1,h.2.1,h.2.2.1,h.2.2.2.1,fun b hb=>h.2.2.2.2 b (List.mem_append.2 (.inr hb))⟩:r=none∧T=[]∧S=[]∧(∀ H,Qp H)∧LpZ Z (.code y));obtain ⟨hSx,hSy⟩:=Bool.and_eq_true_iff.1 (show (Gq.okC S x&&Gq.okC S y)=true from hS)
        have key:=ih r T S m (.code x) F H fs (Wc (Vf Z n) m y q) (fun e F1 H1=>match e with
          | .normal=>∀ ρ' a' w',m≤H1.length→B2 C ρ' H1 w'→D0 ρ' F1 a'→y.wpIn (W r) 0 C.P (Ls T S a' (Z5 C m ρ' w' (XP Z.rt Q Qp))) (tl T a') w'
          | e=>Q e F1 H1) Qp QQ RR (fun e F1 H1 fs1 ht=>by
            cases e with
            | normal=>exact fun ρ' a' w' q1 q2 q3=>ih r T S m (.code y) F1 H1 fs1 q Q Qp QQ RR hq hR hLy hSy ht ρ' a' w' q1 q2 q3
            | exit i=>exact hq _ _ _ _ ht
            | ret=>exact hq _ _ _ _ ht) hR hLx hSx h ρ a w hm hH hF
        refine wpIn_seq (Code.wpIn_mono ?_ key);rintro e _ w' ⟨a',rfl,hkp,ρ',F',H',hX,h3,h4,h5,h6⟩;rcases hX with ⟨ae,rfl,h2⟩ | ⟨rfl,h2⟩
        · cases ae with
          | normal=>exact Code.wpIn_mono (fun e a w ⟨a0,e0,e1,h⟩=>⟨a0,e0,fun t ht=>(e1 t ht).trans (hkp t ht),Z5.link h3 h6 h⟩) (h2 ρ' a' w' (S2 hm hH h4 h3) h4 h5)
          | exit i=>exact ⟨a',rfl,hkp,ρ',F',H',.inl ⟨.exit i,rfl,h2⟩,h3,h4,h5,h6⟩
          | ret=>exact ⟨a',rfl,hkp,ρ',F',H',.inl ⟨.ret,rfl,h2⟩,h3,h4,h5,h6⟩
        · exact ⟨a',rfl,hkp,ρ',F',H',.inr ⟨rfl,h2⟩,h3,h4,h5,h6⟩
      | cond c x y=>
        have hLx:=hL.imp (fun h=>h) fun h:r=none∧T=[]∧S=[]∧(∀ H,Qp H)∧LpZ Z (.code (Code.cond c x y))=>(⟨h.1,h.2.1,h.2.2.1,h.2.2.2.1,fun b hb=>h.2.2.2.2 b (List.mem_append.2 (.inl hb))⟩:r=none∧T=[]∧S=[]∧(∀ H,Qp H)∧LpZ Z (.code x));have hLy:=hL.imp (fun h=>h) fun h:r=none∧T=[]∧S=[]∧(∀ H,Qp H)∧LpZ Z (.code (Code.cond c x y))=>(⟨h.1,h.2.1,h.2.2.1,h.2.2.2.1,fun b hb=>h.2.2.2.2 b (List.mem_append.2 (.inr hb))⟩:r=none∧T=[]∧S=[]∧(∀ H,Qp H)∧LpZ Z (.code y));obtain ⟨hSx,hSy⟩:=Bool.and_eq_true_iff.1 (show (Gq.okC S x&&Gq.okC S y)=true from hS);simp only [Jh,Fm] at h;split at h
        · rename_i t;rw [Db] at h;split at h
          · rename_i b hb;have hv:=hF.at t;rw [U2,hb] at hv;simp only [vV,VR] at hv
            have hs:∀ x:Bool,vB C.G b=x→vVs C.G (K5 F (some t) (.bool (.lit x)))=vVs C.G F:=fun x hx=>by
              rw [M8];simp only [put,vV,vB];refine U5 ?_ (by simp);rw [U2,hb];simp only [vV,hx]
            rcases T4 b fs _ _ h with ⟨h1,fs1,_,h2⟩ | ⟨h1,fs1,_,h2⟩
            · rw [h1] at hv
              have:=ih r T S m (.code x) _ H fs1 q Q Qp QQ RR hq hR hLx hSx h2 ρ a w hm hH
              rw [hs _ h1] at this;exact wpIn_cond_true hv (this hF)
            · rw [h1] at hv
              have:=ih r T S m (.code y) _ H fs1 q Q Qp QQ RR hq hR hLy hSy h2 ρ a w hm hH
              rw [hs _ h1] at this;exact wpIn_cond_false hv (this hF)
          · exact h.elim
        · rename_i b;cases b with
          | true=>exact wpIn_cond_true rfl (ih r T S m (.code x) F H fs q Q Qp QQ RR hq hR hLx hSx h ρ a w hm hH hF)
          | false=>exact wpIn_cond_false rfl (ih r T S m (.code y) F H fs q Q Qp QQ RR hq hR hLy hSy h ρ a w hm hH hF)
        · exact h.elim
      | block id c=>
        have key:=ih r T S m (.code c) F H fs (Ms id q) (Z3 id Q) Qp QQ RR (fun e F1 H1 fs1 ht=>by
          cases e with
          | normal=>exact hq _ _ _ _ ht
          | ret=>exact hq _ _ _ _ ht
          | exit i=>
            simp only [Ms] at ht;simp only [Z3];cases hb:(i==id) with
            | true=>rw [hb] at ht;exact hq _ _ _ _ ht
            | false=>rw [hb] at ht;exact hq _ _ _ _ ht) hR (hL.imp (fun h=>h) fun h=>⟨h.1,h.2.1,h.2.2.1,h.2.2.2.1,fun b hb=>h.2.2.2.2 b hb⟩) hS h ρ a w hm hH hF
        refine wpIn_block (Code.wpIn_mono ?_ key);rintro e _ w' ⟨a',rfl,hkp,ρ',F',H',hX,h3⟩;rcases hX with ⟨ae,rfl,h2⟩ | ⟨rfl,h2⟩
        · cases ae with
          | normal=>exact ⟨a',rfl,hkp,ρ',F',H',.inl ⟨.normal,rfl,h2⟩,h3⟩
          | ret=>exact ⟨a',rfl,hkp,ρ',F',H',.inl ⟨.ret,rfl,h2⟩,h3⟩
          | exit i=>
            simp only [Z3] at h2;show (if i=id then Ls T S a (Z5 C m ρ w (XP Z.rt Q Qp)) .normal (tl T a') w' else Ls T S a (Z5 C m ρ w (XP Z.rt Q Qp)) (.exit i) (tl T a') w');split at h2
            · rename_i hi;rw [if_pos (by simpa using hi)];exact ⟨a',rfl,hkp,ρ',F',H',.inl ⟨.normal,rfl,h2⟩,h3⟩
            · rename_i hi;rw [if_neg (by simpa using hi)];exact ⟨a',rfl,hkp,ρ',F',H',.inl ⟨.exit i,rfl,h2⟩,h3⟩
        · exact ⟨a',rfl,hkp,ρ',F',H',.inr ⟨rfl,h2⟩,h3⟩
      | loop c=>
        simp only [Jh] at h;split at h
        case h_2=>exact h.elim
        rename_i hM;split at h
        · rename_i b hb;obtain ⟨h1,_⟩:=Q9 b h;rcases hL with hL | ⟨rfl,rfl,rfl,hQ,hlc⟩
          · rw [hL] at hb;cases hb
          · rw [Jg,hlc c (List.mem_cons_self ..)];refine Code.wpIn_mono ?_ (hZ.lp _ _ _ hb h1 m ρ a w (zA2 hM) hm hH hF);rintro e a' w' ⟨ρ',F',H',hX,h3⟩;rcases hX with ⟨_,_,h2⟩ | ⟨rfl,_⟩
            · exact h2.elim
            · exact ⟨a',(Jg a').symm,(fun t ht=>by cases ht),ρ',F',H',.inr ⟨rfl,hQ _⟩,h3⟩
        · exact h.elim
      | exit i=>exact wpIn_exit (here (.exit i) (hq _ _ _ _ h))
      | ret=>exact wpIn_ret (here .ret (hq _ _ _ _ h))
      | _=>exact h.elim
section
variable {C:A1}
def AWpP (C:A1) (rt m:Nat) (c:Code) (F:Fr) (H:Hp) (Q:Post) (Qp:Hp→Prop):Prop:=
 ∀ (r:Option Nat),Cf r c=true→∀ (ρ:Env) (a:Act) (w:World),m≤H.length→B2 C ρ H w→D0 ρ F a→c.wpIn (W r) 0 C.P (Z5 C m ρ w (XP rt Q Qp)) a w
theorem AWpP.of {rt m:Nat} {c:Code} {F:Fr} {H:Hp} {Q:Post} {Qp:Hp→Prop} (h:AWp C m c F H Q):AWpP C rt m c F H Q Qp:=
 fun r hr ρ a w _ hH hF=>Code.wpIn_mono (fun _ _ _ h=>Z5.of h) (h r hr ρ a w hH hF)
theorem AWpP.all {rt m:Nat} {c:Code} {F:Fr} {H:Hp} {Q:Post} {Qp:Hp→Prop} (h:AWpP C rt m c F H Q Qp) (hm:m≤H.length) (hp:∀ H,¬Qp H):AWp C m c F H Q:=by
 intro r hr ρ a w hH hF;refine Code.wpIn_mono ?_ (h r hr ρ a w hm hH hF);rintro e a' w' ⟨ρ',F',H',hX,h3⟩;rcases hX with ⟨ae,rfl,h2⟩ | ⟨_,h2⟩
 ·exact ⟨ae,ρ',F',H',rfl,h2,h3⟩
 ·exact absurd h2 (hp _)
theorem AWpP.mono {rt m:Nat} {c:Code} {F:Fr} {H:Hp} {Q Q':Post} {Qp Qp':Hp→Prop} (h:AWpP C rt m c F H Q Qp) (hq:∀ e F H,Q e F H→Q' e F H) (hp:∀ H,Qp H→Qp' H):AWpP C rt m c F H Q' Qp':=
 fun r hr ρ a w hm hH hF=>Code.wpIn_mono (fun e a' w' ⟨ρ',F',H',hX,h⟩=>⟨ρ',F',H',hX.imp (fun ⟨ae,e1,e2⟩=>⟨ae,e1,hq _ _ _ e2⟩) (fun ⟨e1,e2⟩=>⟨e1,hp _ e2⟩),h⟩) (h r hr ρ a w hm hH hF)
theorem mI {Z:Hf} {fuel n0 m:Nat} {c:Code} {N:Nat} {live:List Nat} {vs:List EV} {H:DHp} {Q:Ex→List AV→Hp→Prop} {Qp:Hp→Prop} (hZ:Xv C Z) (hL:∀ F H,Z.lp F H=none)
  (h:vT C.G Q (fun _ H=>Qp H) (Wn Z fuel n0 m c N live vs H)) (r:Option Nat) (T:List Deferred) (S:List Nat) (hS:Gq S (.code c)=true) {ρ:Env} {a:Act} {w:World} (hm:m≤H.length) (hH:B2 C ρ (B8 C.G H) w) (hF:D0 ρ (fl N live (vVs C.G vs)) a):c.wpIn (W r) 0 C.P (Ls T S a (Z5 C m ρ w (XP Z.rt (lv N live Q) Qp))) (tl T a) w:=by
 have:=iO hZ fuel r T S m (.code c) (Vc N live vs) H (f0 n0) _ (lv N live Q) Qp Q (fun _ H=>Qp H) (fun e F1 H1 fs1 ht=>by
  unfold Zn at ht;split at ht
  ·rename_i hb;simp only [vT,Pa] at ht;simp only [lv,O7,hb];exact ht
  ·exact ht.elim) (fun _ h=>h) (.inl hL) hS h
 rw [Ta] at this;exact this ρ a w (by simpa [E2] using hm) hH hF
theorem gY {Z:Hf} {fuel n0 m:Nat} {c:Code} {N:Nat} {live:List Nat} {vs:List EV} {H:DHp} {Q:Ex→List AV→Hp→Prop} {Qp:Hp→Prop} (hZ:Xv C Z) (hL:∀ F H,Z.lp F H=none) (hm:m≤H.length)
  (h:vT C.G Q (fun _ H=>Qp H) (Wn Z fuel n0 m c N live vs H)):AWpP C Z.rt m c (fl N live (vVs C.G vs)) (B8 C.G H) (lv N live Q) Qp:=by
 intro r _ ρ a w _ hH hF
 have:=mI hZ hL h r [] [] (Ua c) hm hH hF
 rw [Jg] at this;refine Code.wpIn_mono ?_ this;rintro e _ w' ⟨a0,rfl,_,h⟩;rw [Jg];exact h
theorem AWpP.frzL {rt n:Nat} {c:Code} {F:Fr} {H:Hp} {N:Nat} {live:List Nat} {Q Q':Ex→List AV→Hp→Prop} {Qp:Hp→Prop} (m k:Nat) (h:AWpP C rt n c F H (lv N live Q) Qp) (hq:∀ e vs H',Q e vs H'→wP C m k H'∧Q' e (fzs m k vs) (Ut m k H')):AWpP C rt n c F H (lv N live Q') Qp:=by
 intro r hr ρ a w hm hH hF;refine Code.wpIn_mono ?_ (h r hr ρ a w hm hH hF);rintro e a' w' ⟨ρ',F',H',hX,h3,h4,h5,h6⟩;rcases hX with ⟨ae,rfl,h2⟩ | ⟨rfl,h2⟩
 ·obtain ⟨h7,h8⟩:=U6 h2;obtain ⟨g1,g2⟩:=hq _ _ _ h8;obtain ⟨ρ2,q1,q2,q3,q4,q5,q6⟩:=h4.frz g1;refine ⟨ρ2,_,_,.inl ⟨ae,rfl,?_⟩,fun i hi=>by rw [q2];exact h3 i hi,q4,h5.frz q3 q6,h6.trans q5⟩;have hl:(fzs m k F').length=F'.length:=by rw [Bo,List.length_map]
  show chk (Nat.beq (fzs m k F').length N) (Q' ae (Ce live (fzs m k F')) (Ut m k H'));rw [rF,hl,h7];exact g2
 ·exact ⟨ρ',F',H',.inr ⟨rfl,h2⟩,h3,h4,h5,h6⟩
theorem aD5 {rt m:Nat} {c:Code} {N:Nat} {live:List Nat} {vs:List AV} {H:Hp} {Q:Ex→List AV→Hp→Prop} {Qp:Hp→Prop} (I:Nat→List AV→Hp→Prop) (k0:Nat) (h0:I k0 vs H)
  (round:∀ k vs H,I k vs H→AWpP C rt m c (fl N live vs) H (lv N live fun e vs' H'=>match e with
   | .normal=>∃ k',k'<k∧(I k' vs' H'∨∃ vs'' H'',I k' vs'' H''∧C5 m vs'' H'' vs' H')
   | e=>Q e vs' H') Qp):AWpP C rt m (.loop c) (fl N live vs) H (lv N live Q) Qp:=by
 intro r hr ρ a w hm hH hF;refine wpIn_loop_ghost (fun n a' w'=>∃ ρ' vs' H',I n vs' H'∧B2 C ρ' H' w'∧D0 ρ' (fl N live vs') a'∧K3 m ρ ρ'∧Frm ρ w ρ' w') k0 ⟨ρ,vs,H,h0,hH,hF,K3.refl m ρ,Frm.refl ρ w⟩ ?_;rintro n a1 w1 ⟨ρ1,F1,H1,hI,hH1,hF1,hp1,hf1⟩;refine Code.wpIn_mono ?_ (round n F1 H1 hI r (Yz hr) ρ1 a1 w1 (S2 hm hH hH1 hp1) hH1 hF1);rintro e a2 w2 ⟨ρ2,F2,H2,hX,h3,h4,h5,h6⟩;rcases hX with ⟨ae,rfl,h2⟩ | ⟨rfl,h2⟩
 ·obtain ⟨h7,h8⟩:=U6 h2;have hN:F2.length=N:=rG h7;have hF2:=Mf (live:=live) h5 hN;cases ae with
  | normal=>
   obtain ⟨n',hlt,hi | ⟨vs'',H'',hI',hv⟩⟩:=h8
   ·exact ⟨n',hlt,ρ2,_,H2,hi,h4,hF2,hp1.trans h3,hf1.trans h6⟩
   ·obtain ⟨ρ3,g1,g2,g3,g4⟩:=hv.live (N:=N) (live:=live) (a:=a2) h4 h5.nod (by rw [←h5.len,hN]) (by simp [Ce]) fun j i v q1 q2=>by
     simp only [Ce,zA0,q1,Option.map_some,zN] at q2;subst q2;by_cases hi:i<F2.length
     ·exact h5.val i _ (by simp [List.getD,hi])
     ·simp [List.getD,hi,VR]
    exact ⟨n',hlt,ρ3,vs'',H'',hI',g1,g2,(hp1.trans h3).trans g3,(hf1.trans h6).trans g4⟩
  | exit i=>exact ⟨ρ2,_,H2,.inl ⟨.exit i,rfl,by simp only [lv];rw [show F2.length.beq N=true from h7];exact h8⟩,hp1.trans h3,h4,h5,hf1.trans h6⟩
  | ret=>exact ⟨ρ2,_,H2,.inl ⟨.ret,rfl,by simp only [lv];rw [show F2.length.beq N=true from h7];exact h8⟩,hp1.trans h3,h4,h5,hf1.trans h6⟩
 ·exact ⟨ρ2,F2,H2,.inr ⟨rfl,h2⟩,hp1.trans h3,h4,h5,hf1.trans h6⟩
theorem rK {Z : Hf} {f : FuncId} {fn : Func} {fuel n0 : Nat} {args : List EV} {H : DHp} (hZ : Xv C Z) (hl : ∀ b ∈ loopsOf (C3 fn), b = Z.lc) (hf : C.P.funcs[f]? = some fn) (hb : fn.body = some (C3 fn)) (hn : (fn.name == "runtime.NumGoroutine") = false)
  (h:vT C.G (fun _ _ _=>False) (fun _ _=>True) (ppan Z fuel n0 fn args H)):ACallsX C Z.rt f (vVs C.G args) (B8 C.G H) (fun _ _=>False) fun _=>True:=by
 have:=iO hZ fuel none [] [] H.length (.code (C3 fn)) (De fn args) H (f0 n0) _ (L1 C fn fun _ _=>False) (fun _=>True) (fun _ _ _=>False) (fun _ _=>True) (fun e F1 H1 fs1 ht=>by
  unfold Me at ht;split at ht
  ·exact ht.elim
  ·obtain ⟨cc,v,q1,q2,q3⟩:=Cl ht
   exact q3.elim) (fun _ _=>trivial) (.inr ⟨rfl,rfl,rfl,fun _=>trivial,hl⟩) (Ua _) h
 rw [Mp,←E2 (G:=C.G) H] at this;refine cH hf hb hn fun ρ a w hH hF=>?_
 have:=this ρ a w (zA7 _) hH hF
 rw [Jg] at this;refine Code.wpIn_mono ?_ this;rintro e _ w' ⟨a0,rfl,_,h⟩;rw [Jg];exact h
noncomputable def fW (j:Nat) (q:List AV→Bool) (N:Nat) (live:List Nat):DFr→DHp→Option EB:=fun F H=>match Nat.beq F.length N with
 | true=>some (.uf j q [.agg (.of (rdD live F)),.agg (.of (Xk H))])
 | false=>none
theorem tD {rt M j:Nat} {q:List AV→Bool} {N:Nat} {live:List Nat} {vs0:List AV} {H0:Hp} {c:Code} {Q:Ex→List AV→Hp→Prop} (hq:q=D9 vs0 H0) (h:AWpP C rt M (.loop c) (fl N live vs0) H0 (lv N live Q) fun _=>True) (hQ:∀ e vs H,¬Q e vs H) (hM:M≤H0.length) :
  ∀ F H b,fW j q N live F H=some b→vB C.G b=true→∀ (m:Nat) (ρ:Env) (a:Act) (w:World),m≤M→m≤(B8 C.G H).length→B2 C ρ (B8 C.G H) w→D0 ρ (vVs C.G F) a→(Code.loop c).wpIn (W none) 0 C.P (Z5 C m ρ w (XP rt (fun _ _ _=>False) fun _=>True)) a w:=by
 intro F H b hb hv m ρ a w hm _ hH hF;unfold fW at hb;split at hb
 ·rename_i hN;simp only [zN] at hb;subst hb;simp only [vB,vVs,vV,vL,Ll,hq] at hv;obtain ⟨e1,e2⟩:=Ig hv;rw [e2] at hH;have hN:=rG hN
  have hF':D0 ρ (fl N live vs0) a:=by
   have:=Mf (N:=N) (live:=live) hF (by rw [O7];exact hN)
   rw [←e1,Pa];exact this
  refine Code.wpIn_mono ?_ (h none rfl ρ a w hM hH hF');rintro e a' w' ⟨ρ',F',H',hX,h3,h4⟩;rcases hX with ⟨ae,_,h2⟩ | ⟨rfl,h2⟩
  ·obtain ⟨_,h8⟩:=U6 h2;exact absurd h8 (hQ _ _ _)
  ·exact ⟨ρ',F',H',.inr ⟨rfl,h2⟩,fun i hi=>h3 i (by omega),h4⟩
 ·cases hb
end
section
variable {C:A1}
theorem iG {α:Type}:∀ (l:List Nat) (H:List (Option α)) (i:Nat),(Bd H l)[i]?=if i∈l∧i<H.length then some none else H[i]?
 | [],H,i=>by simp [Bd]
 | j::l,H,i=>by
  show (Bd (H.set j none) l)[i]?=_;rw [iG l,List.length_set,zA5];by_cases h1:i∈l∧i<H.length
  ·rw [if_pos h1,if_pos ⟨List.mem_cons_of_mem _ h1.1,h1.2⟩]
  ·rw [if_neg h1];by_cases h2:j=i
   ·subst h2;by_cases h3:j<H.length
    ·rw [if_pos rfl,if_pos h3,if_pos ⟨List.mem_cons_self,h3⟩]
    ·rw [if_pos rfl,if_neg h3,if_neg (fun h=>h3 h.2)];rw [zA3 (by omega)]
   ·rw [if_neg h2,if_neg (fun h=>?_)];rcases List.mem_cons.1 h.1 with e | e
    ·exact h2 e.symm
    ·exact h1 ⟨e,h.2⟩
theorem iF {α:Type}:∀ (l:List Nat) (H:List (Option α)),(Bd H l).length=H.length
 | [],H=>rfl
 | j::l,H=>by
  show (Bd (H.set j none) l).length=_;rw [iF l,List.length_set]
theorem zH {rt:Nat} {f:FuncId} {args0:List AV} {H0 H:Hp} {Kp:Hp→Prop} (h:ACallsX C rt f args0 H0 (fun _ _=>False) Kp) (θ:List Nat) (hθ:θ.length=H0.length) (hnd:θ.Nodup)
  (hlive:∀ (i:Nat) b,H0[i]?=some b→∃ b0,b=some b0∧isRec b0=false∧A6 θ.length b0.cells=true∧H[θ.getD i 0]?=some (some (I7 θ b0)))
  (hargs:A6 θ.length args0=true):ACallsX C rt f (rens θ args0) H (fun _ _=>False) fun H'=>H'=Bd H θ:=by
 refine ⟨h.1,fun ρ w cargs hH hv=>?_⟩
 have hlt:∀ i,i<θ.length→θ.getD i 0<H.length:=fun i hi=>by
  obtain ⟨b,hb⟩:∃ b,H0[i]?=some b:=⟨_,xW (by omega)⟩;obtain ⟨b0,_,_,_,h2⟩:=hlive i b hb;exact (zP.1 h2).1
 let ρ0:Env:=⟨θ.map fun j=>(ρ.rw[j]?).getD none,ρ.ro,[]⟩
 have get:∀ i,i<θ.length→ρ.rw[θ.getD i 0]?=ρ0.rw[i]?:=fun i hi=>by
  have h1:θ.getD i 0<ρ.rw.length:=by rw [hH.len];exact hlt i hi
  have h2:ρ0.rw[i]?=some ((ρ.rw[θ.getD i 0]?).getD none):=by
   simp only [ρ0,zA0,xW hi,Option.map_some,List.getD,Option.getD_some]
  rw [h2,xW h1];rfl
 have hr:Vu θ ρ0 ρ:=⟨get,rfl⟩
 have ents0:∀ (i:Nat) e,ρ0.rw[i]?=some (some e)→i<θ.length∧ρ.rw[θ.getD i 0]?=some (some e):=fun i e hi=>by
  have hl:i<θ.length:=by have:=(zP.1 hi).1;simpa [ρ0] using this
  exact ⟨hl,(get i hl).trans hi⟩
 have nodup:∀ i j,i<θ.length→j<θ.length→θ.getD i 0=θ.getD j 0→i=j:=fun i j hi hj he=>by
  simp only [List.getD,xW hi,xW hj,Option.getD_some] at he;exact (List.getElem_inj hnd).1 he
 have hH0:B2 C ρ0 H0 w:=by
  refine ⟨by simp [ρ0,hθ],hH.base,fun i e hi=>hH.ents _ e (ents0 i e hi).2,fun i b hb=>?_,?_,fun i b d hr=>⟨(hH.ro i b d hr).1,fun j x e h1 h2=>?_,(hH.ro i b d hr).2.2⟩,fun D hD=>by simp [ρ0] at hD⟩
  ·have hi:i<θ.length:=by rw [hθ];exact (zP.1 hb).1
   obtain ⟨b0,hb0,hr0,hbd,h2⟩:=hlive i _ hb;simp at hb0;subst hb0;have hl:=hH.live _ _ h2;rw [get i hi] at hl;generalize ρ0.rw[i]?=x at hl
   match x,hl with
   | some (some e),hl=>
    have hrr:isRec (I7 θ b)=isRec b:=rfl;obtain ⟨g1,cs,ty,fz,g2,g3,g4,g5,g6⟩:=hl.cs (hrr.trans hr0);refine .of hr0 ⟨g1,cs,ty,fz,g2,g3,by simpa [I7,I9] using g4,fun k v hkv=>?_,g6⟩
    have hbv:B0 θ.length v=true:=by
     rw [O1,qD] at hbd;exact hbd v (zA1 hkv)
    obtain ⟨cv,q1,q2⟩:=g5 k (C2 θ v) (by simp [I7,I9,hkv]);exact ⟨cv,q1,(Bt hr v cv hbv).1 q2⟩
   | some none,hl=>
    have:rens θ b.cells=[]:=hl
    rw [I9] at this;exact List.map_eq_nil_iff.1 this
   | none,hl=>exact hl.elim
  ·intro i j b b' e e' h1 h2 h3 h4 h5;have hi:i<θ.length:=(ents0 i e h3).1;have hj:j<θ.length:=(ents0 j e' h4).1;obtain ⟨b0,hb0,_,_,g1⟩:=hlive i _ h1;obtain ⟨b1,hb1,_,_,g2⟩:=hlive j _ h2;exact nodup i j hi hj (hH.inj _ _ _ _ e e' g1 g2 (ents0 i e h3).2 (ents0 j e' h4).2 h5)
  ·obtain ⟨b0,_,_,_,g1⟩:=hlive j _ h1;exact (hH.ro i b d hr).2.1 _ _ e g1 (ents0 j e h2).2
 refine (h.2 ρ0 w cargs hH0 ((By hr args0 cargs hargs).1 hv)).mono ?_;rintro e w' (⟨_,_,_,_,_,hF,_⟩ | ⟨rfl,ρ0',H0',_,hle,hH',hfr⟩)
 ·exact hF.elim
 -- what lies apart from what was handed in stays
 have kp:∀ b,b<w.heap.size→(∀ (i:Nat) e,ρ0.rw[i]?=some (some e)→e.blk≠b)→w'.heap[b]?=w.heap[b]?:=fun b hb hn=>hfr.keep b hb (.inr hn)
 have ne:∀ (j:Nat) b e,H[j]?=some (some b)→ρ.rw[j]?=some (some e)→j ∉ θ→∀ (i:Nat) e',ρ0.rw[i]?=some (some e')→e'.blk≠e.blk:=fun j b e hj he hjn i e' hi heq=>by
  obtain ⟨hil,h3⟩:=ents0 i e' hi;obtain ⟨b1,hb1⟩:∃ b1,H0[i]?=some b1:=⟨_,xW (by omega)⟩;obtain ⟨b0,_,_,_,g1⟩:=hlive i _ hb1
  have:=hH.inj _ _ _ _ e' e g1 hj h3 he heq
  apply hjn;rw [←this];simp only [List.getD,xW hil,Option.getD_some];exact List.getElem_mem hil
 have lk:∀ (j:Nat) b,(Bd H θ)[j]?=some (some b)→H[j]?=some (some b)∧j ∉ θ:=fun j b hj=>by
  rw [iG] at hj;split at hj
  ·cases hj
  ·rename_i hc;refine ⟨hj,fun hin=>hc ⟨hin,(zP.1 hj).1⟩⟩
 refine .inr ⟨rfl,ρ,Bd H θ,rfl,Env.le_refl ρ,?_,?_⟩
 ·refine ⟨by rw [iF];exact hH.len,Nat.le_trans hH.base hfr.size,fun i e he=>⟨(hH.ents i e he).1,Nat.lt_of_lt_of_le (hH.ents i e he).2 hfr.size⟩,fun i b hb=>?_,fun i j b b' e e' h1 h2 h3 h4 h5=>hH.inj i j b b' e e' (lk i b h1).1 (lk j b' h2).1 h3 h4 h5,fun i b d hro=>?_,fun D hD=>?_⟩
  ·obtain ⟨g1,g2⟩:=lk i b hb;exact (hH.live i b g1).sub (w':=w') (ρ':=ρ) ⟨fun _ _ h=>h,fun _ _ _ h=>h⟩ fun e he=>kp e.blk (hH.ents i e he).2 (ne i b e g1 he g2)
  ·obtain ⟨g1,g2,g3⟩:=hH.ro i b d hro;refine ⟨Nat.lt_of_lt_of_le g1 hfr.size,fun j x e h1 h2=>g2 j x e (lk j x h1).1 h2,fun k v hv=>?_⟩;obtain ⟨cv,q1,q2⟩:=g3 k v hv;refine ⟨cv,?_,q2⟩;rw [World.cell?_of_block (w:=w) (hfr.keep b g1 (.inl ⟨i,d,hro⟩))];exact q1
  ·obtain ⟨g1,g2,g3⟩:=hH.df D hD;refine ⟨?_,g2,g3⟩;rw [kp D (hH.df_lt hD) fun i e hi=>g2 _ e (ents0 i e hi).2];exact g1
 ·exact ⟨hfr.os,hfr.tape,hfr.output,hfr.size,fun b hb hn=>hfr.keep b hb (hn.imp id fun hn i e hi=>hn _ e (ents0 i e hi).2),fun i e he=>.inl ⟨i,e,he,rfl⟩,fun _ _ _ h=>h,fun _ _ _ h=>.inl h,fun _ h=>.inl h⟩
end
def Saved (C:A1) (rt:Nat) (fn:Func) (D:Deferred) (tmps:Array Value) (ρ':Env) (H':Hp) (m:Nat) (K:AV→Hp→Prop):Prop:=
 ∀ (d:List Nat) (w2:World),B2 C ⟨ρ'.rw,ρ'.ro,d⟩ H' w2→∃ fv cap g cargs,D.target=.fn fv cap∧(invoke D.target D.args).run C.P w2=.ok (.enter g cargs) w2∧
  CallsDIn Fence.wide 0 C.P g cargs (.panicking (PX rt)) w2 fun e u' w3=>e=.returned (.tuple #[])∧settle u'=.returning∧
   ∃ cv v ρ3 H3,(results fn tmps).run C.P w3=.ok cv w3∧K v H3∧(K3 m ⟨ρ'.rw,ρ'.ro,d⟩ ρ3∧(∀ i b k,ρ'.ro i b k→ρ3.ro i b k)∧∀ D,D∈d→D∈ρ3.dfs)∧B2 C ρ3 H3 w3∧VR ρ3 v cv∧Frm ⟨ρ'.rw,ρ'.ro,d⟩ w2 ρ3 w3
theorem jN {C : A1} {rt : Nat} {f : FuncId} {fn : Func} {c : Code} {args : List AV} {H : Hp} {K : AV → Hp → Prop} (hf : C.P.funcs[f]? = some fn) (hb : fn.body = some c) (hn : (fn.name == "runtime.NumGoroutine") = false)
  (h:∀ (ρ:Env) (a:Act) (w:World),B2 C ρ H w→D0 ρ (K7 fn args) a→a.defers=[]→c.wpIn (W none) 0 C.P (fun e a' w'=>∃ D a0,a'=tl [D] a0∧((wM C.P D∧AP C H.length ρ w (L1 C fn K) e a0 w')∨
   (e=.panic (PX rt)∧∃ ρ' F' H',K3 H.length ρ ρ'∧B2 C ρ' H' w'∧D0 ρ' F' a0∧Frm ρ w ρ' w'∧Saved C rt fn D a0.tmps ρ' H' H.length K))) a w):ACalls C f args H K:=by
 refine ⟨⟨fn,c,hf,hb,hn⟩,fun ρ w cargs hH hv=>callsIn_wide.1 (callsIn_of_wp_marks (n:=0) hf hb trivial (wpIn_mono (h ⟨ρ.rw,ρ.ro,[]⟩ _ w (hH.setDfs [] (fun _ h=>by simp at h)) (Kv (VRs.sub (Env.sub_dfs ρ []) _ _ hv)) rfl) ?_))⟩;rintro e _ w' ⟨Dd,a',rfl,⟨hDd,ae,ρ',F',H',rfl,hQ,hp,hH',hF',hfr⟩ | ⟨rfl,ρ',F',H',hp,hH',hF',hfr,hsv⟩⟩
 ·have fin:Sp (Kb C fn F' H') (fun v=>K v H')→LeavesInM Fence.wide 0 C.P fn (tl [Dd] a').tmps (fun e w''=>∃ v cv ρ' H',e=.returned cv∧K v H'∧ρ.le ρ'∧B2 C ρ' H' w''∧VR ρ' v cv∧Frm ρ w ρ' w'') (tl [Dd] a').defers .returning w':=by
   intro ho;obtain ⟨ds,hds,hnd,hD⟩:=hF'.nod;show LeavesInM Fence.wide 0 C.P fn a'.tmps _ (a'.defers++[Dd]) .returning w';rw [hds];refine Gt (by simp) ds w' hnd (fun D h=>(hH'.df D (hD D h)).1) fun w'' hs hk ho2 ht hou=>Yc hDd ?_;obtain ⟨v,h1,h2⟩:=S3 ho;obtain ⟨q1,q2,q3⟩:=aA hH (zA7 _) hp hH' hfr hD hs hk ho2 ht hou;have hF'':D0 ⟨ρ'.rw,ρ'.ro,ρ.dfs⟩ F' ⟨a'.tmps,[]⟩:=⟨⟨[],rfl,List.nodup_nil,fun _ h=>by simp at h⟩,hF'.len,fun i v hv=>VR.sub (Env.sub_dfs ρ' ρ.dfs) v _ (hF'.val i v hv)⟩;obtain ⟨cv,g1,g2⟩:=Bm q1 hF'' h1
   exact ⟨cv,g1,v,cv,_,H',rfl,h2,q2,q1,g2,q3⟩
  cases ae with
  | normal=>exact fin hQ
  | ret=>exact fin hQ
  | exit i=>exact hQ.elim
 ·obtain ⟨ds,hds,hnd,hD⟩:=hF'.nod;show LeavesInM Fence.wide 0 C.P fn a'.tmps _ (a'.defers++[Dd]) (.panicking (PX rt)) w';rw [hds];refine Gt (by simp) ds w' hnd (fun D h=>(hH'.df D (hD D h)).1) fun w2 hs hk ho2 ht hou=>?_;obtain ⟨q1,q2,q3⟩:=aA hH (zA7 _) hp hH' hfr hD hs hk ho2 ht hou;obtain ⟨fv,cap,g,cargs,e1,e2,e3⟩:=hsv ρ.dfs w2 q1;refine ⟨by simp,.inr ⟨fun h=>by simp [Fence.wide] at h,fv,cap,g,cargs,e1,e2,fun _ _=>trivial,e3.mono ?_⟩⟩;rintro e u' w3 ⟨rfl,hu,cv,v,ρ3,H3,r1,r2,⟨r3,r3a,r3b⟩,r4,r5,r6⟩;show LeavesInM Fence.wide 0 C.P fn a'.tmps _ [] (settle u') w3;rw [hu]
  refine ⟨cv,r1,v,cv,ρ3,H3,rfl,r2,⟨fun i x hx=>?_,fun i b k hr=>r3a i b k (q2.right i b k hr),fun D hDD=>r3b D hDD⟩,r4,r5,q3.trans r6⟩
  have hi:i<H.length:=by
   rw [←hH.len];rcases Nat.lt_or_ge i ρ.rw.length with h | h
   ·exact h
   ·rw [zA3 h] at hx;cases hx
  exact (r3 i hi).trans ((hp i hi).trans hx)
def σS (src:Nat→Option Nat):Sig:=fun k=>match src k with
 | some k1=>(.ro k1,0)
 | none=>(.rw 0,0)
def Told (src:Nat→Option Nat) (G G':Nat→List AV):Prop:=∀ k k1,src k=some k1→∀ (j:Nat) v,(G' k)[j]?=some v→∃ x,(G k1)[j]?=some x∧E8 v=true∧∀ (ρ:Env) cv,VR ρ x cv→VR ρ (sb (σS src) 0 v) cv
theorem vX {P:Program} {G G':Nat→List AV} {B:Nat} {src:Nat→Option Nat} (hG:Told src G G') {ρ:Env} {w:World} (hH:B2 ⟨P,G,B⟩ ρ [] w):B2 ⟨P,G',w.heap.size⟩ ⟨[],Hv (σS src) ρ,[]⟩ [] w:=by
 refine ⟨rfl,zA7 _,fun i e h=>by simp at h,fun i b h=>by simp at h,fun i j b b' e e' h=>by simp at h,fun i b d hr=>?_,fun D h=>by simp at h⟩;have hlen:ρ.rw=[]:=List.eq_nil_of_length_eq_zero hH.len
 obtain ⟨k1,hs,hr1⟩:∃ k1,src i=some k1∧ρ.ro k1 b d:=by
  simp only [Hv] at hr;cases h:src i with
  | some k1=>
   have:σS src i=(.ro k1,0):=by unfold σS;rw [h]
   rw [this] at hr;obtain ⟨d0,h1,h2⟩:=hr;simp only [Nat.add_zero] at h2;exact ⟨k1,rfl,by rw [h2];exact h1⟩
  | none=>
   have:σS src i=(.rw 0,0):=by unfold σS;rw [h]
   rw [this] at hr;obtain ⟨e,h1,_⟩:=hr;rw [hlen] at h1;simp at h1
 obtain ⟨g1,g2,g3⟩:=hH.ro k1 b d hr1;refine ⟨g1,fun j x e h=>by simp at h,fun k v hv=>?_⟩;obtain ⟨x,q1,q2,q3⟩:=hG i k1 hs k v hv;obtain ⟨cv,g4,g5⟩:=g3 k x q1;refine ⟨cv,g4,wK (n:=0) v cv q2 (q3 ρ cv ?_)⟩;exact VR.sub (ρ:=⟨[],ρ.ro,[]⟩) (ρ':=ρ) ⟨fun i x hx=>by simp at hx,fun _ _ _ h=>h⟩ x cv g5
theorem zS {P:Program} {G G':Nat→List AV} {B:Nat} {f:FuncId} {args args':List AV} {R:AV→Prop} {src:Nat→Option Nat} (hG:Told src G G')
  (h:∀ B,ACalls ⟨P,G',B⟩ f args' [] fun v _=>R v) (ha:J0 args'=true) (hb:∀ (ρ:Env) vs,VRs ρ args vs→VRs ρ (sbs (σS src) 0 args') vs) (hR:∀ v,R v→B0 0 v=true∧M1 v=true):ACalls ⟨P,G,B⟩ f args [] fun v _=>R v:=by
 refine ⟨(h 0).1,fun ρ w cargs hH hv=>?_⟩;refine ((h w.heap.size).2 ⟨[],Hv (σS src) ρ,[]⟩ w cargs (vX hG hH) (My args' cargs ha (hb ρ cargs hv))).mono ?_;rintro e w' ⟨v,cv,ρ',H',rfl,h2,h3,h4,h5,h6⟩;obtain ⟨hb,hn⟩:=hR v h2;have hkeep:∀ b,b<w.heap.size→w'.heap[b]?=w.heap[b]?:=fun b hb=>h6.keep b hb (.inr fun i e h=>by simp at h);refine ⟨v,cv,ρ,[],rfl,h2,Env.le_refl ρ,?_,?_,?_⟩
 ·refine ⟨hH.len,Nat.le_trans hH.base h6.size,fun i e he=>⟨(hH.ents i e he).1,Nat.lt_of_lt_of_le (hH.ents i e he).2 h6.size⟩,fun i b hb=>?_,hH.inj,fun i b d hr=>?_,fun D hD=>⟨(hkeep D (hH.df_lt hD)).trans (hH.df D hD).1,(hH.df D hD).2⟩⟩
  ·exact (hH.live i b hb).mono (Env.le_refl ρ) fun e he=>hkeep _ (hH.ents i e he).2
  ·obtain ⟨g1,g2,g3⟩:=hH.ro i b d hr;refine ⟨Nat.lt_of_lt_of_le g1 h6.size,g2,fun k v hv=>?_⟩;obtain ⟨cv,g4,g5⟩:=g3 k v hv;refine ⟨cv,?_,g5⟩;rw [←g4];simp only [World.cell?,hkeep b g1]
 ·exact tC hb hn h5
 ·exact ⟨h6.os,h6.tape,h6.output,h6.size,fun b hb _=>hkeep b hb,fun i e he=>.inl ⟨i,e,he,rfl⟩,fun _ _ _ h=>h,fun _ _ _ h=>.inl h,fun _ h=>.inl h⟩
end Go.Am
