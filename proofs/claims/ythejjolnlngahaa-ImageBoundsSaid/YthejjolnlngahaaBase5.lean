/-
  Methods: a call over one block of its own, told in every heap that has A nil list, looked at as an empty one of its own; views that leave the
-/
import Derived.Test.YthejjolnlngahaaBase4
import Derived.Test.YthejjolnlngahaaBase3
namespace Go.Am
variable {C:Ctx}
end Go.Am
namespace Go.Am
def Ia (k:Nat) (x x':AV):Prop:=x'=x∨(x=.slice true (.rw k) 0 0∧x'=.nils)
def V6 (k:Nat):List AV→List AV→Prop
 | [],[]=>True
 | x::l,y::m=>Ia k x y∧V6 k l m
 | _,_=>False
def Ll (k:Nat):Hp→Hp→Prop
 | [],[]=>True
 | none::H,none::H'=>Ll k H H'
 | some b::H,some b'::H'=>(b.esz=b'.esz∧V6 k b.cells b'.cells)∧Ll k H H'
 | _,_=>False
theorem aY {k:Nat} (x:AV):Ia k x x:=.inl rfl
theorem Ne {k:Nat}:∀ (l:List AV),V6 k l l
 | []=>trivial
 | x::l=>⟨aY x,Ne l⟩
theorem Hz {k:Nat}:∀ {l m:List AV},V6 k l m→l.length=m.length∧∀ (i:Nat) v,l[i]?=some v→∃ v',m[i]?=some v'∧Ia k v v'
 | [],[],_=>⟨rfl,fun i v h=>by simp at h⟩
 | [],_::_,h=>h.elim
 | _::_,[],h=>h.elim
 | x::l,y::m,h=>by
  obtain ⟨h1,h2⟩:=Hz h.2;refine ⟨by simp [h1],fun i v hv=>?_⟩;cases i with
  | zero=>simp at hv;subst hv;exact ⟨y,rfl,h.1⟩
  | succ i=>simpa using h2 i v (by simpa using hv)
theorem Lk {k:Nat}:∀ {H H':Hp},Ll k H H'→H.length=H'.length∧∀ (i:Nat) b,H[i]?=some (some b)→∃ b',H'[i]?=some (some b')∧b.esz=b'.esz∧V6 k b.cells b'.cells
 | [],[],_=>⟨rfl,fun i v h=>by simp at h⟩
 | [],_::_,h=>h.elim
 | none::_,[],h=>h.elim
 | some _::_,[],h=>h.elim
 | none::_,some _::_,h=>h.elim
 | some _::_,none::_,h=>h.elim
 | none::H,none::H',h=>by
  obtain ⟨h1,h2⟩:=Lk (show Ll k H H' from h);refine ⟨by simp [h1],fun i v hv=>?_⟩;cases i with
  | zero=>simp at hv
  | succ i=>simpa using h2 i v (by simpa using hv)
 | some b::H,some b'::H',h=>by
  obtain ⟨h1,h2⟩:=Lk h.2;refine ⟨by simp [h1],fun i v hv=>?_⟩;cases i with
  | zero=>simp at hv;subst hv;exact ⟨b',rfl,h.1⟩
  | succ i=>simpa using h2 i v (by simpa using hv)
theorem Lj {ρ:Env} {x x':AV} {cv:Value} (h:Ia ρ.rw.length x x') (hv:VR ρ x' cv):VR (ρ.push none) x cv:=by
 rcases h with rfl | ⟨rfl,rfl⟩
 ·exact VR.mono (Env.le_push ρ none) _ _ hv
 ·simp only [VR] at hv ⊢;subst hv;exact ⟨none,0,rfl,Nat.le_refl _,.inl ⟨rfl,rfl,rfl⟩⟩
theorem gA {C:Ctx} {ρ:Env} {H H':Hp} {w:World} (e:Nat) (hH:Ll H'.length H H') (h4:A2 C ρ H' w):A2 C (ρ.push none) (H++[some ⟨e,[]⟩]) w:=by
 have hl:=h4.len;obtain ⟨hle,hget⟩:=Lk hH;have low:∀ i,i<H'.length→(ρ.push none).rw[i]?=ρ.rw[i]?:=fun i hi=>by simp [Env.push,List.getElem?_append_left (show i<ρ.rw.length by omega)]
 have none':∀ (i:Nat) x,(ρ.push none).rw[i]?=some (some x)→ρ.rw[i]?=some (some x):=fun i x hx=>by
  rcases M2 ρ none i _ hx with ⟨_,h⟩ | ⟨_,h⟩
  ·exact h
  ·simp at h
 have blk:∀ (i:Nat) b,(H++[some (⟨e,[]⟩:Blk)])[i]?=some (some b)→(i<H'.length∧H[i]?=some (some b))∨(i=H'.length∧b=⟨e,[]⟩):=fun i b hb=>by
  by_cases hi:i<H.length
  ·rw [List.getElem?_append_left hi] at hb;exact .inl ⟨by omega,hb⟩
  ·rw [List.getElem?_append_right (by omega)] at hb
   have:i=H.length:=by have:=(List.getElem?_eq_some_iff.1 hb).1;simp at this;omega
   subst this;simp at hb;exact .inr ⟨hle,hb.symm⟩
 refine ⟨by simp [Env.push,hl,hle],h4.base,fun i x hx=>h4.ents i x (none' i x hx),fun i b hb=>?_,fun i j b b' x x' q1 q2 q3 q4 q5=>?_,fun i b d hr=>⟨(h4.ro i b d hr).1,fun j x e q1 q2=>?_,(h4.ro i b d hr).2.2⟩,fun D hD=>⟨(h4.df D hD).1,fun i x hx=>(h4.df D hD).2.1 i x (none' i x hx),(h4.df D hD).2.2⟩⟩
 ·rcases blk i b hb with ⟨hi,hb⟩ | ⟨rfl,rfl⟩
  ·rw [low i hi];obtain ⟨b',g1,g2,g3⟩:=hget i b hb;obtain ⟨gl,gg⟩:=Hz g3
   have:=h4.live i b' g1
   match hx:ρ.rw[i]?,this with
   | some (some en),this=>
    have hrr:isRec b=isRec b':=by unfold isRec;rw [g2]
    cases hr0:isRec b' with
    | true=>
     obtain ⟨h1,r,h2,p,ps,a,bd,F,q1,q2,q3,q4,q5,q6,q7⟩:=this.rec hr0;rw [q1] at g3 gl gg
     obtain ⟨F',hF'⟩:∃ F',b.cells=.rcd p ps a bd::F':=by
      cases hc:b.cells with
      | nil=>rw [hc] at gl;simp at gl
      | cons x F'=>
       rw [hc] at g3;rcases g3.1 with h | ⟨_,h⟩
       ·exact ⟨F',by rw [h]⟩
       ·simp at h
     refine .ofRec (hrr.trans hr0) ⟨by rw [h1,g2],r,h2,p,ps,a,bd,F',hF',q2,q3,q4,q5,?_,fun k v hv=>?_⟩
     ·rw [hF'] at gl;rw [←q6];simpa using gl
     ·obtain ⟨v',e1,e2⟩:=gg (k+1) v (by rw [hF'];simpa using hv);exact Lj (by rw [hl];exact e2) (q7 k v' (by simpa using e1))
    | false=>
    obtain ⟨h1,cs,ty,fz,h2,h3,h5,h6,h7⟩:=this.cs hr0;refine .of (hrr.trans hr0) ⟨by rw [h1,g2],cs,ty,fz,h2,h3,by omega,fun k v hv=>?_,h7⟩;obtain ⟨v',e1,e2⟩:=gg k v hv;obtain ⟨cv,e3,e4⟩:=h6 k v' e1;exact ⟨cv,e3,Lj (by rw [hl];exact e2) e4⟩
   | some none,this=>
    have hc:b'.cells=[]:=this;show b.cells=[];rw [hc] at gl;exact List.length_eq_zero_iff.1 (by simpa using gl)
  ·have:(ρ.push none).rw[H'.length]?=some none:=by simp [Env.push,←hl]
   rw [this];rfl
 ·have r3:=none' i x q3;have r4:=none' j x' q4;have l3:i<H'.length:=by rw [←hl];exact (List.getElem?_eq_some_iff.1 r3).1
  have l4:j<H'.length:=by rw [←hl];exact (List.getElem?_eq_some_iff.1 r4).1
  rw [List.getElem?_append_left (by omega)] at q1;rw [List.getElem?_append_left (by omega)] at q2;obtain ⟨b1,g1,_⟩:=hget i b q1;obtain ⟨b2,g2,_⟩:=hget j b' q2;exact h4.inj i j b1 b2 x x' g1 g2 r3 r4 q5
 ·have r2:=none' j e q2;have l2:j<H'.length:=by rw [←hl];exact (List.getElem?_eq_some_iff.1 r2).1
  rw [List.getElem?_append_left (by omega)] at q1;obtain ⟨b1,g1,_⟩:=hget j x q1;exact (h4.ro i b d hr).2.1 j b1 e g1 r2
theorem aZ {C:Ctx} {ρ:Env} {H':Hp} {w:World} {F F':Fr} {a:Act} (h4:A2 C ρ H' w) (hF:V6 H'.length F F') (h:B7 ρ F' a):B7 (ρ.push none) F a:=by
 obtain ⟨gl,gg⟩:=Hz hF;refine ⟨h.nod,by rw [gl,h.len],fun i v hv=>?_⟩;obtain ⟨v',e1,e2⟩:=gg i v hv;exact Lj (by rw [h4.len];exact e2) (h.val i v' e1)
theorem gB {ρ:Env} {w:World}:Frm ρ w (ρ.push none) w:=by
 have none':∀ (i:Nat) x,(ρ.push none).rw[i]?=some (some x)→ρ.rw[i]?=some (some x):=fun i x hx=>by
  rcases M2 ρ none i _ hx with ⟨_,h⟩ | ⟨_,h⟩
  ·exact h
  ·simp at h
 exact ⟨rfl,rfl,rfl,Nat.le_refl _,fun _ _ _=>rfl,fun i x hx=>.inl ⟨i,x,none' i x hx,rfl⟩,fun _ _ _ h=>h,fun _ _ _ h=>.inl h,fun _ h=>.inl h⟩
theorem B8.nil {C:Ctx} {m:Nat} {c:Code} {F F':Fr} {H H':Hp} {Q:Post} (e:Nat) (hm:m≤H'.length) (hF:V6 H'.length F F') (hH:Ll H'.length H H') (h:B8 C m c F (H++[some ⟨e,[]⟩]) Q):B8 C m c F' H' Q:=by
 intro r hr ρ a w h4 h5
 have:=h r hr (ρ.push none) a w (gA e hH h4) (aZ h4 hF h5)
 refine Code.wpIn_mono (fun e' a' w' h=>AP.link ?_ gB h) this;intro i hi
 have:i<ρ.rw.length:=by rw [h4.len];omega
 simp [Env.push,List.getElem?_append_left this]
theorem E1.renM {m:Nat} {θ:List Nat} {F F':Fr} {H H':Hp} (hm:m≤H.length) (hfix:∀ i,i<m→θ.getD i 0=i) (hnd:θ.Nodup) (hb:Iw θ H' H.length θ H) (hF:D1 H.length F=true) (hF':wk (rens θ F) F'):E1 m F H F' H':=by
 obtain ⟨θ',g1,_,_,g2,g3,g4,g5,g6⟩:=(E1.ren hnd hb hF hF').ex;have hl:=Gu hb;have hg:=Gv hb;refine ⟨θ,hl,hm,hfix,fun i hi=>(hg i hi).1,fun i j b b' h1 h2 he=>?_,fun i b h=>?_,g5,fun k v hk=>?_⟩
 ·have hi:i<θ.length:=by rw [hl];exact (List.getElem?_eq_some_iff.1 h1).1
  have hj:j<θ.length:=by rw [hl];exact (List.getElem?_eq_some_iff.1 h2).1
  simp only [List.getD,List.getElem?_eq_getElem hi,List.getElem?_eq_getElem hj,Option.getD_some] at he;exact (List.getElem_inj hnd).1 he
 ·have hi:i<θ.length:=by rw [hl];exact (List.getElem?_eq_some_iff.1 h).1
  obtain ⟨q1,q2⟩:=(hg i hi).2 b h;refine ⟨_,q2,by rw [G4];simp,rfl,fun k v hk=>?_,fun _=>⟨by rw [G4];simp,by rw [G4];simp⟩⟩;rw [R8,List.all_eq_true] at q1;refine ⟨by rw [hl];exact q1 v (List.mem_of_getElem? hk),.inr ?_⟩;rw [G4];simp [hk]
 ·rw [R8,List.all_eq_true] at hF;refine ⟨by rw [hl];exact hF v (List.mem_of_getElem? hk),?_⟩;rcases Mg hF' k (Go.Am.D5 θ v) (by rw [G4];simp [hk]) with h | h
  ·left;cases v with
   | undef=>rfl
   | ptr r o=>cases r<;>simp [Go.Am.D5] at h
   | slice m r o n=>cases r<;>simp [Go.Am.D5] at h
   | _=>simp [Go.Am.D5] at h
  ·exact .inr h
theorem Qv {k:Nat} {f g:Nat→AV}:∀ (l:List Nat),(∀ i∈l,Ia k (f i) (g i))→V6 k (l.map f) (l.map g)
 | [],_=>trivial
 | x::l,h=>⟨h x (by simp),Qv l fun i hi=>h i (by simp [hi])⟩
theorem Nf {k i:Nat}:∀ (live:List Nat) (vs vs':List AV),V6 k vs vs'→Ia k ((((live.zip vs).find? fun p=>Nat.beq p.1 i).map (·.2)).getD .undef) ((((live.zip vs').find? fun p=>Nat.beq p.1 i).map (·.2)).getD .undef)
 | [],_,_,_=>by simp [Ia]
 | j::live,[],[],_=>by simp [Ia]
 | j::live,[],_::_,h=>h.elim
 | j::live,_::_,[],h=>h.elim
 | j::live,x::vs,y::vs',h=>by
  simp only [List.zip_cons_cons,List.find?_cons];split
  ·simpa using h.1
  ·exact Nf live vs vs' h.2
theorem dM {k N:Nat} {live:List Nat} {vs vs':List AV} (h:V6 k vs vs'):V6 k (fl N live vs) (fl N live vs'):=
 Qv _ fun i _=>Nf live vs vs' h
theorem B8.pin {C:Ctx} {m m':Nat} {c:Code} {F:Fr} {H:Hp} {Q:Post} (hm:m'≤m) (h:B8 C m c F H Q):B8 C m' c F H Q:=by
 intro r hr ρ a w hH hF;refine Code.wpIn_mono ?_ (h r hr ρ a w hH hF);rintro e a' w' ⟨ae,ρ',F',H',h1,h2,h3,h4⟩;exact ⟨ae,ρ',F',H',h1,h2,fun i hi=>h3 i (by omega),h4⟩
theorem X5.of {C:Ctx} {M:Nat} {c:Code} {d:DL} (h:∀ vs H o,d.S vs H=some o→∀ n (Q:Ex→List AV→Hp→Prop),E4 C.G (fun e vs' H'=>Q e (vVs C.G vs') (B0 C.G H')) n o→
  B8 C M (.loop c) (fl d.N d.live (vVs C.G vs)) (B0 C.G H) (lv d.N d.live (Lp M Q))):X5 C M c d:=
 fun m vs H o hm ho n Q hQ=>((h vs H o ho n Q hQ).pin hm).lmono fun e vs H' hl=>hl.pin hm
end Go.Am
namespace Go
end Go
namespace Go.Am
section
variable {H:Type} {P:Program} {L:List RoE} {n:Nat} {t e:TypeId} {cs:List AV} {a:AV} {d:DataW H}
theorem gP {ρ:Env} {v:Value} (k o:Nat) (h:VR ρ .nils v):VR ρ (.slice true (.ro k) o 0) v:=by
 simp only [VR] at h ⊢;subst h;exact ⟨none,0,rfl,Nat.le_refl _,.inl ⟨rfl,rfl,rfl⟩⟩
theorem Of {ρ:Env} {v:Value} {mb:Bool} {r:Ref} {o m:Nat} (h:VR ρ (.slice mb r o m) v):VR ρ (.slice true r o m) v:=by
 simp only [VR] at h ⊢;obtain ⟨ca,cap,h1,h2,h3⟩:=h;refine ⟨ca,cap,h1,h2,?_⟩;rcases h3 with ⟨h3,h4,_⟩ | h3
 ·exact .inl ⟨h3,h4,rfl⟩
 ·exact .inr h3
end
end Go.Am
namespace Go.Am
variable {C:Ctx}
end Go.Am
namespace Go.Am
variable {C:Ctx}
theorem Pi {n:Nat}:∀ {H:Hp},Z9 n H=true→∀ (i:Nat) b,H[i]?=some (some b)→D1 n b.cells=true
 | [],_,i,b,h=>by simp at h
 | none::H,hb,i,b,h=>by
  cases i with
  | zero=>simp at h
  | succ i=>exact Pi (H:=H) (by simpa [Z9] using hb) i b (by simpa using h)
 | some b0::H,hb,i,b,h=>by
  simp only [Z9,Bool.and_eq_true] at hb;cases i with
  | zero=>simp at h;subst h;exact hb.1
  | succ i=>exact Pi (H:=H) hb.2 i b (by simpa using h)
theorem J1.fr {f:FuncId} {args0:List AV} {args:List EV} {H:DHp} {θ:List Nat} {H0 H1:Hp} {v0:AV} {v:EV} {hs:List DHop} (hnd:θ.Nodup) (hl:θ.length=H0.length)
  (hlive:∀ (i:Nat) b,H0[i]?=some b→∃ b0,b=some b0∧D1 θ.length b0.cells=true∧(B0 C.G H)[θ.getD i 0]?=some (some (Ek θ b0)))
  (ha:D1 θ.length args0=true) (he:vVs C.G args=rens θ args0) (h:ACalls C f args0 H0 fun v' H'=>v'=v0∧H'=H1) (hle:H0.length≤H1.length) (hv0:B4 H1.length v0=true) (hb:Z9 H1.length H1=true)
  (hv:vV C.G v=D5 (Ct θ H.length (H1.length - θ.length)) v0) (hm:acts (B0 C.G H) (hs.map (F7 C.G))=Aw θ (B0 C.G H) H1):J1 C f args H v hs:=by
 have key:=Yx h θ hl hnd hlive ha (fun v1 H0' hk=>by
  obtain ⟨rfl,rfl⟩:=hk
  exact ⟨hle,hv0,Pi hb⟩)
 unfold J1;rw [he];refine key.monoK ?_;rintro v' H' ⟨v1,H0',⟨rfl,rfl⟩,rfl,rfl⟩;exact ⟨by rw [hv,C7],hm.symm⟩
end Go.Am
namespace Go.Am
open Go.ChangeShapes Go.WideShapes Go.ChangeAt Go.RowKit
end Go.Am
namespace Go.Am
variable {C:Ctx}
theorem J1.rdN {f:FuncId} {args:List EV} {H:DHp} {v:EV} {σ:Sig} {G':Nat→List AV} {args0:List AV} (hs:eR C (B0 C.G H) σ G') (ha:E2 args0=true) (hw:∀ (ρ:Env) vs,VRs ρ (vVs C.G args) vs→VRs ρ (sbs σ 0 args0) vs)
  (h:∀ B,ACalls ⟨C.P,G',B⟩ f args0 [] fun v' _=>v'=vV C.G v) (hv:B4 0 (vV C.G v)=true∧P7 (vV C.G v)=true):J1 C f args H v []:=by
 unfold J1;refine ((fW hs h ha rfl (fun v' e=>by subst e;exact hv)).weaken hw).monoK ?_;rintro v' H' ⟨rfl,rfl⟩;exact ⟨rfl,by simp [acts]⟩
end Go.Am
namespace Go.Am
variable {C:Ctx}
end Go.Am
namespace Go.Am
variable {C:Ctx}
theorem Ib {k:Nat}:∀ (H:Hp),Ll k H H
 | []=>trivial
 | none::H=>Ib H
 | some b::H=>⟨⟨rfl,Ne _⟩,Ib H⟩
end Go.Am
namespace Go.Am
variable {C:Ctx}
theorem Ov {m:Nat} {c:Code} {N:Nat} {live:List Nat} {Q:Ex→List AV→Hp→Prop} (n:Nat) (st:Nat→List AV) (hp:Nat→Hp)
  (h:∀ i,i≤n→B8 C m c (fl N live (st i)) (hp i) (lv N live fun e vs H=>match e with
   | .normal=>i<n∧((vs=st (i+1)∧H=hp (i+1))∨E1 m (st (i+1)) (hp (i+1)) vs H)
   | e=>Q e vs H)):B8 C m (.loop c) (fl N live (st 0)) (hp 0) (lv N live Q):=by
 refine eN (fun j vs H=>∃ i:Nat,i≤n∧j=n - i∧vs=st i∧H=hp i) n ⟨0,by omega,rfl,rfl,rfl⟩ ?_;rintro j vs H ⟨i,hi,rfl,rfl,rfl⟩;refine (h i hi).lmono ?_;intro e vs' H' hq
 match e,hq with
 | .normal,⟨hin,hq⟩=>
  refine ⟨n - (i+1),by omega,?_⟩;rcases hq with ⟨rfl,rfl⟩ | hq
  ·exact .inl ⟨i+1,by omega,rfl,rfl,rfl⟩
  ·exact .inr ⟨_,_,⟨i+1,by omega,rfl,rfl,rfl⟩,hq⟩
 | .ret,hq=>exact hq
 | .exit i,hq=>exact hq
mutual
def E8:AV→AV→Bool
 | .undef,.undef=>true
 | .bool a,.bool b=>a==b
 | .int k n,.int k' m=>k==k'&&n==m
 | .str s,.str t=>s==t
 | .nilp,.nilp=>true
 | .ptr r o,.ptr r' o'=>decide (r=r')&&Nat.beq o o'
 | .nils,.nils=>true
 | .slice b r o n,.slice b' r' o' n'=>b==b'&&(decide (r=r')&&(Nat.beq o o'&&Nat.beq n n'))
 | .nilf,.nilf=>true
 | .func f c,.func f' c'=>Nat.beq f f'&&O9 c c'
 | .agg c,.agg c'=>O9 c c'
 | .tup c,.tup c'=>O9 c c'
 | .yld i,.yld j=>Nat.beq i j
 | _,_=>false
termination_by structural x=>x
def O9:List AV→List AV→Bool
 | [],[]=>true
 | x::l,y::k=>E8 x y&&O9 l k
 | _,_=>false
termination_by structural x=>x
end
mutual
def Jo:AV→Bool
 | .rcd ..=>false
 | .func _ c=>V1 c
 | .agg c=>V1 c
 | .tup c=>V1 c
 | _=>true
def V1:List AV→Bool
 | []=>true
 | x::l=>Jo x&&V1 l
end
mutual
theorem cZ:∀ x y,E8 x y=true→x=y
 | .undef,y,h=>by cases y<;>simp [E8] at h ⊢
 | .bool a,y,h=>by cases y<;>simp [E8] at h ⊢;exact h
 | .int k n,y,h=>by cases y<;>simp [E8] at h ⊢;exact h
 | .str s,y,h=>by cases y<;>simp [E8] at h ⊢;exact h
 | .nilp,y,h=>by cases y<;>simp [E8] at h ⊢
 | .ptr r o,y,h=>by cases y<;>simp [E8] at h ⊢;exact h
 | .nils,y,h=>by cases y<;>simp [E8] at h ⊢
 | .slice b r o n,y,h=>by cases y<;>simp [E8] at h ⊢;exact h
 | .nilf,y,h=>by cases y<;>simp [E8] at h ⊢
 | .func f c,y,h=>by cases y<;>simp [E8] at h ⊢;exact ⟨h.1,W7 c _ h.2⟩
 | .agg c,y,h=>by cases y<;>simp [E8] at h ⊢;exact W7 c _ h
 | .tup c,y,h=>by cases y<;>simp [E8] at h ⊢;exact W7 c _ h
 | .yld i,y,h=>by cases y<;>simp [E8] at h ⊢;exact h
 | .rcd ..,y,h=>by cases y<;>simp [E8] at h
theorem W7:∀ l k,O9 l k=true→l=k
 | [],k,h=>by cases k<;>simp [O9] at h ⊢
 | x::l,k,h=>by
  cases k with
  | nil=>simp [O9] at h
  | cons y k=>
   simp [O9] at h ⊢;exact ⟨cZ x y h.1,W7 l k h.2⟩
end
mutual
theorem Ye:∀ x,Jo x=true→E8 x x=true
 | .undef,h=>by simp [E8]
 | .bool a,h=>by simp [E8]
 | .int k n,h=>by simp [E8]
 | .str s,h=>by simp [E8]
 | .nilp,h=>by simp [E8]
 | .ptr r o,h=>by simp [E8]
 | .nils,h=>by simp [E8]
 | .slice b r o n,h=>by simp [E8]
 | .nilf,h=>by simp [E8]
 | .func f c,h=>by simp [E8];exact R3 c (by simpa [Jo] using h)
 | .agg c,h=>by simp [E8];exact R3 c (by simpa [Jo] using h)
 | .tup c,h=>by simp [E8];exact R3 c (by simpa [Jo] using h)
 | .yld i,h=>by simp [E8]
 | .rcd ..,h=>by simp [Jo] at h
theorem R3:∀ l,V1 l=true→O9 l l=true
 | [],h=>by simp [O9]
 | x::l,h=>by
  simp only [V1,Bool.and_eq_true] at h;simp [O9,Ye x h.1,R3 l h.2]
end
def S0 (H:Hp):List AV:=H.map fun b=>match b with
 | some b=>.tup [.int .i64 (b.esz:Int),.agg b.cells]
 | none=>.undef
def Sd (H:DHp):List EV:=H.map fun b=>match b with
 | some b=>.tup [.int .i64 (.lit (b.esz:Int)),.agg b.cells]
 | none=>.undef
theorem Pv {G:Nat→List AV}:∀ H:DHp,vVs G (Sd H)=S0 (B0 G H)
 | []=>rfl
 | none::H=>by
  have:=Pv (G:=G) H
  simp only [Sd,S0,B0,List.map_cons,vVs,vV,Option.map_none] at this ⊢;rw [this]
 | some b::H=>by
  have:=Pv (G:=G) H
  simp only [Sd,S0,B0,List.map_cons,vVs,vV,vI,Option.map_some,J6] at this ⊢;rw [this]
theorem Va:∀ H H':Hp,S0 H=S0 H'→H=H'
 | [],[],_=>rfl
 | [],_::_,h=>by simp [S0] at h
 | _::_,[],h=>by simp [S0] at h
 | b::H,b'::H',h=>by
  simp only [S0,List.map_cons,List.cons.injEq] at h;have h2:=Va H H' h.2;subst h2;have h1:=h.1
  match b,b',h1 with
  | none,none,_=>rfl
  | none,some b',h1=>simp at h1
  | some b,none,h1=>simp at h1
  | some ⟨e,c⟩,some ⟨e',c'⟩,h1=>
   simp at h1;obtain ⟨h3,h4⟩:=h1
   have:e=e':=by omega
   subst this;subst h4;rfl
def Sw (vs0:List AV) (H0:Hp):List AV→Bool:=fun xs=>match xs with
 | [.agg vs,.agg hs]=>O9 vs vs0&&O9 hs (S0 H0)
 | _=>false
theorem fS {vs0 vs:List AV} {H0 H:Hp} (h:Sw vs0 H0 [.agg vs,.agg (S0 H)]=true):vs=vs0∧H=H0:=by
 simp only [Sw,Bool.and_eq_true] at h;exact ⟨W7 _ _ h.1,Va _ _ (W7 _ _ h.2)⟩
theorem aF {vs0:List AV} {H0:Hp} (h:V1 vs0=true) (h':V1 (S0 H0)=true):Sw vs0 H0 [.agg vs0,.agg (S0 H0)]=true:=by
 simp only [Sw,Bool.and_eq_true];exact ⟨R3 _ h,R3 _ h'⟩
def Qj (c:Bool) (vs0:List AV) (H0:Hp):List AV→Bool:=fun xs=>c&&Sw vs0 H0 xs
theorem Fu {c:Bool} {vs0:List AV} {H0:Hp} (hc:c=true) (h:V1 vs0=true) (h':V1 (S0 H0)=true):Qj c vs0 H0 [.agg vs0,.agg (S0 H0)]=true:=by
 simp only [Qj,Bool.and_eq_true];exact ⟨hc,aF h h'⟩
def LOut.post (G:Nat→List AV) (m:Nat):LOut→Ex→List AV→Hp→Prop
 | .one e vs H=>fun e' vs' H'=>e'=e∧((wk (vVs G vs) vs'∧H'=B0 G H)∨E1 m (vVs G vs) (B0 G H) vs' H')
 | .tst b x y=>fun e' vs' H'=>(vB G b=true∧x.post G m e' vs' H')∨(vB G b=false∧y.post G m e' vs' H')
 | .chk _ x=>x.post G m
 | _=>fun _ _ _=>False
theorem Cc {G:Nat→List AV} {m:Nat} {Q:Ex→List AV→Hp→Prop} {e:Ex} {vs:List AV} {H:Hp}:∀ (o:LOut) (n:Nat),E4 G (fun e vs' H'=>Q e (vVs G vs') (B0 G H')) n o→o.post G m e vs H→Lp m Q e vs H
 | .one e' vs' H',n,h,hp=>by
  simp only [E4] at h;obtain ⟨rfl,hp⟩:=hp;rcases hp with ⟨h1,rfl⟩ | hp
  ·exact .inl ⟨_,h1,h⟩
  ·exact .inr ⟨_,_,hp,h⟩
 | .tst b x y,n,h,hp=>by
  simp only [E4] at h;rcases hp with ⟨hb,hp⟩ | ⟨hb,hp⟩
  ·exact Cc x n (h.1 hb) hp
  ·exact Cc y n (h.2 hb) hp
 | .chk b x,n,h,hp=>by
  simp only [E4] at h;exact Cc x n h.2 hp
 | .imp ..,n,h,hp=>hp.elim
 | .allI ..,n,h,hp=>hp.elim
 | .allN ..,n,h,hp=>hp.elim
 | .allB ..,n,h,hp=>hp.elim
 | .allL ..,n,h,hp=>hp.elim
 | .namI ..,n,h,hp=>hp.elim
 | .namN ..,n,h,hp=>hp.elim
 | .namB ..,n,h,hp=>hp.elim
 | .namL ..,n,h,hp=>hp.elim
def Z7 (j:Nat) (q:List AV→Bool) (ex N:Nat) (live:List Nat) (o:LOut):DL:=
 ⟨ex,N,live,fun vs H=>some (.chk (.uf j q [.agg (.of vs),.agg (.of (Sd H))]) o)⟩
theorem Kn {M:Nat} {c:Code} {j:Nat} {ex N:Nat} {live:List Nat} {o:LOut} {vs0:List AV} {H0:Hp} {q:List AV→Bool} {cb:Bool} (hq:q=Qj cb vs0 H0)
  (h:cb=true→B8 C M (.loop c) (fl N live vs0) H0 (lv N live (o.post C.G M))):X5 C M c (Z7 j q ex N live o):=by
 refine .of fun vs H o' ho n Q hQ=>?_;simp only [Z7,Option.some.injEq] at ho;subst ho;obtain ⟨h1,h2⟩:=hQ;simp only [vB,vVs,vV,vL,Pv] at h1;rw [hq] at h1;simp only [Qj,Bool.and_eq_true] at h1;obtain ⟨e1,e2⟩:=fS h1.2;rw [e1,e2];exact (h h1.1).lmono fun e vs H hp=>Cc o n h2 hp
theorem B8.nilL {m:Nat} {c:Code} {N:Nat} {live:List Nat} {H:Hp} {Q:Post} {vs:List AV} (vs':List AV) (e:Nat) (hm:m≤H.length) (hv:V6 H.length vs' vs) (h:B8 C m c (fl N live vs') (H++[some ⟨e,[]⟩]) Q):B8 C m c (fl N live vs) H Q:=
 B8.nil e hm (dM hv) (Ib H) h
end Go.Am
namespace Go.Am
open Go.RowKit
theorem B8.block {C:Ctx} {m id:Nat} {c:Code} {F:Fr} {H:Hp} {Q:Post} (h:B8 C m c F H (R1 id Q)):B8 C m (.block id c) F H Q:=by
 intro r hr ρ a w hH hF;refine wpIn_block (Code.wpIn_mono ?_ (h r (Hy hr) ρ a w hH hF));rintro e a' w' ⟨ae,ρ',F',H',rfl,h2,h3⟩;cases ae with
 | normal=>exact ⟨.normal,ρ',F',H',rfl,h2,h3⟩
 | ret=>exact ⟨.ret,ρ',F',H',rfl,h2,h3⟩
 | exit i=>
  simp only [R1] at h2;show (if i=id then AP C m ρ w Q .normal a' w' else AP C m ρ w Q (.exit i) a' w');split at h2
  ·rename_i hi;rw [if_pos (by simpa using hi)];exact ⟨.normal,ρ',F',H',rfl,h2,h3⟩
  ·rename_i hi;rw [if_neg (by simpa using hi)];exact ⟨.exit i,ρ',F',H',rfl,h2,h3⟩
end Go.Am
namespace Go.Am
open Go.RowKit
mutual
def fz (m k:Nat):AV→AV
 | .ptr (.rw i) off=>bif Nat.beq i m then .ptr (.ro k) off else .ptr (.rw i) off
 | .slice mb (.rw i) off len=>bif Nat.beq i m then .slice mb (.ro k) off len else .slice mb (.rw i) off len
 | .func f cap=>.func f (fzs m k cap)
 | .agg cs=>.agg (fzs m k cs)
 | .tup vs=>.tup (fzs m k vs)
 | v=>v
def fzs (m k:Nat):List AV→List AV
 | []=>[]
 | v::vs=>fz m k v::fzs m k vs
end
def fzB (m k:Nat) (b:Option Blk):Option Blk:=match b with
 | some b=>some ⟨b.esz,fzs m k b.cells⟩
 | none=>none
def Io (m k:Nat) (H:Hp):Hp:=(H.map (fzB m k)).set m none
theorem Y7 (m k:Nat):∀ l,fzs m k l=l.map (fz m k)
 | []=>by simp [fzs]
 | v::l=>by simp [fzs,Y7 m k l]
def Env.frz (ρ:Env) (k:Nat) (x:Option F9):Env:=⟨ρ.rw,fun i b d=>ρ.ro i b d∨∃ e,x=some e∧i=k∧b=e.blk∧d=0,ρ.dfs⟩
theorem Env.le_frz (ρ:Env) (k:Nat) (x:Option F9):ρ.le (ρ.frz k x):=⟨fun _ _ h=>h,fun _ _ _ h=>.inl h,fun _ h=>h⟩
theorem gR {ρ:Env} {m k:Nat} {x:Option F9} (hx:ρ.rw[m]?=some x) {off:Nat} {v:Value} (h:J0 ρ (.rw m) off v):J0 (ρ.frz k x) (.ro k) off v:=by
 obtain ⟨e,h1,rfl⟩:=h;rw [hx] at h1;simp at h1;subst h1;exact ⟨e.blk,0,.inr ⟨e,rfl,rfl,rfl,rfl⟩,by rw [Nat.zero_add]⟩
theorem cE {ρ:Env} {m k:Nat} {x:Option F9} (hx:ρ.rw[m]?=some x) {mb:Bool} {off len:Nat} {v:Value} (h:L0 ρ mb (.rw m) off len v):L0 (ρ.frz k x) mb (.ro k) off len v:=by
 obtain ⟨ca,cap,hv,hl,hc⟩:=h;refine ⟨ca,cap,hv,hl,?_⟩;rcases hc with hc | hc | ⟨e,h1,h2,_⟩
 ·exact .inl hc
 ·exact .inr (.inl hc)
 ·rw [hx] at h1;simp at h1;subst h1;exact .inr (.inr ⟨e.blk,0,.inr ⟨e,rfl,rfl,rfl,rfl⟩,by rw [Nat.zero_add];exact h2⟩)
mutual
theorem Km {ρ:Env} {m k:Nat} {x:Option F9} (hx:ρ.rw[m]?=some x):∀ (v:AV) (cv:Value),VR ρ v cv→VR (ρ.frz k x) (fz m k v) cv
 | .undef,_,_=>by simp [fz,VR]
 | .bool _,_,h=>by simpa [fz,VR] using h
 | .int _ _,_,h=>by simpa [fz,VR] using h
 | .str _,_,h=>by simpa [fz,VR] using h
 | .nilp,_,h=>by simpa [fz,VR] using h
 | .nils,_,h=>by simpa [fz,VR] using h
 | .nilf,_,h=>by simpa [fz,VR] using h
 | .ptr (.rw i) off,cv,h=>by
  simp only [fz];cases hi:Nat.beq i m with
  | true=>
   have:=Nat.eq_of_beq_eq_true hi
   subst this;simp only [cond_true,VR] at h ⊢;exact gR hx h
  | false=>exact VR.mono (Env.le_frz ρ k x) _ _ h
 | .ptr (.ro i) off,cv,h=>by simp only [fz];exact VR.mono (Env.le_frz ρ k x) _ _ h
 | .slice mb (.rw i) off len,cv,h=>by
  simp only [fz];cases hi:Nat.beq i m with
  | true=>
   have:=Nat.eq_of_beq_eq_true hi
   subst this;simp only [cond_true,VR] at h ⊢;exact cE hx h
  | false=>exact VR.mono (Env.le_frz ρ k x) _ _ h
 | .slice mb (.ro i) off len,cv,h=>by simp only [fz];exact VR.mono (Env.le_frz ρ k x) _ _ h
 | .func f cap,cv,h=>by
  simp only [fz,VR] at h ⊢;obtain ⟨cs,e,hs⟩:=h;exact ⟨cs,e,Oe hx cap _ hs⟩
 | .agg cap,cv,h=>by
  simp only [fz,VR] at h ⊢;obtain ⟨cs,e,hs⟩:=h;exact ⟨cs,e,Oe hx cap _ hs⟩
 | .tup cap,cv,h=>by
  simp only [fz,VR] at h ⊢;obtain ⟨cs,e,hs⟩:=h;exact ⟨cs,e,Oe hx cap _ hs⟩
 | .yld i,cv,h=>by simp only [fz];exact VR.mono (Env.le_frz ρ k x) _ _ h
 | .rcd ..,cv,h=>by simp only [VR] at h
theorem Oe {ρ:Env} {m k:Nat} {x:Option F9} (hx:ρ.rw[m]?=some x):∀ (l:List AV) (cl:List Value),VRs ρ l cl→VRs (ρ.frz k x) (fzs m k l) cl
 | [],_,h=>by simpa [fzs,VRs] using h
 | v::l,cl,h=>by
  simp only [fzs,VRs] at h ⊢;obtain ⟨y,ys,e,h1,h2⟩:=h;exact ⟨y,ys,e,Km hx v y h1,Oe hx l ys h2⟩
end
mutual
/-- what names no block of the heap hangs on the read-only places alone -/
theorem Kl {ρ ρ':Env} (h:∀ i b d,ρ.ro i b d→ρ'.ro i b d):∀ (v:AV) (cv:Value),H5 v=true→VR ρ v cv→VR ρ' v cv
 | .undef,_,_,_=>by simp [VR]
 | .bool _,_,_,hv=>by simpa [VR] using hv
 | .int _ _,_,_,hv=>by simpa [VR] using hv
 | .str _,_,_,hv=>by simpa [VR] using hv
 | .nilp,_,_,hv=>by simpa [VR] using hv
 | .nils,_,_,hv=>by simpa [VR] using hv
 | .nilf,_,_,hv=>by simpa [VR] using hv
 | .ptr (.rw i) off,_,hb,_=>by simp [H5] at hb
 | .ptr (.ro i) off,cv,_,hv=>by
  simp only [VR] at hv ⊢;obtain ⟨b,d,h1,h2⟩:=hv;exact ⟨b,d,h _ _ _ h1,h2⟩
 | .slice mb (.rw i) off len,_,hb,_=>by simp [H5] at hb
 | .slice mb (.ro i) off len,cv,_,hv=>by
  simp only [VR] at hv ⊢;obtain ⟨ca,cap,hv,hl,hc⟩:=hv;refine ⟨ca,cap,hv,hl,?_⟩;rcases hc with hc | hc | ⟨b,d,h1,h2⟩
  ·exact .inl hc
  ·exact .inr (.inl hc)
  ·exact .inr (.inr ⟨b,d,h _ _ _ h1,h2⟩)
 | .func f cap,cv,hb,hv=>by
  simp only [H5] at hb;simp only [VR] at hv ⊢;obtain ⟨cs,e,hs⟩:=hv;exact ⟨cs,e,Gx h cap _ hb hs⟩
 | .agg cap,cv,hb,hv=>by
  simp only [H5] at hb;simp only [VR] at hv ⊢;obtain ⟨cs,e,hs⟩:=hv;exact ⟨cs,e,Gx h cap _ hb hs⟩
 | .tup cap,cv,hb,hv=>by
  simp only [H5] at hb;simp only [VR] at hv ⊢;obtain ⟨cs,e,hs⟩:=hv;exact ⟨cs,e,Gx h cap _ hb hs⟩
 | .yld i,cv,hb,_=>by simp [H5] at hb
 | .rcd ..,cv,_,hv=>by simp only [VR] at hv
theorem Gx {ρ ρ':Env} (h:∀ i b d,ρ.ro i b d→ρ'.ro i b d):∀ (l:List AV) (cl:List Value),E2 l=true→VRs ρ l cl→VRs ρ' l cl
 | [],_,_,hv=>by simpa [VRs] using hv
 | v::l,cl,hb,hv=>by
  simp only [E2,Bool.and_eq_true] at hb;simp only [VRs] at hv ⊢;obtain ⟨x,xs,e,h1,h2⟩:=hv;exact ⟨x,xs,e,Kl h v x hb.1 h1,Gx h l xs hb.2 h2⟩
end
def Zp (x y:AV):Prop:=∀ (ρ:Env) cv,VR ρ x cv→VR ρ y cv
def Zq (C:Ctx) (m k:Nat) (H:Hp):Prop:=
 ∃ b,H[m]?=some (some b)∧isRec b=false∧∀ (j:Nat) v,(C.G k)[j]?=some v→∃ x,b.cells[j]?=some x∧H5 x=true∧Zp x v
theorem A2.frz {C:Ctx} {ρ:Env} {H:Hp} {w:World} {m k:Nat} (hH:A2 C ρ H w) (hf:Zq C m k H) :
  ∃ ρ',ρ.le ρ'∧ρ'.rw=ρ.rw∧ρ'.dfs=ρ.dfs∧A2 C ρ' (Io m k H) w∧Frm ρ w ρ' w∧∀ v cv,VR ρ v cv→VR ρ' (fz m k v) cv:=by
 obtain ⟨b,hb,hr,hc⟩:=hf;have hl:=hH.live m b hb
 obtain ⟨x,hx⟩:∃ x,ρ.rw[m]?=some x:=by
  cases h:ρ.rw[m]? with
  | none=>rw [h] at hl;exact hl.elim
  | some x=>exact ⟨x,rfl⟩
 have le:=Env.le_frz ρ k x
 have key:∀ (i:Nat) c,(Io m k H)[i]?=some (some c)→i≠m∧∃ c0,H[i]?=some (some c0)∧c=⟨c0.esz,fzs m k c0.cells⟩:=fun i c h=>by
  unfold Io at h;rw [List.getElem?_set] at h;by_cases hi:m=i
  ·rw [if_pos hi] at h;split at h<;>simp at h
  ·rw [if_neg hi,List.getElem?_map] at h;obtain ⟨o,ho,h⟩:=Option.map_eq_some_iff.1 h;cases o with
   | none=>simp [fzB] at h
   | some c0=>simp [fzB] at h;exact ⟨fun h=>hi h.symm,c0,ho,h.symm⟩
 refine ⟨ρ.frz k x,le,rfl,rfl,⟨by simp [Io,Env.frz,hH.len],hH.base,hH.ents,fun i c h=>?_,fun i j c c' e e' h1 h2 h3 h4 h5=>?_,fun i b1 d hro=>?_,fun D hD=>⟨(hH.df D hD).1,(hH.df D hD).2.1,fun i d hro=>?_⟩⟩,
  ⟨rfl,rfl,rfl,Nat.le_refl _,fun _ _ _=>rfl,fun i e h=>.inl ⟨i,e,h,rfl⟩,fun _ _ _ h=>.inl h,fun i b1 d hro=>?_,fun _ h=>.inl h⟩,fun v cv h=>Km hx v cv h⟩
 ·obtain ⟨_,c0,h1,rfl⟩:=key i c h;have hl:=hH.live i c0 h1;show I1 _ _ (ρ.rw[i]?) _
  match hxi:ρ.rw[i]?,hl with
  | some (some e),hl=>
   have hrr:isRec (⟨c0.esz,fzs m k c0.cells⟩:Blk)=isRec c0:=rfl;cases hr0:isRec c0 with
   | true=>
    obtain ⟨g1,r,g2,p,ps,a,bd,F,q1,q2,q3,q4,q5,q6,q7⟩:=hl.rec hr0;refine .ofRec (hrr.trans hr0) ⟨g1,r,g2,p,ps,a,bd,F.map (fz m k),by simp only [q1,Y7,List.map_cons,fz],q2,q3,q4,q5,by simpa using q6,fun j v hv=>?_⟩;simp only [List.getElem?_map,Option.map_eq_some_iff] at hv;obtain ⟨v0,hv0,rfl⟩:=hv;exact Km hx v0 _ (q7 j v0 hv0)
   | false=>
    obtain ⟨g1,cs,ty,fz0,g2,g3,g4,g5,g6⟩:=hl.cs hr0;refine .of (hrr.trans hr0) ⟨g1,cs,ty,fz0,g2,g3,by simpa [Y7] using g4,fun j v hv=>?_,g6⟩;simp only [Y7,List.getElem?_map,Option.map_eq_some_iff] at hv;obtain ⟨v0,hv0,rfl⟩:=hv;obtain ⟨cv,p1,p2⟩:=g5 j v0 hv0;exact ⟨cv,p1,Km hx v0 cv p2⟩
  | some none,hl=>
   have:c0.cells=[]:=hl
   show fzs m k c0.cells=[];rw [this];simp [fzs]
  | none,hl=>exact hl.elim
 ·obtain ⟨_,c0,g1,_⟩:=key i c h1;obtain ⟨_,c1,g2,_⟩:=key j c' h2;exact hH.inj i j c0 c1 e e' g1 g2 h3 h4 h5
 ·rcases hro with hro | ⟨e,rfl,rfl,rfl,rfl⟩
  ·obtain ⟨g1,g2,g3⟩:=hH.ro i b1 d hro;refine ⟨g1,fun j c e q1 q2=>?_,fun j v hv=>?_⟩
   ·obtain ⟨_,c0,q3,_⟩:=key j c q1;exact g2 j c0 e q3 q2
   ·obtain ⟨cv,q1,q2⟩:=g3 j v hv;exact ⟨cv,q1,VR.sub (ρ:=⟨[],ρ.ro,[]⟩) ⟨fun _ _ h=>by simp at h,fun _ _ _ h=>Or.inl h⟩ v cv q2⟩
  ·rw [hx] at hl;obtain ⟨g1,cs,ty,fz0,g2,g3,g4,g5,g6⟩:=hl.cs hr;refine ⟨(hH.ents m e hx).2,fun j c e' q1 q2 hbe=>?_,fun j v hv=>?_⟩
   ·obtain ⟨hne,c0,q3,_⟩:=key j c q1;exact hne (hH.inj j m c0 b e' e q3 hb q2 hx hbe)
   ·obtain ⟨y,q1,q2,q3⟩:=hc j v hv;obtain ⟨cv,q4,q5⟩:=g5 j y q1;refine ⟨cv,by simp [World.cell?,g2,q4],q3 _ _ (Kl (fun i b d h=>?_) y cv q2 q5)⟩;exact .inl h
 ·rcases hro with hro | ⟨e,rfl,rfl,rfl,rfl⟩
  ·exact (hH.df _ hD).2.2 i d hro
  ·exact (hH.df _ hD).2.1 m e hx rfl
 ·rcases hro with hro | ⟨e,rfl,rfl,rfl,rfl⟩
  ·exact .inl hro
  ·exact .inr (.inl ⟨m,e,hx,rfl⟩)
theorem B7.frz {ρ ρ':Env} {m k:Nat} {F:Fr} {a:Act} (h:B7 ρ F a) (hd:ρ'.dfs=ρ.dfs) (hv:∀ v cv,VR ρ v cv→VR ρ' (fz m k v) cv):B7 ρ' (fzs m k F) a:=by
 refine ⟨by rw [hd];exact h.nod,by rw [Y7,List.length_map];exact h.len,fun i v hi=>?_⟩;rw [Y7,List.getElem?_map,Option.map_eq_some_iff] at hi;obtain ⟨v0,h0,rfl⟩:=hi;exact hv _ _ (h.val i v0 h0)
theorem B8.frz {C:Ctx} {n:Nat} {c:Code} {F:Fr} {H:Hp} {Q:Post} {m k:Nat} (hf:Zq C m k H) (h:B8 C n c (fzs m k F) (Io m k H) Q):B8 C n c F H Q:=by
 intro r hr ρ a w hH hF;obtain ⟨ρ',h1,h2,h3,h4,h5,h6⟩:=hH.frz hf
 have:=h r hr ρ' a w h4 (hF.frz h3 h6)
 refine Code.wpIn_mono (fun e a' w' h=>AP.link (fun i _=>by rw [h2]) h5 h) this
theorem Zp.rfl {x:AV}:Zp x x:=fun _ _ h=>h
end Go.Am
namespace Go.Am
open Go.RowKit
def Env.inc (ρ ρ':Env):Prop:=(∀ (i:Nat) e,ρ.rw[i]?=some (some e)→ρ'.rw[i]?=some (some e))∧∀ i b d,ρ.ro i b d→ρ'.ro i b d
theorem J0.inc {ρ ρ':Env} (h:ρ.inc ρ') {r:Ref} {off:Nat} {v:Value} (p:J0 ρ r off v):J0 ρ' r off v:=by
 cases r with
 | rw i=>obtain ⟨e,he,hv⟩:=p;exact ⟨e,h.1 _ _ he,hv⟩
 | ro i=>obtain ⟨b,d,he,hv⟩:=p;exact ⟨b,d,h.2 _ _ _ he,hv⟩
theorem L0.inc {ρ ρ':Env} (h:ρ.inc ρ') {mb:Bool} {r:Ref} {off len:Nat} {v:Value} (p:L0 ρ mb r off len v):L0 ρ' mb r off len v:=by
 obtain ⟨ca,cap,hv,hl,hc⟩:=p;refine ⟨ca,cap,hv,hl,?_⟩;rcases hc with hc | hc | hc
 ·exact .inl hc
 ·exact .inr (.inl hc)
 ·refine .inr (.inr ?_);cases r with
  | rw i=>obtain ⟨e,he,h2⟩:=hc;exact ⟨e,h.1 _ _ he,h2⟩
  | ro i=>obtain ⟨b,d,he,h2⟩:=hc;exact ⟨b,d,h.2 _ _ _ he,h2⟩
mutual
theorem VR.inc {ρ ρ':Env} (h:ρ.inc ρ'):∀ (a:AV) (v:Value),VR ρ a v→VR ρ' a v
 | .undef,v,hv=>by simp only [VR] at *
 | .bool b,v,hv=>by simpa only [VR] using hv
 | .int k n,v,hv=>by simpa only [VR] using hv
 | .str s,v,hv=>by simpa only [VR] using hv
 | .nilp,v,hv=>by simpa only [VR] using hv
 | .ptr r off,v,hv=>by simp only [VR] at *;exact hv.inc h
 | .nils,v,hv=>by simpa only [VR] using hv
 | .slice mb r off len,v,hv=>by simp only [VR] at *;exact hv.inc h
 | .nilf,v,hv=>by simpa only [VR] using hv
 | .func f cap,v,hv=>by
  simp only [VR] at *;obtain ⟨cs,e,hs⟩:=hv;exact ⟨cs,e,VRs.inc h cap _ hs⟩
 | .agg cs,v,hv=>by
  simp only [VR] at *;obtain ⟨vs,e,hs⟩:=hv;exact ⟨vs,e,VRs.inc h cs _ hs⟩
 | .tup cs,v,hv=>by
  simp only [VR] at *;obtain ⟨vs,e,hs⟩:=hv;exact ⟨vs,e,VRs.inc h cs _ hs⟩
 | .yld i,v,hv=>by
  simp only [VR] at *;obtain ⟨e,he,hs⟩:=hv;exact ⟨e,h.1 _ _ he,hs⟩
 | .rcd ..,v,hv=>by simp only [VR] at hv
theorem VRs.inc {ρ ρ':Env} (h:ρ.inc ρ'):∀ (as:List AV) (vs:List Value),VRs ρ as vs→VRs ρ' as vs
 | [],vs,hv=>by simpa only [VRs] using hv
 | a::as,vs,hv=>by
  simp only [VRs] at *;obtain ⟨v,vs',e,h1,h2⟩:=hv;exact ⟨v,vs',e,VR.inc h a v h1,VRs.inc h as vs' h2⟩
end
theorem B7.inc {ρ ρ':Env} {F:Fr} {a:Act} (h:B7 ρ F a) (hl:ρ.inc ρ') (hd:ρ'.dfs=ρ.dfs):B7 ρ' F a:=
 ⟨by rw [hd];exact h.nod,h.len,fun i v hv=>VR.inc hl v _ (h.val i v hv)⟩
section
variable {C:Ctx} {ρ:Env} {H:Hp} {w:World}
theorem I1.inc {ρ':Env} (hle:ρ.inc ρ') {b:Blk} {e:F9} {w':World} (h:I1 ρ b (some (some e)) w) (hk:w'.heap[e.blk]?=w.heap[e.blk]?):I1 ρ' b (some (some e)) w':=by
 cases hr:isRec b with
 | true=>
  obtain ⟨g1,r,g2,p,ps,a,bd,F,h1,h2,h3,h4,h5,h6,h7⟩:=h.rec hr;exact .ofRec hr ⟨g1,r,hk.trans g2,p,ps,a,bd,F,h1,h2,h3,h4,h5,h6,fun i v hv=>VR.inc hle v _ (h7 i v hv)⟩
 | false=>
  obtain ⟨g1,cs,ty,fz,g2,g3,g4,g5,g6⟩:=h.cs hr;exact .of hr ⟨g1,cs,ty,fz,hk.trans g2,g3,g4,fun k v hv=>by obtain ⟨cv,q1,q2⟩:=g5 k v hv;exact ⟨cv,q1,VR.inc hle v cv q2⟩,g6⟩
def Env.at (ρ:Env) (i:Nat) (e:F9):Env:=⟨ρ.rw.set i (some e),ρ.ro,ρ.dfs⟩
theorem Env.inc_at {i:Nat} {e:F9} (h:ρ.rw[i]?=some none):ρ.inc (ρ.at i e):=by
 refine ⟨fun j x hx=>?_,fun _ _ _ h=>h⟩;show (ρ.rw.set i (some e))[j]?=_;rw [List.getElem?_set];by_cases hij:i=j
 ·subst hij;rw [h] at hx;simp at hx
 ·rw [if_neg hij];exact hx
theorem A2.fill (hH:A2 C ρ H w) {i:Nat} (hi:H[i]?=some none) (hρ:ρ.rw[i]?=some none) {b:Blk} (hr:isRec b=false) {cs:Array Value} {ty:TypeId} (hl:b.cells.length≤cs.size)
  (hc:∀ (k:Nat) v,b.cells[k]?=some v→∃ cv,cs[k]?=some cv∧VR ρ v cv):A2 C (ρ.at i ⟨w.heap.size,cs.size,b.esz⟩) (H.set i (some b)) (w.alloc (.cells cs ty)):=by
 have hA:=hH.alloc (.cells cs ty);have inc:=Env.inc_at (e:=⟨w.heap.size,cs.size,b.esz⟩) hρ;have hil:i<H.length:=(List.getElem?_eq_some_iff.1 hi).1;have hirl:i<ρ.rw.length:=by rw [hH.len];exact hil
 have hsz:(w.alloc (.cells cs ty)).heap.size=w.heap.size+1:=by show (w.heap.push _).size=_;simp
 have hnew:(w.alloc (.cells cs ty)).heap[w.heap.size]?=some (.cells cs ty (0,0)):=by
  show (w.heap.push _)[w.heap.size]?=_;simp
 have rwAt:∀ j,(ρ.at i ⟨w.heap.size,cs.size,b.esz⟩).rw[j]?=if i=j then some (some ⟨w.heap.size,cs.size,b.esz⟩) else ρ.rw[j]?:=fun j=>by
  show (ρ.rw.set i _)[j]?=_;rw [List.getElem?_set];by_cases h:i=j
  ·subst h;rw [if_pos rfl,if_pos hirl,if_pos rfl]
  ·rw [if_neg h,if_neg h]
 have hAt:∀ j,(H.set i (some b))[j]?=if i=j then some (some b) else H[j]?:=fun j=>by
  rw [List.getElem?_set];by_cases h:i=j
  ·subst h;rw [if_pos rfl,if_pos hil,if_pos rfl]
  ·rw [if_neg h,if_neg h]
 refine ⟨by simp [Env.at,hH.len],by rw [hsz];have:=hH.base;omega,fun j e he=>?_,fun j c hj=>?_,fun j1 j2 b1 b2 e1 e2 h1 h2 h3 h4 h5=>?_,fun k bb d hro=>?_,fun D hD=>?_⟩
 ·rw [rwAt] at he;by_cases h:i=j
  ·rw [if_pos h] at he;simp at he;subst he
   have:=hH.base
   exact ⟨this,by rw [hsz];simp⟩
  ·rw [if_neg h] at he
   have:=hH.ents j e he
   exact ⟨this.1,by rw [hsz];omega⟩
 ·rw [rwAt];rw [hAt] at hj;by_cases h:i=j
  ·rw [if_pos h] at hj ⊢;simp at hj;subst hj;refine .of hr ⟨rfl,cs,ty,(0,0),hnew,rfl,hl,fun k v hv=>?_,.inl rfl⟩;obtain ⟨cv,q1,q2⟩:=hc k v hv;exact ⟨cv,q1,VR.inc inc v cv q2⟩
  ·rw [if_neg h] at hj ⊢;have hb:=hA.live j c hj
   match hx:ρ.rw[j]?,hb with
   | some (some e),hb=>exact hb.inc inc rfl
   | some none,hb=>exact hb
   | none,hb=>exact hb.elim
 ·rw [rwAt] at h3 h4;rw [hAt] at h1 h2;by_cases g1:i=j1
  ·by_cases g2:i=j2
   ·omega
   ·rw [if_pos g1] at h3;rw [if_neg g2] at h4;simp at h3;subst h3
    have:=(hH.ents j2 e2 h4).2
    have h5:w.heap.size=e2.blk:=h5;omega
  ·by_cases g2:i=j2
   ·rw [if_neg g1] at h3;rw [if_pos g2] at h4;simp at h4;subst h4
    have:=(hH.ents j1 e1 h3).2
    have h5:e1.blk=w.heap.size:=h5;omega
   ·rw [if_neg g1] at h1 h3;rw [if_neg g2] at h2 h4;exact hH.inj j1 j2 b1 b2 e1 e2 h1 h2 h3 h4 h5
 ·obtain ⟨q1,q2,q3⟩:=hA.ro k bb d hro;have q0:=(hH.ro k bb d hro).1;refine ⟨q1,fun j x e hj he=>?_,q3⟩;rw [rwAt] at he;rw [hAt] at hj;by_cases h:i=j
  ·rw [if_pos h] at he;simp at he;subst he;show w.heap.size≠bb;omega
  ·rw [if_neg h] at hj he;exact q2 j x e hj he
 ·obtain ⟨q1,q2,q3⟩:=hA.df D hD;have q0:=hH.df_lt hD;refine ⟨q1,fun j e he=>?_,q3⟩;rw [rwAt] at he;by_cases h:i=j
  ·rw [if_pos h] at he;simp at he;subst he;show w.heap.size≠D;omega
  ·rw [if_neg h] at he;exact q2 j e he
def Vn (C:Ctx) (ρ:Env) (w:World) (s:Sem Next) (n:Nat) (b:Blk):Prop:=
 ∃ cs ty cap,s.run C.P w=.ok (.value (.slice (some ⟨w.heap.size,0,none⟩) n cap)) (w.alloc (.cells cs ty))∧n≤cap∧cap*b.esz≤cs.size∧b.cells.length≤cs.size∧
  ∀ (k:Nat) v,b.cells[k]?=some v→∃ cv,cs[k]?=some cv∧VR ρ v cv
theorem Gt {v:Value}:v.cells.size=(A3 (A6 v)).length:=by
 by_cases hu:∃ cs,v=.agg cs
 ·obtain ⟨cs,rfl⟩:=hu;simp [Value.cells,A6,A3]
 ·have e1:v.cells=#[v]:=by cases v<;>first | rfl | exact absurd ⟨_,rfl⟩ hu
  have e2:A3 (A6 v)=[A6 v]:=by
   cases v<;>first | exact absurd ⟨_,rfl⟩ hu | (simp only [A6];unfold M4;split<;>rfl)
  rw [e1,e2];rfl
theorem Pz {t e:TypeId} {n z:Nat} {zv:AV} {parts:List (Nat×AV)} {cparts:Array (Nat×Value)} {cs:List AV} (ht:C.P.underlying t=some (.slice e)) (hz:C2 C.P e=some z) (hzv:I2 C.P e=some zv)
    (hf:Q9 (fun i=>some (i*z,z)) ((List.replicate n (A3 zv)).flatten) parts=some (true,cs)) (hsmall:n*z≤16777216) (hlen:(A3 zv).length=z)
    (hpl:cparts.toList.length=parts.length) (hp:∀ (j:Nat) i v,parts[j]?=some (i,v)→∃ cv,cparts.toList[j]?=some (i,cv)∧VR ρ v cv) :
    Vn C ρ w (do pure (.value (←Instr.buildSlice t n cparts))) n ⟨z,cs⟩:=by
  obtain ⟨i,v,hi,hv,rfl⟩:=G6 hzv;have hcz:v.cells.size=(A3 (A6 v)).length:=Gt
  let zs:Array Value:=if n*z=0 then #[] else v.cells
  have hstart:VRs ρ ((List.replicate n (A3 (A6 v))).flatten) ((Array.range (n*z)).map (zs[· % zs.size]!)).toList:=by
    refine Z3 (by simp [hlen]) fun k x hx=>?_;by_cases h0:n*z=0
    · have:=(List.getElem?_eq_some_iff.1 hx).1
      rw [F5,hlen] at this;omega
    · have ez:zs=v.cells:=by simp [zs,h0]
      have hs:v.cells.size=z:=by omega
      have := Cs       ρ v n n (Nat.le_refl _) hcz (.inr (by rcases Nat.eq_zero_or_pos v.cells.size with h | h; · rw [hs] at h; rw [h] at h0; simp at h0
                                                             · exact h)) k x hx
      rw [hs] at this;rw [ez,hs];obtain ⟨cv,q1,q2⟩:=this;exact ⟨cv,by rw [Array.getElem?_toList];exact q1,q2⟩
  obtain ⟨cr,h1,h2,h3⟩:=T4 (ρ:=ρ) _ parts cparts.toList _ _ cs hf hstart hpl hp;have hsz:cr.size=n*z:=by rw [h3];simp
  have hcl:=B3 h2;simp only [Array.length_toList] at hcl;refine ⟨cr,e,n,?_,Nat.le_refl _,by simp only;omega,by simp only;omega,fun k x hx=>?_⟩
  · simp only [Instr.buildSlice,Sem.run_bind,run_underlying ht,Result.andThen_ok,D4 hz,Sem.run_ite];rw [if_neg (by omega)];by_cases hz0:n*z=0
    · have ez:zs=#[]:=by simp [zs,hz0]
      rw [ez] at h1;rw [if_pos hz0];simp only [Sem.run_pure,Sem.run_bind,Result.andThen_ok,h1,newRow,run_newObj];rfl
    · have ez:zs=v.cells:=by simp [zs,hz0]
      rw [ez] at h1;rw [if_neg hz0];simp only [Sem.run_pure,Sem.run_bind,H6 hi hv,Result.andThen_ok,h1,newRow,run_newObj];rfl
  · obtain ⟨cv,q1,q2⟩:=I8 h2 k x hx;exact ⟨cv,by rw [←Array.getElem?_toList];exact q1,q2⟩
theorem Rk {t e:TypeId} {i:TypeInfo} {k k':IntKind} {l c:Int} {zv:AV} (ht:C.P.underlying t=some (.slice e)) (hi:C.P.info? e=some i) (hzv:I2 C.P e=some zv)
  (h0:0≤l) (h1:l≤c) (hb:c*i.bytes≤140737488355328) (hc:c≤140737488355328) (hlen:(A3 zv).length=i.size) (hpos:1≤i.size) :
  Vn C ρ w (do pure (.value (←Instr.makeSlice t (.int k l) (.int k' c)))) l.toNat ⟨i.size,(List.replicate l.toNat (A3 zv)).flatten⟩:=by
 obtain ⟨i',v,hi',hv,rfl⟩:=G6 hzv;obtain rfl:i'=i:=by rw [hi] at hi';simpa using hi'.symm
 have hcz:v.cells.size=(A3 (A6 v)).length:=Gt;have hs:v.cells.size=i'.size:=by omega
 let zs:Array Value:=if c.toNat*i'.size=0 then #[] else v.cells
 let cs:Array Value:=(Array.range (c.toNat*i'.size)).map (zs[· % zs.size]!)
 have hcs:cs.size=c.toNat*i'.size:=by simp [cs]
 refine ⟨cs,e,c.toNat,?_,by omega,by simp only;omega,?_,fun j x hx=>?_⟩
 ·have wl:IntKind.i64.wrap l=l:=IntWalk.i64_in l (by omega);have wc:IntKind.i64.wrap c=c:=IntWalk.i64_in c (by omega);have nt:¬((i'.bytes:Int)*c>2^48):=by rw [Int.mul_comm];simp;omega
  have hszT:C2 C.P e=some i'.size:=by simp [C2,hi]
  simp only [Instr.makeSlice,Sem.run_bind,run_underlying ht,Result.andThen_ok,asInt,asIntOf,Sem.run_pure,V4 hi,wl,wc,Sem.run_ite];rw [if_neg (by simp;omega)];simp only [run_askRoom,Result.andThen_ok,D4 hszT];by_cases hz0:c.toNat*i'.size=0
  ·have ez:zs=#[]:=by simp [zs,hz0]
   rw [if_pos hz0];simp only [newRow,Sem.run_bind,run_newObj,Sem.run_pure,Result.andThen_ok,cs,ez];rfl
  ·have ez:zs=v.cells:=by simp [zs,hz0]
   rw [if_neg hz0];simp only [newRow,Sem.run_bind,H6 hi hv,run_newObj,Sem.run_pure,Result.andThen_ok,cs,ez];rfl
 ·rw [hcs];simp only [F5,hlen];exact Nat.mul_le_mul_right _ (by omega)
 ·by_cases hz0:c.toNat*i'.size=0
  ·have:=(List.getElem?_eq_some_iff.1 hx).1
   simp only [F5,hlen] at this;have hh:l.toNat*i'.size≤c.toNat*i'.size:=Nat.mul_le_mul_right _ (by omega);omega
  ·have ez:zs=v.cells:=by simp [zs,hz0]
   have:=Cs ρ v l.toNat c.toNat (by omega) hcz (.inr (by omega)) j x hx
   simp only [cs,ez,hs];rw [hs] at this;exact this
def Yu:Op→Bool
 | .buildSlice .. | .makeSlice ..=>true
 | _=>false
theorem gO {F:Fr} {a:Act} (hF:B7 ρ F a) {o:Oper} {v:AV} {h:Hop} (ho:Yu o.op=true) (hw:D2 C F [] o.op=some (true,v,h)) :
  ∃ n b,v=.slice false (.rw 0) 0 n∧h=.new b∧isRec b=false∧Vn C ρ w (execOp a.eval o) n b:=by
 have E:=fun x=>Q4 hF x;obtain ⟨dst,op,type,pos,after,guard⟩:=o;simp only at hw ho;unfold D2 at hw;unfold execOp;split at hw
 case h_4 t n parts=>
  split at hw
  ·rename_i e ht;split at hw
   ·rename_i z zv hz hzv;split at hw
    ·rename_i c cs hf;simp only [Option.some.injEq,Prod.mk.injEq,Bool.and_eq_true,decide_eq_true_eq] at hw;obtain ⟨⟨hok,rfl,h1,h2⟩,rfl,rfl⟩:=hw;refine ⟨n,⟨z,cs⟩,rfl,rfl,T1 hok,Pz ht hz hzv hf h1 h2 (by simp) fun j i v hj=>?_⟩;simp only [List.getElem?_map,Option.map_eq_some_iff,Prod.mk.injEq] at hj;obtain ⟨p,hp,rfl,rfl⟩:=hj;refine ⟨a.eval p.2,?_,E _⟩;simp only [Array.toList_map,List.getElem?_map,hp,Option.map_some]
    ·simp at hw
   ·simp at hw
  ·simp at hw
 case h_5 t l c=>
  split at hw
  ·rename_i e k l' k' c' ht hl hc;split at hw
   ·rename_i i zv hi hzv;simp only [Option.some.injEq,Prod.mk.injEq,Bool.and_eq_true,decide_eq_true_eq] at hw;obtain ⟨⟨hok,h1,h2,h3,h4,h5,h6⟩,rfl,rfl⟩:=hw;have el:=E l;have ec:=E c;rw [hl] at el;rw [hc] at ec;simp only [VR] at el ec
    have:=Rk (w:=w) (ρ:=ρ) (k:=k) (k':=k') ht hi hzv h1 h2 h3 h4 h5 h6
    rw [←el,←ec] at this;exact ⟨_,_,rfl,rfl,T1 hok,this⟩
   ·simp at hw
  ·simp at hw
 all_goals simp [Yu] at ho
structure Tok (C:Ctx) (ρ:Env) (w:World) (e:F9) (k z n:Nat):Prop where
 here:ρ.ro k e.blk 0
 only:∀ i d,ρ.ro i e.blk d→i=k∧d=0
 len:(C.G k).length=n*z
 esz:e.esz=z
 blk:∃ cs ty fz,w.heap[e.blk]?=some (.cells cs ty fz)∧cs.size=e.size∧(fz.1=fz.2∨cs.size≤fz.1)
theorem Tok.keep {ρ':Env} {w':World} {e:F9} {k z n:Nat} (T:Tok C ρ w e k z n) (h:w'.heap[e.blk]?=w.heap[e.blk]?) (hro:∀ i d,ρ'.ro i e.blk d↔ρ.ro i e.blk d):Tok C ρ' w' e k z n:=
 ⟨(hro _ _).2 T.here,fun i d hr=>T.only i d ((hro _ _).1 hr),T.len,T.esz,by rw [h];exact T.blk⟩
def Env.ro1 (ρ:Env) (k b:Nat):Env:=⟨ρ.rw,fun i x d=>ρ.ro i x d∨(i=k∧x=b∧d=0),ρ.dfs⟩
theorem Env.inc_ro1 (k b:Nat):ρ.inc (ρ.ro1 k b):=⟨fun _ _ h=>h,fun _ _ _ h=>.inl h⟩
theorem A2.ro1 (hH:A2 C ρ H w) {k b:Nat} {w':World} (hs:w.heap.size≤w'.heap.size) (hb:b<w'.heap.size) (hnl:∀ (j:Nat) x e,H[j]?=some (some x)→ρ.rw[j]?=some (some e)→e.blk≠b)
  (hnd:∀ D∈ρ.dfs,D≠b) (hk:∀ x,x<w.heap.size→x≠b→w'.heap[x]?=w.heap[x]?) (hold:∀ i d,ρ.ro i b d→∀ (j:Nat) v,(C.G i)[j]?=some v→w'.cell? ⟨b,d+j,none⟩=w.cell? ⟨b,d+j,none⟩)
  (hc:∀ (j:Nat) v,(C.G k)[j]?=some v→∃ cv,w'.cell? ⟨b,j,none⟩=some cv∧VR ⟨[],ρ.ro,[]⟩ v cv):A2 C (ρ.ro1 k b) H w':=by
 have inc:=Env.inc_ro1 (ρ:=ρ) k b;have inc0:∀ v cv,VR ⟨[],ρ.ro,[]⟩ v cv→VR ⟨[],(ρ.ro1 k b).ro,[]⟩ v cv:=fun v cv h=>VR.inc (ρ:=⟨[],ρ.ro,[]⟩) (ρ':=⟨[],(ρ.ro1 k b).ro,[]⟩) ⟨fun _ _ h=>h,fun _ _ _ h=>Or.inl h⟩ v cv h;refine ⟨hH.len,Nat.le_trans hH.base hs,fun j e he=>⟨(hH.ents j e he).1,Nat.lt_of_lt_of_le (hH.ents j e he).2 hs⟩,fun j c hj=>?_,hH.inj,fun i x d hro=>?_,fun D hD=>?_⟩
 ·have hl:=hH.live j c hj;show I1 _ _ (ρ.rw[j]?) _
  match hx:ρ.rw[j]?,hl with
  | some (some e),hl=>exact hl.inc inc (hk _ (hH.ents j e hx).2 (hnl j c e hj hx))
  | some none,hl=>exact hl
  | none,hl=>exact hl.elim
 ·rcases hro with hro | ⟨rfl,rfl,rfl⟩
  ·obtain ⟨q1,q2,q3⟩:=hH.ro i x d hro;refine ⟨Nat.lt_of_lt_of_le q1 hs,q2,fun j v hv=>?_⟩;obtain ⟨cv,g1,g2⟩:=q3 j v hv;refine ⟨cv,?_,inc0 v cv g2⟩;by_cases h:x=b
   ·subst h;rw [hold i d hro j v hv];exact g1
   ·rw [←g1];exact World.cell?_of_block (hk x q1 h)
  ·refine ⟨hb,hnl,fun j v hv=>?_⟩;obtain ⟨cv,g1,g2⟩:=hc j v hv;exact ⟨cv,by rw [Nat.zero_add];exact g1,inc0 v cv g2⟩
 ·obtain ⟨q1,q2,q3⟩:=hH.df D hD;refine ⟨(hk D (hH.df_lt hD) (hnd D hD)).trans q1,q2,fun i d hro=>?_⟩;rcases hro with hro | ⟨_,h,_⟩
  ·exact q3 i d hro
  ·exact hnd D hD h
theorem Qu:∀ {l:List AV} {v:AV},E2 l=true→v∈l→H5 v=true
 | [],v,_,h=>by simp at h
 | x::l,v,h,hm=>by
  simp only [E2,Bool.and_eq_true] at h;rcases List.mem_cons.1 hm with rfl | hm
  ·exact h.1
  ·exact Qu h.2 hm
theorem gN {w:World} {b j:Nat} {cs:Array Value} {ty:TypeId} {fz:Nat×Nat} (h:w.heap[b]?=some (.cells cs ty fz)):w.cell? ⟨b,j,none⟩=cs[j]?:=by simp [World.cell?,h]
theorem Zl (hH:A2 C ρ H w) {e:F9} {k k2 z n mm m:Nat} (T:Tok C ρ w e k z n) (hm:ρ.rw[m]?=some (some e)) (hn:1≤n) (hz1:1≤z) {mb:Bool} {t u ty et:TypeId} {i:TypeInfo} {du:TypeDesc} {zv x:AV} {xs:List AV} {cs cx:Value}
  (ht:C.P.underlying t=some (.slice et)) (hu:C.P.underlying u=some du) (hdu:(∃ e',du=.slice e')∨du=.string) (hi:C.P.info? et=some i) (hz:i.size=z) (hzv:I2 C.P et=some zv) (hzl:(A3 zv).length=i.size)
  (hs:VR ρ (.slice mb (.rw m) 0 n) cs) (hx:VR ρ x cx) (hsrc:Ei C H z x=some (true,mm,xs)) (hnw:E2 xs=true) (hG:C.G k2=C.G k++xs) (hby:(n+mm)*i.bytes≤140737488355328) (hb1:1≤i.bytes) :
  ∃ cv w' b,(Builtin.append_ #[t,u] ty #[cs,cx]).run C.P w=.ok cv w'∧A2 C (ρ.ro1 k2 b) H w'∧VR (ρ.ro1 k2 b) (.slice true (.ro k2) 0 (n+mm)) cv∧(b=e.blk∨w.heap.size≤b)∧w.heap.size≤w'.heap.size∧
   (∀ x,x<w.heap.size→x≠e.blk→w'.heap[x]?=w.heap[x]?)∧w'.os=w.os∧w'.tape=w.tape∧w'.output=w.output:=by
 obtain ⟨i',zval,hi',hzz,rfl⟩:=G6 hzv;obtain rfl:i'=i:=by rw [hi] at hi';simpa using hi'.symm
 subst hz;have hcz:zval.cells.size=(A3 (A6 zval)).length:=Gt;obtain ⟨news,hnl,hnv,hall,hlen,hfirst⟩:=Sx hH hx hsrc;have hxl:xs.length=mm*i'.size:=by rw [←B3 hnv];exact hnl
 obtain ⟨eb,eo,ec⟩:=hH.ro k e.blk 0 T.here;simp only [VR] at hs;obtain ⟨ca,cap,rfl,hnc,hca⟩:=hs;have hnz:1≤n*i'.size:=Nat.mul_le_mul hn hz1
 -- where it stands
 obtain ⟨rfl,hcap⟩:ca=some ⟨e.blk,0,none⟩∧cap*e.esz≤e.size:=by
  rcases hca with ⟨_,h,_⟩ | ⟨_,h⟩ | ⟨e',he',h,hc⟩
  ·omega
  ·omega
  ·rw [hm] at he';simp at he';subst he';exact ⟨h,hc rfl⟩
 -- the old cells
 obtain ⟨olds,hol,_,_,ho3⟩:=Ao (n:=n*i'.size) hH (r:=.ro k) rfl (a:=⟨e.blk,0,none⟩) (off:=0) (.inr ⟨e.blk,0,T.here,rfl⟩) (by rw [T.len];omega)
 have hov:∀ (j:Nat) v,(C.G k)[j]?=some v→∃ cv,olds[j]?=some cv∧VR ⟨[],ρ.ro,[]⟩ v cv:=fun j v hv=>by
  obtain ⟨cv,g1,g2⟩:=ec j v hv;have hj:j<olds.length:=by rw [hol,←T.len];exact (List.getElem?_eq_some_iff.1 hv).1
  have:=ho3 j _ (List.getElem?_eq_getElem hj)
  rw [T7] at this;rw [g1] at this;simp at this;exact ⟨cv,by rw [List.getElem?_eq_getElem hj,this],g2⟩
 have hnvr:∀ (j:Nat) v,xs[j]?=some v→∃ cv,news[j]?=some cv∧VR ⟨[],ρ.ro,[]⟩ v cv:=fun j v hv=>by
  obtain ⟨cv,g1,g2⟩:=I8 hnv j v hv;exact ⟨cv,g1,Kl (ρ:=ρ) (ρ':=⟨[],ρ.ro,[]⟩) (fun _ _ _ h=>h) v cv (Qu hnw (List.mem_of_getElem? hv)) g2⟩
 have hofirst:∀ w':World,w'.heap=w.heap→(Builtin.firstCells i'.size n (.slice (some ⟨e.blk,0,none⟩) n cap)).run C.P w'=.ok olds.toArray w':=fun w' hw'=>Y8 hol fun j v hv=>by
  rw [World.cell?_of_block (w:=w) (by rw [hw'])];exact ho3 j v hv
 have hnd:∀ D∈ρ.dfs,D≠e.blk:=fun D hD h=>(hH.df D hD).2.2 k 0 (by rw [h];exact T.here);by_cases hroom:n+mm≤cap
 ·obtain ⟨lcs,lty,lfz,f1,f2,f3⟩:=T.blk
  have hcapz:(n+mm)*i'.size≤lcs.size:=by
   rw [f2];refine Nat.le_trans (Nat.mul_le_mul_right _ hroom) ?_;rw [←T.esz];exact hcap
  rw [Nat.add_mul] at hcapz;obtain ⟨cs',g1,g2,g3,g4,g5,g6,g7,g8⟩:=Ad e.blk news (n*i'.size) w lcs lty lfz f1 (by omega)
  have hst:(storeCells ⟨e.blk,n*i'.size,none⟩ news).run C.P w=.ok () (w.setCells e.blk (n*i'.size) news):=by
   have:=run_storeCells_cells (P:=C.P) e.blk (n*i'.size) news 0 w (fun j hj=>?_) (fun j hj=>?_) (Hh hnv hall)
   ·simpa using this
   ·simp only [World.cell?,f1]
    simp;omega
   ·simp only [World.frozen?,f1];have hj':n*i'.size+0+j<lcs.size:=by omega
    have:¬(lfz.1≤n*i'.size+0+j∧n*i'.size+0+j<lfz.2):=by omega
    simpa using this
  have cell:∀ j,(w.setCells e.blk (n*i'.size) news).cell? ⟨e.blk,j,none⟩=cs'[j]?:=fun j=>by simp [World.cell?,g1]
  have celo:∀ j,w.cell? ⟨e.blk,j,none⟩=lcs[j]?:=fun j=>by simp [World.cell?,f1]
  refine ⟨.slice (some ⟨e.blk,0,none⟩) (n+mm) cap,_,e.blk,N7 ht hu hdu hi (some ⟨e.blk,0,none⟩) n cap cx mm news (hlen w) (hfirst w rfl) hroom (w':=w.setCells e.blk (n*i'.size) news) (fun a ha=>?_) (fun h=>by simp at h),
   hH.ro1 (by rw [g4];exact Nat.le_refl _) (by rw [g4];exact eb) eo hnd (fun x _ hx=>g5 x hx) (fun i d hro j v hv=>?_) (fun j v hv=>?_),?_,.inl rfl,by rw [g4];exact Nat.le_refl _,fun x _ hx=>g5 x hx,g6,g7,g8⟩
  ·simp at ha;subst ha;rw [T7,Nat.zero_add];exact hst
  ·obtain ⟨rfl,rfl⟩:=T.only i d hro;have hj:j<n*i'.size:=by rw [←T.len];exact (List.getElem?_eq_some_iff.1 hv).1
   rw [Nat.zero_add,cell,celo,g3 j,if_neg (by omega)]
  ·rw [hG] at hv;rw [cell,g3 j];by_cases hj:j<n*i'.size
   ·rw [List.getElem?_append_left (by rw [T.len];exact hj)] at hv;rw [if_neg (by omega)];obtain ⟨cv,q1,q2⟩:=ec j v hv;rw [Nat.zero_add,celo] at q1;exact ⟨cv,q1,q2⟩
   ·rw [List.getElem?_append_right (by rw [T.len];omega),T.len] at hv;have hlt:=(List.getElem?_eq_some_iff.1 hv).1;rw [if_pos ⟨by omega,by omega⟩];exact hnvr _ v hv
  ·simp only [VR];exact ⟨_,cap,rfl,hroom,.inr (.inr ⟨e.blk,0,.inr ⟨rfl,rfl,rfl⟩,rfl⟩)⟩
 ·have hcg:=grownCap_ge w (n+mm) cap et;have run:=Z1 (ty:=ty) ht hu hdu hi hzz (some ⟨e.blk,0,none⟩) n cap cx mm olds news (hlen w) hfirst hofirst (by omega) (growslice_fits (by omega) hby) hb1;generalize hw':w.drew.alloc (.cells ((olds++news).toArray++Builtin.zeroCells zval.cells (grownCap w (n+mm) cap et - (n+mm))) et)=w' at run;have hsz:w'.heap.size=w.heap.size+1:=by rw [←hw'];show (w.heap.push _).size=_;simp
  have hnew:w'.heap[w.heap.size]?=some (.cells ((olds++news).toArray++Builtin.zeroCells zval.cells (grownCap w (n+mm) cap et - (n+mm))) et (0,0)):=by
   rw [←hw'];show (w.heap.push _)[w.heap.size]?=_;simp
  have hold:∀ x,x<w.heap.size→w'.heap[x]?=w.heap[x]?:=fun x hx=>by
   rw [←hw'];show (w.heap.push _)[x]?=_;rw [Array.getElem?_push,if_neg (by omega)]
  refine ⟨_,w',w.heap.size,run,hH.ro1 (by omega) (by omega) (fun j x e' _ he'=>by have:=(hH.ents j e' he').2;omega) (fun D hD=>by have:=hH.df_lt hD;omega) (fun x hx _=>hold x hx) (fun i d hro=>?_) (fun j v hv=>?_),?_,.inr (Nat.le_refl _),by omega,
   fun x hx _=>hold x hx,by rw [←hw'];rfl,by rw [←hw'];rfl,by rw [←hw'];rfl⟩
  ·exact absurd (hH.ro i _ d hro).1 (Nat.lt_irrefl _)
  ·rw [hG] at hv;have c0:w'.cell? ⟨w.heap.size,j,none⟩=((olds++news).toArray++Builtin.zeroCells zval.cells (grownCap w (n+mm) cap et - (n+mm)))[j]?:=gN hnew;by_cases hj:j<n*i'.size
   ·rw [List.getElem?_append_left (by rw [T.len];exact hj)] at hv;obtain ⟨cv,q1,q2⟩:=hov j v hv;refine ⟨cv,?_,q2⟩;rw [c0,Array.getElem?_append_left (by simp;omega)];simp only [List.getElem?_toArray];rw [List.getElem?_append_left (by omega)];exact q1
   ·rw [List.getElem?_append_right (by rw [T.len];omega),T.len] at hv;have hlt:=(List.getElem?_eq_some_iff.1 hv).1;obtain ⟨cv,q1,q2⟩:=hnvr _ v hv;refine ⟨cv,?_,q2⟩;rw [c0,Array.getElem?_append_left (by simp;omega)];simp only [List.getElem?_toArray];rw [List.getElem?_append_right (by omega),hol];exact q1
  ·simp only [VR];exact ⟨_,_,rfl,hcg,.inr (.inr ⟨w.heap.size,0,.inr ⟨rfl,rfl,rfl⟩,rfl⟩)⟩
end
end Go.Am
namespace Go.Am
open Go.RowKit
structure Tk where
 op:Nat
 m:Nat
 k:Nat
 k2:Nat
 z:Nat
 n:Nat
def HB (H:Hp) (bl:List (Nat×Blk)) (S:Nat→Bool):Hp:=H++bl.map fun p=>bif S p.1 then some p.2 else none
theorem Vp {H:Hp} {bl:List (Nat×Blk)} {S:Nat→Bool}:(HB H bl S).length=H.length+bl.length:=by simp [HB]
theorem Vo {H:Hp} {bl:List (Nat×Blk)} {S:Nat→Bool} {i:Nat} (h:i<H.length):(HB H bl S)[i]?=H[i]?:=by unfold HB;rw [List.getElem?_append_left h]
theorem Je {H:Hp} {bl:List (Nat×Blk)} {S:Nat→Bool} {q:Nat} {p:Nat×Blk} (h:bl[q]?=some p):(HB H bl S)[H.length+q]?=some (bif S p.1 then some p.2 else none):=by
 unfold HB;rw [List.getElem?_append_right (by omega),Nat.add_sub_cancel_left,List.getElem?_map,h];rfl
theorem Mc {H:Hp} {bl:List (Nat×Blk)} {S S':Nat→Bool} (h:∀ (q:Nat) p,bl[q]?=some p→S p.1=S' p.1):HB H bl S=HB H bl S':=by
 unfold HB;congr 1;refine List.map_congr_left fun p hp=>?_;obtain ⟨q,hq⟩:=List.getElem?_of_mem hp;rw [h q p hq]
theorem mA {H:Hp} {bl:List (Nat×Blk)} {S S':Nat→Bool} {q:Nat} {p:Nat×Blk} (h:bl[q]?=some p) (hS':S' p.1=true) (ho:∀ (q':Nat) p',q'≠q→bl[q']?=some p'→S' p'.1=S p'.1):HB H bl S'=(HB H bl S).set (H.length+q) (some p.2):=by
 refine List.ext_getElem? fun i=>?_;rw [List.getElem?_set];by_cases hi:H.length+q=i
 ·subst hi;rw [if_pos rfl,Je h,hS',if_pos]
  ·rfl
  ·rw [Vp];have:=(List.getElem?_eq_some_iff.1 h).1;omega
 ·rw [if_neg hi];by_cases hlt:i<H.length
  ·rw [Vo hlt,Vo hlt]
  ·cases hb:bl[i - H.length]? with
   | none=>
    have:=List.getElem?_eq_none_iff.1 hb
    rw [List.getElem?_eq_none (by rw [Vp];omega),List.getElem?_eq_none (by rw [Vp];omega)]
   | some p'=>
    have e:i=H.length+(i - H.length):=by omega
    rw [e,Je hb,Je hb,ho _ p' (by omega) hb]
section
variable {C:Ctx} {all:List Oper} {bl:List (Nat×Blk)} {tks:List Tk} {vs:List AV} {F0:Fr} {H1:Hp} {ρ0:Env} {w0:World}
inductive B2 (C:Ctx) (all:List Oper) (H1:Hp) (bl:List (Nat×Blk)) (tks:List Tk) (j:Nat) (o:Oper) (F:Fr):AV→Prop
 | pure {v:AV} (hg:o.guard=none) (hl:∀ p∈bl,p.1≠j) (ht:∀ t∈tks,t.op≠j) (h:C1 C.P F o.op=some (true,v)):B2 C all H1 bl tks j o F v
 | load {v:AV} {i:Nat} (hg:o.guard=none) (hl:∀ p∈bl,p.1≠j) (ht:∀ t∈tks,t.op≠j) (h:E3 C F H1 o.op=some (true,v)) (hs:Be F o.op=some (.rw i)) (hi:i<H1.length):B2 C all H1 bl tks j o F v
 | bld {b:Blk} {q n:Nat} (hg:o.guard=none) (ho:Yu o.op=true) (hq:bl[q]?=some (j,b)) (hu:∀ q' p',q'≠q→bl[q']?=some p'→p'.1≠j) (ht:∀ t∈tks,t.op≠j) (h:D2 C F [] o.op=some (true,.slice false (.rw 0) 0 n,.new b)):B2 C all H1 bl tks j o F (.slice false (.rw (H1.length+q)) 0 n)
 | app {tk:Tk} {b:Blk} {mb:Bool} {q j2 mm:Nat} {s x:Operand} {t u et:TypeId} {i:TypeInfo} {du:TypeDesc} {zv:AV} (hg:o.guard=none) (hl:∀ p∈bl,p.1≠j) (htk:tk∈tks) (hj:tk.op=j) (hu:∀ t'∈tks,t'≠tk→t'.op≠j∧t'.k≠tk.k∧t'.k≠tk.k2)
   (ho:o.op=.call { callee:=.builtin .append,args:=#[s,x],argTypes:=#[t,u] }) (hs:ev F s=.slice mb (.rw tk.m) 0 tk.n) (hx:ev F x=.slice false (.rw (H1.length+q)) 0 mm) (hq:bl[q]?=some (j2,b)) (hj2:((O5 all []).getD j 0).testBit j2=true) (hr:isRec b=false)
   (hcs:b.cells.length=mm*tk.z) (hcell:b.cells.all isCell=true) (hnw:E2 b.cells=true)
   (ht:C.P.underlying t=some (.slice et)) (hu1:C.P.underlying u=some du) (hdu:(∃ e',du=.slice e')∨du=.string) (hi:C.P.info? et=some i) (hz:i.size=tk.z) (hzv:I2 C.P et=some zv) (hzl:(A3 zv).length=i.size)
   (hn:1≤tk.n) (hz1:1≤tk.z) (hG:C.G tk.k2=C.G tk.k++b.cells) (hby:(tk.n+mm)*i.bytes≤140737488355328) (hb1:1≤i.bytes):B2 C all H1 bl tks j o F (.slice true (.ro tk.k2) 0 (tk.n+mm))
structure Do (C:Ctx) (all:List Oper) (bl:List (Nat×Blk)) (tks:List Tk) (vs:List AV) (F0:Fr) (H1:Hp) (ρ0:Env) (w0:World) (S:Nat→Bool) (a:Act) (w:World):Prop where
 closed:∀ (j:Nat) o,all[j]?=some o→S j=true→∀ e∈o.after.toList,Region.binds .any e=true→S e.on=true
 rel:∃ ρ,A2 C ρ (HB H1 bl S) w∧B7 ρ (FSel S 0 all vs F0) a∧(∀ i,i<H1.length→ρ.rw[i]?=ρ0.rw[i]?)∧ρ.dfs=ρ0.dfs∧Frm ρ0 w0 ρ w∧
  (∀ (q:Nat) p,bl[q]?=some p→S p.1=false→ρ.rw[H1.length+q]?=some none)∧
  ∀ t∈tks,S t.op=false→∃ e,ρ0.rw[t.m]?=some (some e)∧(∀ i d,¬ρ0.ro i e.blk d)∧t.m<H1.length∧Tok C ρ w e t.k t.z t.n
def Sq (all:List Oper):List Tr:=all.map fun _=>⟨.still,0,[]⟩
theorem Wa (hd:K9 all (Sq all)=true) (hvl:vs.length=all.length)
  (hst:∀ (j:Nat) o,all[j]?=some o→∃ v,vs[j]?=some v∧B2 C all H1 bl tks j o (FSel (A1 j) 0 all vs F0) v)
  {S S':Nat→Bool} {a:Act} {w:World} (hs:Do C all bl tks vs F0 H1 ρ0 w0 S a w) {j:Nat} {o:Oper} (ho:all[j]?=some o) (hS:S j=false) (hS':S' j=true) (hother:∀ k,k≠j→S' k=S k)
  (hready:∀ e∈o.after.toList,Region.binds .any e=true→S e.on=true) {next:Act→World→Prop} {Q:Exit→Act→World→Prop} {r:Option Nat}
  (hn:∀ a' w',Do C all bl tks vs F0 H1 ρ0 w0 S' a' w'→next a' w') :
  if Region.wanted o (yielded all.toArray a.tmps) then o.wpIn (W r) 0 C.P a w next Q else (∀ f,o.about C.P w a.eval=some f→(W r).fn f)∧next (a.put o.dst undef) w:=by
 obtain ⟨v,h2,hb⟩:=hst j o ho;obtain ⟨ρ,hH,hF,hold,hdf,hfr,hhole,htok⟩:=hs.rel;have hjl:j<all.length:=(List.getElem?_eq_some_iff.1 ho).1;have trOf:∀ {i:Nat} {x:Oper},all[i]?=some x→∃ t,(Sq all)[i]?=some t:=fun {i x} h=>⟨_,by rw [Sq,List.getElem?_map,h];rfl⟩;have early:∀ i,((O5 all []).getD j 0).testBit i=true→S i=true:=Y3 hs.closed j o ho hready
 have late:∀ {i:Nat} {x:Oper},all[i]?=some x→((O5 all []).getD i 0).testBit j=true→S i=false:=fun {i x} hx hm=>by
  cases hSi:S i with
  | false=>rfl
  | true=>
   have:=Y3 hs.closed i x hx (hs.closed i x hx hSi) j hm
   rw [hS] at this;simp at this
 obtain ⟨tr1,h1⟩:=trOf ho
 have hag:∀ t∈Cf all o,(FSel S 0 all vs F0).getD t .undef=(FSel (A1 j) 0 all vs F0).getD t .undef:=fun t ht=>by
  refine Me S (A1 j) t all vs 0 F0 F0 rfl rfl fun k x hx hdst=>?_;simp only [Nat.zero_add];obtain ⟨tx,htx⟩:=trOf hx;rcases Nat.lt_trichotomy k j with h | h | h
  ·rw [show A1 j k=true from decide_eq_true h];rcases K2 hd h hx ho htx h1 with hm | ⟨hm,_⟩
   ·exact early k hm
   ·simp only [Z2,hdst,Bool.and_eq_true,Bool.not_eq_true'] at hm
    have:=hm.1.1
    rw [List.contains_eq_mem,decide_eq_false_iff_not] at this;exact absurd ht this
  ·subst h;rw [show A1 k k=false from decide_eq_false (by omega)];exact hS
  ·rw [show A1 j k=false from decide_eq_false (by omega)];rcases K2 hd h ho hx h1 htx with hm | ⟨hm,_⟩
   ·exact late hx hm
   ·simp only [Z2,hdst,Bool.and_eq_true,Bool.not_eq_true'] at hm
    have:=hm.2
    rw [List.contains_eq_mem,decide_eq_false_iff_not] at this;exact absurd ht this
 have ag:By o.op (FSel (A1 j) 0 all vs F0) (FSel S 0 all vs F0):=Ty hag
 have hF':FSel S' 0 all vs F0=put (FSel S 0 all vs F0) o.dst v:=Er S S' all vs 0 F0 j o v ho h2 (by simpa using hS) (by simpa using hS') (fun k hk=>hother k (by simpa using hk)) fun k x hk hx hSk=>by
  simp only [Nat.zero_add] at hSk;obtain ⟨tx,htx⟩:=trOf hx;rcases K2 hd hk ho hx h1 htx with hm | ⟨hm,_⟩
  ·have:=late hx hm;rw [hSk] at this;simp at this
  ·cases hdst:o.dst with
   | none=>exact .inl rfl
   | some d=>
    refine .inr fun e=>?_;simp only [Z2,hdst,Bool.and_eq_true,Bool.not_eq_true',←e] at hm
    have:=hm.1.2
    simp at this
 have hcl':∀ (k:Nat) x,all[k]?=some x→S' k=true→∀ e∈x.after.toList,Region.binds .any e=true→S' e.on=true:=fun k x hx hSk e he hbd=>by
  by_cases hek:e.on=j
  ·rw [hek];exact hS'
  ·rw [hother _ hek];by_cases hkj:k=j
   ·subst hkj;rw [ho] at hx;simp at hx;subst hx;exact hready e he hbd
   ·rw [hother k hkj] at hSk;exact hs.closed k x hx hSk e he hbd
 have wn:∀ {b:Bool},o.guard=none→Region.wanted o (yielded all.toArray a.tmps)=true:=fun {b} hg=>J9 hF (by unfold wantA;rw [hg])
 -- an operation that leaves the heap
 have still:∀ {cv:Value},(∀ p∈bl,p.1≠j)→(∀ t∈tks,t.op≠j)→VR ρ v cv→Do C all bl tks vs F0 H1 ρ0 w0 S' (a.put o.dst cv) w:=fun {cv} g1 g2 hv=>by
  refine ⟨hcl',ρ,?_,?_,hold,hdf,hfr,fun q p hq hp=>?_,fun t ht hp=>?_⟩
  ·rw [Mc (S:=S') (S':=S) fun q p hq=>hother _ (g1 p (List.mem_of_getElem? hq))];exact hH
  ·rw [hF'];exact hF.put _ _ _ hv
  ·rw [hother _ (g1 p (List.mem_of_getElem? hq))] at hp;exact hhole q p hq hp
  ·rw [hother _ (g2 t ht)] at hp;exact htok t ht hp
 cases hb with
 | pure hg g1 g2 h=>
  rw [wn (b:=true) hg,if_pos rfl];have h:=(Mx ag).trans h;obtain ⟨cv,q1,q2⟩:=Mw (w:=w) hF h;refine L8 (Xe h) ?_;rw [q1];exact hn _ _ (still g1 g2 q2)
 | load hg g1 g2 h hsee hi=>
  rw [wn (b:=true) hg,if_pos rfl]
  have h:E3 C (FSel S 0 all vs F0) (HB H1 bl S) o.op=some (true,v):=(Mr ag fun r hr=>by
   rw [hsee] at hr;simp at hr;subst hr
   simp only [D0,Vo hi]).trans h
  obtain ⟨cv,q1,q2⟩:=Mq hH hF h;refine L8 (Xd h) ?_;rw [q1];exact hn _ _ (still g1 g2 q2)
 | @bld b q n hg hob hq hu htk h=>
  rw [wn (b:=true) hg,if_pos rfl];have h:=(Kp (C:=C) (H:=[]) ag).trans h;obtain ⟨n',b',e1,e2,hr,cs,ty,cap,q1,q2,q3,q4,q5⟩:=gO (w:=w) hF hob h;simp only [AV.slice.injEq,true_and] at e1;simp only [Hop.new.injEq] at e2;subst e1 e2;refine L8 (Tt h) ?_;rw [q1];have hi:(HB H1 bl S)[H1.length+q]?=some none:=by rw [Je hq];simp only [hS];rfl
  have hρ:=hhole q _ hq hS;have fill:=hH.fill (b:=b) (cs:=cs) (ty:=ty) hi hρ hr q4 q5;have inc:=Env.inc_at (e:=⟨w.heap.size,cs.size,b.esz⟩) hρ
  have rwAt:∀ k,k≠H1.length+q→(ρ.at (H1.length+q) ⟨w.heap.size,cs.size,b.esz⟩).rw[k]?=ρ.rw[k]?:=fun k hk=>by
   show (ρ.rw.set _ _)[k]?=_;rw [List.getElem?_set,if_neg (fun h=>hk h.symm)]
  have rwHere:(ρ.at (H1.length+q) ⟨w.heap.size,cs.size,b.esz⟩).rw[H1.length+q]?=some (some ⟨w.heap.size,cs.size,b.esz⟩):=by
   show (ρ.rw.set _ _)[_]?=_
   have:=(List.getElem?_eq_some_iff.1 hρ).1
   rw [List.getElem?_set,if_pos rfl,if_pos this]
  have hsz:(w.alloc (.cells cs ty)).heap.size=w.heap.size+1:=by show (w.heap.push _).size=_;simp
  have hk:∀ x,x<w.heap.size→(w.alloc (.cells cs ty)).heap[x]?=w.heap[x]?:=fun x hx=>by
   show (w.heap.push _)[x]?=_;rw [Array.getElem?_push,if_neg (by omega)]
  have fr:=hfr.alloc (.cells cs ty);refine hn _ _ ⟨hcl',ρ.at (H1.length+q) ⟨w.heap.size,cs.size,b.esz⟩,?_,?_,fun i hi=>?_,hdf,⟨fr.os,fr.tape,fr.output,fr.size,fr.keep,fun i e he=>?_,fr.ro,fr.newro,fr.mkn⟩,fun q' p' hq' hp=>?_,fun t ht hp=>?_⟩
  ·rw [mA (S:=S) (S':=S') hq hS' fun q' p' hne hq'=>hother _ (hu q' p' hne hq')];exact fill
  ·rw [hF'];refine (hF.inc inc rfl).put _ _ _ ?_;simp only [VR];exact ⟨_,cap,rfl,q2,.inr (.inr ⟨_,rwHere,rfl,fun _=>q3⟩)⟩
  ·rw [rwAt i (by omega)];exact hold i hi
  ·by_cases h:i=H1.length+q
   ·subst h;rw [rwHere] at he;simp at he;subst he;exact .inr hfr.size
   ·rw [rwAt i h] at he;exact hfr.news i e he
  ·have hne:q'≠q:=fun h=>by
    subst h;rw [hq] at hq';simp at hq';subst hq';rw [hS'] at hp;simp at hp
   rw [rwAt _ (by omega)];rw [hother _ (hu q' p' hne hq')] at hp;exact hhole q' p' hq' hp
  ·rw [hother _ (htk t ht)] at hp;obtain ⟨e,t1,t2,t3,t4⟩:=htok t ht hp;exact ⟨e,t1,t2,t3,t4.keep (hk _ (hH.ro _ _ _ t4.here).1) fun i d=>Iff.rfl⟩
 | @app tk b mb q j2 mm s x t u et i du zv hg g1 htk hj hu ho' hs' hx' hq hj2 hr hcs hcell hnw ht hu1 hdu hi hz hzv hzl hn1 hz1 hG hby hb1=>
  rw [wn (b:=true) hg,if_pos rfl];obtain ⟨e,t1,t2,t3,T⟩:=htok tk htk (by rw [hj];exact hS)
  have hev:∀ y∈[s,x],ev (FSel S 0 all vs F0) y=ev (FSel (A1 j) 0 all vs F0) y:=fun y hy=>ag y (by
   rw [ho'];simp only [Op.operands,Call.operands];simpa using hy)
  have es:=Q4 hF s;have ex:=Q4 hF x;rw [hev s (by simp),hs'] at es;rw [hev x (by simp),hx'] at ex;have hbs:(HB H1 bl S)[H1.length+q]?=some (some b):=by rw [Je hq];simp only [early j2 hj2];rfl
  have hm:ρ.rw[tk.m]?=some (some e):=by rw [hold tk.m t3];exact t1
  have hsrc:Ei C (HB H1 bl S) tk.z (.slice false (.rw (H1.length+q)) 0 mm)=some (true,mm,b.cells):=by
   have hca:D0 C (HB H1 bl S) (.rw (H1.length+q))=some b.cells:=by simp only [D0,hbs,hr]
   have htk:b.cells.take (mm*tk.z)=b.cells:=List.take_of_length_le (by omega);simp only [Ei,hca,List.drop_zero,Nat.zero_add,htk,hcell,Bool.and_true];rw [decide_eq_true (by omega)]
  obtain ⟨cv,w',bb,r1,r2,r3,r4,r5,r6,r7,r8,r9⟩:=Zl (ty:=o.type) hH T hm hn1 hz1 ht hu1 hdu hi hz hzv hzl es ex hsrc hnw hG hby hb1;have nd:∀ c,o.op≠.defer c:=by rw [ho'];intro c h;simp at h
  refine L8 nd ?_
  have run:(execOp a.eval o).run C.P w=.ok (.value cv) w':=by
   obtain ⟨dst,op,type,pos,after,guard⟩:=o;simp only at ho';subst ho';simp [execOp,resolve,invoke,builtin,r1]
  rw [run];have inc:=Env.inc_ro1 (ρ:=ρ) tk.k2 bb;refine hn _ _ ⟨hcl',ρ.ro1 tk.k2 bb,?_,?_,hold,hdf,⟨r7.trans hfr.os,r8.trans hfr.tape,r9.trans hfr.output,Nat.le_trans hfr.size r5,fun x hx hk=>?_,hfr.news,fun i b d h=>.inl (hfr.ro i b d h),fun i b d h=>?_,hfr.mkn⟩,fun q' p' hq' hp=>?_,fun t' ht' hp=>?_⟩
  ·rw [Mc (S:=S') (S':=S) fun q p hq=>hother _ (g1 p (List.mem_of_getElem? hq))];exact r2
  ·rw [hF'];exact (hF.inc inc rfl).put _ _ _ r3
  ·have hne:x≠e.blk:=fun h=>by
    subst h;rcases hk with ⟨i,d,hro⟩ | hk
    ·exact t2 i d hro
    ·exact hk tk.m e t1 rfl
   rw [r6 x (Nat.lt_of_lt_of_le hx hfr.size) hne];exact hfr.keep x hx hk
  ·rcases h with h | ⟨_,h,_⟩
   ·exact hfr.newro i b d h
   ·rcases r4 with r4 | r4
    ·exact .inr (.inl ⟨tk.m,e,t1,(h.trans r4).symm⟩)
    ·exact .inr (.inr (by have:=hfr.size;omega))
  ·rw [hother _ (g1 p' (List.mem_of_getElem? hq'))] at hp;exact hhole q' p' hq' hp
  ·have hne:t'≠tk:=fun h=>by
    subst h;rw [hj] at hp;rw [hS'] at hp;simp at hp
   obtain ⟨u1,u2,u3⟩:=hu t' ht' hne;rw [hother _ u1] at hp;obtain ⟨e',v1,v2,v3,T'⟩:=htok t' ht' hp;have hbk:e'.blk≠e.blk:=fun h=>u2 (T.only _ _ (by rw [←h];exact T'.here)).1;have hbl:=(hH.ro _ _ _ T'.here).1;refine ⟨e',v1,v2,v3,T'.keep (r6 _ hbl hbk) fun i d=>⟨fun h=>?_,.inl⟩⟩;rcases h with h | ⟨_,h,_⟩
   ·exact h
   ·rcases r4 with r4 | r4
    ·exact absurd (h.trans r4) hbk
    ·omega
theorem bW (hmix:C.P.follows .mixedOrders=true) (hd:K9 all (Sq all)=true) (hvl:vs.length=all.length)
  (hst:∀ (j:Nat) o,all[j]?=some o→∃ v,vs[j]?=some v∧B2 C all H1 bl tks j o (FSel (A1 j) 0 all vs F0) v) (hbl:∀ p∈bl,p.1<all.length)
  {a:Act} (h0:∀ S,(∀ j,S j=false)→Do C all bl tks vs F0 H1 ρ0 w0 S a w0.drew)
  {id:Nat} {r:Option Nat} {Q:Exit→Act→World→Prop} (hQ:∀ ρ a' w',A2 C ρ (HB H1 bl fun _=>true) w'→B7 ρ (FSel (A1 all.length) 0 all vs F0) a'→(∀ i,i<H1.length→ρ.rw[i]?=ρ0.rw[i]?)→ρ.dfs=ρ0.dfs→Frm ρ0 w0 ρ w'→Q .normal a' w') :
  (Code.region id all.toArray true).wpIn (W r) 0 C.P Q a w0:=by
 refine wpIn_region_any hmix ?_;have hw:({ w0 with drawn:=w0.drawn+1 }:World)=w0.drew:=rfl;rw [hw];have hsz:all.toArray.size=all.length:=by simp
 rw [hsz]
 have full:∀ (listed:Array Bool) (a:Act) (w:World),listed.size=all.length→(List.range all.length).countP (fun i=>!listed.getD i false)=0→
   Do C all bl tks vs F0 H1 ρ0 w0 (fun i=>listed.getD i false) a w→Q .normal a w:=by
  intro listed a w hsz hc hs;rw [List.countP_eq_zero] at hc;have hall:∀ i,i<all.length→listed.getD i false=true:=fun i hi=>by simpa using hc i (List.mem_range.2 hi)
  obtain ⟨ρ,h1,h2,h3,h4,h5,_⟩:=hs.rel;refine hQ ρ a w ?_ ?_ h3 h4 h5
  ·rw [Mc (S:=fun _=>true) (S':=fun i=>listed.getD i false) fun q p hq=>(hall _ (hbl p (List.mem_of_getElem? hq))).symm];exact h1
  ·rw [Z6 (A1 all.length) (fun i=>listed.getD i false) all vs 0 F0 fun k hk=>?_]
   ·exact h2
   ·simp only [Nat.zero_add];rw [hall k hk];exact decide_eq_true hk
 have main:∀ (fuel:Nat) (listed:Array Bool) (a:Act) (w:World),listed.size=all.length→(List.range all.length).countP (fun i=>!listed.getD i false)=fuel→
   Do C all bl tks vs F0 H1 ρ0 w0 (fun i=>listed.getD i false) a w→wpAnyIn (W r) 0 C.P .any all.toArray Q fuel listed a w:=by
  intro fuel
  induction fuel with
  | zero=>
   intro listed a w hsz hc hs;refine ⟨?_,full listed a w hsz hc hs⟩;rw [List.countP_eq_zero] at hc;refine List.filter_eq_nil_iff.2 fun i hi=>?_;have hil:i<all.length:=by simpa using List.mem_range.1 hi
   have:=hc i (List.mem_range.2 hil)
   have hg:listed.getD i true=listed.getD i false:=by simp [Array.getD,hsz,hil]
   simp only [hg];simp at this;simp [this]
  | succ fuel ih=>
   intro listed a w hsz hc hs;refine ⟨fun hnil=>?_,fun i hi=>?_⟩
   ·exfalso
    have hex:∃ i,i<all.length∧listed.getD i false=false:=by
     have hpos:0<(List.range all.length).countP (fun i=>!listed.getD i false):=by omega
     obtain ⟨i,hi,hp⟩:=List.countP_pos_iff.1 hpos;exact ⟨i,List.mem_range.1 hi,by simpa using hp⟩
    have least:∃ i,i<all.length∧listed.getD i false=false∧∀ k,k<i→listed.getD k false=true:=by
     obtain ⟨i,hi⟩:=hex
     induction i using Nat.strongRecOn with
     | _ i ih'=>
      by_cases hm:∃ k,k<i∧listed.getD k false=false
      ·obtain ⟨k,hk,hf⟩:=hm;exact ih' k hk ⟨by omega,hf⟩
      ·refine ⟨i,hi.1,hi.2,fun k hk=>?_⟩;cases hq:listed.getD k false with
       | true=>rfl
       | false=>exact absurd ⟨k,hk,hq⟩ hm
    obtain ⟨i,hil,hf,hbelow⟩:=least;obtain ⟨o,ho⟩:∃ o,all[i]?=some o:=⟨_,List.getElem?_eq_getElem hil⟩
    have hmem:i∈Region.ready .any all.toArray listed:=by
     unfold Region.ready;refine List.mem_filter.2 ⟨List.mem_range.2 (by simpa using hil),?_⟩;have hg:listed.getD i true=listed.getD i false:=by simp [Array.getD,hsz,hil]
     simp only [hg,hf,List.getElem?_toArray,ho,Option.map_some,Option.getD_some,Bool.not_false,Bool.true_and];rw [Array.all_eq_true_iff_forall_mem];intro e he;simp only [K9,Bool.and_eq_true] at hd;cases hb:Region.binds .any e with
     | false=>rfl
     | true=>
      have:=Ci all 0 hd.1 i o ho e (by simpa using he) hb
      simp [hbelow e.on (by omega)]
    rw [hnil] at hmem;simp at hmem
   ·obtain ⟨hir,hip⟩:=List.mem_filter.1 hi;have hil:i<all.length:=by simpa using List.mem_range.1 hir
    obtain ⟨o,ho⟩:∃ o,all[i]?=some o:=⟨_,List.getElem?_eq_getElem hil⟩;have hg:listed.getD i true=listed.getD i false:=by simp [Array.getD,hsz,hil]
    simp only [hg,List.getElem?_toArray,ho,Option.map_some,Option.getD_some,Bool.and_eq_true,Bool.not_eq_true',Array.all_eq_true_iff_forall_mem] at hip
    have hset:∀ k,(listed.setIfInBounds i true).getD k false=if k=i then true else listed.getD k false:=fun k=>by
     simp only [Array.getD_eq_getD_getElem?,Array.getElem?_setIfInBounds];by_cases hk:i=k
     ·subst hk;simp [hsz,hil]
     ·rw [if_neg hk,if_neg (fun h:k=i=>hk h.symm)]
    unfold wpOpIn;simp only [List.getElem?_toArray,ho];refine Wa hd hvl hst hs ho hip.1 (S':=fun k=>(listed.setIfInBounds i true).getD k false) (by simp [hset]) (fun k hk=>by simp [hset,hk]) (fun e he hb=>?_) fun a' w' hs'=>?_
    ·have:=hip.2 e (by simpa using he)
     simpa [hb] using this
    ·refine ih _ a' w' (by simp [hsz]) ?_ hs'
     have e1:(fun k=>!(listed.setIfInBounds i true).getD k false)=fun k=>!(k==i)&&!listed.getD k false:=by
      funext k;rw [hset];by_cases hk:k=i
      ·simp [hk]
      ·simp [hk]
     rw [e1]
     have cnt:∀ n,i<n→(List.range n).countP (fun k=>!listed.getD k false)=(List.range n).countP (fun k=>!(k==i)&&!listed.getD k false)+1:=by
      intro n
      induction n with
      | zero=>intro h;omega
      | succ n ihn=>
       intro h;rw [List.range_succ,List.countP_append,List.countP_append];by_cases hin:i=n
       ·subst hin
        have same:(List.range i).countP (fun k=>!listed.getD k false)=(List.range i).countP (fun k=>!(k==i)&&!listed.getD k false):=List.countP_congr fun k hk=>by
         have:k≠i:=by have:=List.mem_range.1 hk;omega
         simp [this]
        rw [same];simp only [List.countP_cons,List.countP_nil,hip.1,Bool.not_false,beq_self_eq_true,Bool.not_true,Bool.false_and,if_true];rfl
       ·rw [ihn (by omega)]
        have:(n==i)=false:=by simp;omega
        simp only [List.countP_cons,List.countP_nil,this];simp;omega
     have:=cnt all.length hil
     omega
 refine main all.length _ a w0.drew (by simp) ?_ (h0 _ fun j=>by simp [Array.getD]);rw [List.countP_eq_length.2]
 ·simp
 ·intro i hi
  have:=List.mem_range.1 hi
  simp [Array.getD]
end
end Go.Am
namespace Go.Am
open Go.RowKit
mutual
/-- names no read-only place from N on -/
def Qm (N:Nat):AV→Bool
 | .ptr (.ro k) _=>Nat.blt k N
 | .slice _ (.ro k) _ _=>Nat.blt k N
 | .func _ cap=>Bt N cap
 | .agg cs=>Bt N cs
 | .tup vs=>Bt N vs
 | _=>true
def Bt (N:Nat):List AV→Bool
 | []=>true
 | v::vs=>Qm N v&&Bt N vs
end
theorem Wu (N:Nat):∀ l,Bt N l=l.all (Qm N)
 | []=>by simp [Bt]
 | v::l=>by simp [Bt,Wu N l]
def σN (N:Nat):Sig:=fun k=>if k<N then (.ro k,0) else (.rw 0,0)
theorem σN_lt {N k:Nat} (h:k<N):σN N k=(.ro k,0):=by unfold σN;rw [if_pos h]
theorem bV {k N:Nat} (h:Nat.blt k N=true):k<N:=by
 unfold Nat.blt at h;exact Nat.le_of_ble_eq_true h
mutual
theorem aJ {N:Nat}:∀ v,Qm N v=true→sb (σN N) 0 v=v
 | .undef,_=>by simp [sb]
 | .bool _,_=>by simp [sb]
 | .int _ _,_=>by simp [sb]
 | .str _,_=>by simp [sb]
 | .nilp,_=>by simp [sb]
 | .nils,_=>by simp [sb]
 | .nilf,_=>by simp [sb]
 | .ptr (.ro i) off,h=>by simp only [Qm] at h;simp only [sb,σN_lt (bV h),Nat.zero_add]
 | .ptr (.rw i) off,_=>by simp [sb]
 | .slice mb (.ro i) off len,h=>by simp only [Qm] at h;simp only [sb,σN_lt (bV h),Nat.zero_add]
 | .slice mb (.rw i) off len,_=>by simp [sb]
 | .func f cap,h=>by simp only [Qm] at h;simp only [sb,Fb cap h]
 | .agg cs,h=>by simp only [Qm] at h;simp only [sb,Fb cs h]
 | .tup cs,h=>by simp only [Qm] at h;simp only [sb,Fb cs h]
 | .yld i,_=>by simp [sb]
 | .rcd ..,_=>by simp [sb]
theorem Fb {N:Nat}:∀ l,Bt N l=true→sbs (σN N) 0 l=l
 | [],_=>by simp [sbs]
 | v::l,h=>by
  simp only [Bt,Bool.and_eq_true] at h;simp only [sbs,aJ v h.1,Fb l h.2]
end
theorem Zc {P:Program} {G G':Nat→List AV} {B N:Nat} (hG:∀ k,k<N→G' k=[]∨(G' k=G k∧Bt N (G k)=true∧E2 (G k)=true)) {ρ:Env} {w:World} (hH:A2 ⟨P,G,B⟩ ρ [] w):A2 ⟨P,G',w.heap.size⟩ ⟨[],Bu (σN N) ρ,[]⟩ [] w:=by
 refine ⟨rfl,Nat.le_refl _,fun i e h=>by simp at h,fun i b h=>by simp at h,fun i j b b' e e' h=>by simp at h,fun i b d hr=>?_,fun D h=>by simp at h⟩;have hlen:ρ.rw=[]:=List.eq_nil_of_length_eq_zero hH.len
 have hi:i<N∧ρ.ro i b d:=by
  simp only [Bu] at hr;by_cases h:i<N
  ·rw [σN_lt h] at hr;obtain ⟨d0,h1,h2⟩:=hr;simp only [Nat.add_zero] at h2;exact ⟨h,by rw [h2];exact h1⟩
  ·have:σN N i=(.rw 0,0):=by unfold σN;rw [if_neg h]
   rw [this] at hr;obtain ⟨e,h1,_⟩:=hr;rw [hlen] at h1;simp at h1
 obtain ⟨g1,g2,g3⟩:=hH.ro i b d hi.2;refine ⟨g1,fun j x e h=>by simp at h,fun k v hv=>?_⟩;have hv':(G' i)[k]?=some v:=hv;rcases hG i hi.1 with h0 | ⟨h0,h1,h2⟩
 ·rw [h0] at hv';simp at hv'
 ·rw [h0] at hv';obtain ⟨cv,g4,g5⟩:=g3 k v hv';refine ⟨cv,g4,?_⟩;have m:=List.mem_of_getElem? hv';rw [Wu,List.all_eq_true] at h1;rw [Db,List.all_eq_true] at h2;refine Zo (n:=0) v cv (h2 v m) ?_;rw [aJ v (h1 v m)];exact VR_norw' v cv (h2 v m) g5
where
 VR_norw' {ρ:Env}:∀ (v:AV) (cv:Value),H5 v=true→VR ⟨[],ρ.ro,[]⟩ v cv→VR ρ v cv:=fun v cv _ h=>VR.sub (ρ:=⟨[],ρ.ro,[]⟩) (ρ':=ρ) ⟨fun i x hx=>by simp at hx,fun _ _ _ h=>h⟩ v cv h
theorem more_ro {P:Program} {G G':Nat→List AV} {B N:Nat} {f:FuncId} {args:List AV} {R:AV→Prop} (hG:∀ k,k<N→G' k=[]∨(G' k=G k∧Bt N (G k)=true∧E2 (G k)=true))
  (h:∀ B,ACalls ⟨P,G',B⟩ f args [] fun v _=>R v) (ha:E2 args=true) (hb:Bt N args=true) (hR:∀ v,R v→B4 0 v=true∧P7 v=true):ACalls ⟨P,G,B⟩ f args [] fun v _=>R v:=by
 refine ⟨(h 0).1,fun ρ w cargs hH hv=>?_⟩;refine ((h w.heap.size).2 ⟨[],Bu (σN N) ρ,[]⟩ w cargs (Zc hG hH) (Fo args cargs ha (by rw [Fb args hb];exact hv))).mono ?_;rintro e w' ⟨v,cv,ρ',H',rfl,h2,h3,h4,h5,h6⟩;obtain ⟨hb,hn⟩:=hR v h2;have hkeep:∀ b,b<w.heap.size→w'.heap[b]?=w.heap[b]?:=fun b hb=>h6.keep b hb (.inr fun i e h=>by simp at h);refine ⟨v,cv,ρ,[],rfl,h2,Env.le_refl ρ,?_,?_,?_⟩
 ·refine ⟨hH.len,Nat.le_trans hH.base h6.size,fun i e he=>⟨(hH.ents i e he).1,Nat.lt_of_lt_of_le (hH.ents i e he).2 h6.size⟩,fun i b hb=>?_,hH.inj,fun i b d hr=>?_,fun D hD=>⟨(hkeep D (hH.df_lt hD)).trans (hH.df D hD).1,(hH.df D hD).2⟩⟩
  ·exact (hH.live i b hb).mono (Env.le_refl ρ) fun e he=>hkeep _ (hH.ents i e he).2
  ·obtain ⟨g1,g2,g3⟩:=hH.ro i b d hr;refine ⟨Nat.lt_of_lt_of_le g1 h6.size,g2,fun k v hv=>?_⟩;obtain ⟨cv,g4,g5⟩:=g3 k v hv;refine ⟨cv,?_,g5⟩;rw [←g4];simp only [World.cell?,hkeep b g1]
 ·exact Xv hb hn h5
 ·exact ⟨h6.os,h6.tape,h6.output,h6.size,fun b hb _=>hkeep b hb,fun i e he=>.inl ⟨i,e,he,rfl⟩,fun _ _ _ h=>h,fun _ _ _ h=>.inl h,fun _ h=>.inl h⟩
end Go.Am
namespace Go.Am
open Go.RowKit
theorem A2.frzE {C:Ctx} {ρ:Env} {H:Hp} {w:World} {m k:Nat} (hH:A2 C ρ H w) (hf:Zq C m k H) :
  ∃ x,ρ.rw[m]?=some x∧A2 C (ρ.frz k x) (Io m k H) w∧Frm ρ w (ρ.frz k x) w:=by
 obtain ⟨b,hb,hr,hc⟩:=hf;have hl:=hH.live m b hb
 obtain ⟨x,hx⟩:∃ x,ρ.rw[m]?=some x:=by
  cases h:ρ.rw[m]? with
  | none=>rw [h] at hl;exact hl.elim
  | some x=>exact ⟨x,rfl⟩
 have le:=Env.le_frz ρ k x
 have key:∀ (i:Nat) c,(Io m k H)[i]?=some (some c)→i≠m∧∃ c0,H[i]?=some (some c0)∧c=⟨c0.esz,fzs m k c0.cells⟩:=fun i c h=>by
  unfold Io at h;rw [List.getElem?_set] at h;by_cases hi:m=i
  ·rw [if_pos hi] at h;split at h<;>simp at h
  ·rw [if_neg hi,List.getElem?_map] at h;obtain ⟨o,ho,h⟩:=Option.map_eq_some_iff.1 h;cases o with
   | none=>simp [fzB] at h
   | some c0=>simp [fzB] at h;exact ⟨fun h=>hi h.symm,c0,ho,h.symm⟩
 refine ⟨x,hx,⟨by simp [Io,Env.frz,hH.len],hH.base,hH.ents,fun i c h=>?_,fun i j c c' e e' h1 h2 h3 h4 h5=>?_,fun i b1 d hro=>?_,fun D hD=>⟨(hH.df D hD).1,(hH.df D hD).2.1,fun i d hro=>?_⟩⟩,
  ⟨rfl,rfl,rfl,Nat.le_refl _,fun _ _ _=>rfl,fun i e h=>.inl ⟨i,e,h,rfl⟩,fun _ _ _ h=>.inl h,fun i b1 d hro=>?_,fun _ h=>.inl h⟩⟩
 ·obtain ⟨_,c0,h1,rfl⟩:=key i c h;have hl:=hH.live i c0 h1;show I1 _ _ (ρ.rw[i]?) _
  match hxi:ρ.rw[i]?,hl with
  | some (some e),hl=>
   have hrr:isRec (⟨c0.esz,fzs m k c0.cells⟩:Blk)=isRec c0:=rfl;cases hr0:isRec c0 with
   | true=>
    obtain ⟨g1,r,g2,p,ps,a,bd,F,q1,q2,q3,q4,q5,q6,q7⟩:=hl.rec hr0;refine .ofRec (hrr.trans hr0) ⟨g1,r,g2,p,ps,a,bd,F.map (fz m k),by simp only [q1,Y7,List.map_cons,fz],q2,q3,q4,q5,by simpa using q6,fun j v hv=>?_⟩;simp only [List.getElem?_map,Option.map_eq_some_iff] at hv;obtain ⟨v0,hv0,rfl⟩:=hv;exact Km hx v0 _ (q7 j v0 hv0)
   | false=>
    obtain ⟨g1,cs,ty,fz0,g2,g3,g4,g5,g6⟩:=hl.cs hr0;refine .of (hrr.trans hr0) ⟨g1,cs,ty,fz0,g2,g3,by simpa [Y7] using g4,fun j v hv=>?_,g6⟩;simp only [Y7,List.getElem?_map,Option.map_eq_some_iff] at hv;obtain ⟨v0,hv0,rfl⟩:=hv;obtain ⟨cv,p1,p2⟩:=g5 j v0 hv0;exact ⟨cv,p1,Km hx v0 cv p2⟩
  | some none,hl=>
   have:c0.cells=[]:=hl
   show fzs m k c0.cells=[];rw [this];simp [fzs]
  | none,hl=>exact hl.elim
 ·obtain ⟨_,c0,g1,_⟩:=key i c h1;obtain ⟨_,c1,g2,_⟩:=key j c' h2;exact hH.inj i j c0 c1 e e' g1 g2 h3 h4 h5
 ·rcases hro with hro | ⟨e,rfl,rfl,rfl,rfl⟩
  ·obtain ⟨g1,g2,g3⟩:=hH.ro i b1 d hro;refine ⟨g1,fun j c e q1 q2=>?_,fun j v hv=>?_⟩
   ·obtain ⟨_,c0,q3,_⟩:=key j c q1;exact g2 j c0 e q3 q2
   ·obtain ⟨cv,q1,q2⟩:=g3 j v hv;exact ⟨cv,q1,VR.sub (ρ:=⟨[],ρ.ro,[]⟩) ⟨fun _ _ h=>by simp at h,fun _ _ _ h=>Or.inl h⟩ v cv q2⟩
  ·rw [hx] at hl;obtain ⟨g1,cs,ty,fz0,g2,g3,g4,g5,g6⟩:=hl.cs hr;refine ⟨(hH.ents m e hx).2,fun j c e' q1 q2 hbe=>?_,fun j v hv=>?_⟩
   ·obtain ⟨hne,c0,q3,_⟩:=key j c q1;exact hne (hH.inj j m c0 b e' e q3 hb q2 hx hbe)
   ·obtain ⟨y,q1,q2,q3⟩:=hc j v hv;obtain ⟨cv,q4,q5⟩:=g5 j y q1;refine ⟨cv,by simp [World.cell?,g2,q4],q3 _ _ (Kl (fun i b d h=>?_) y cv q2 q5)⟩;exact .inl h
 ·rcases hro with hro | ⟨e,rfl,rfl,rfl,rfl⟩
  ·exact (hH.df _ hD).2.2 i d hro
  ·exact (hH.df _ hD).2.1 m e hx rfl
 ·rcases hro with hro | ⟨e,rfl,rfl,rfl,rfl⟩
  ·exact .inl hro
  ·exact .inr (.inl ⟨m,e,hx,rfl⟩)
def Dg:List (Nat×Nat)→Hp→Hp
 | [],H=>H
 | p::l,H=>Dg l (Io p.1 p.2 H)
def fzAF:List (Nat×Nat)→Fr→Fr
 | [],F=>F
 | p::l,F=>fzAF l (fzs p.1 p.2 F)
mutual
/-- surely the same -/
def Ja:AV→AV→Bool
 | .bool a,.bool b=>a==b
 | .int k m,.int k' n=>decide (k=k')&&decide (m=n)
 | .nilp,.nilp=>true
 | .nils,.nils=>true
 | .slice m (.rw i) o n,.slice m' (.rw j) o' n'=>m==m'&&(Nat.beq i j&&(Nat.beq o o'&&Nat.beq n n'))
 | .slice m (.ro i) o n,.slice m' (.ro j) o' n'=>m==m'&&(Nat.beq i j&&(Nat.beq o o'&&Nat.beq n n'))
 | .agg xs,.agg ys=>Sg xs ys
 | _,_=>false
def Sg:List AV→List AV→Bool
 | [],[]=>true
 | x::xs,y::ys=>Ja x y&&Sg xs ys
 | _,_=>false
end
mutual
theorem Xu:∀ {x y:AV},Ja x y=true→x=y
 | .bool a,.bool b,h=>by simp only [Ja,beq_iff_eq] at h;rw [h]
 | .int k m,.int k' n,h=>by simp only [Ja,Bool.and_eq_true,decide_eq_true_eq] at h;rw [h.1,h.2]
 | .nilp,.nilp,_=>rfl
 | .nils,.nils,_=>rfl
 | .slice m (.rw i) o n,.slice m' (.rw j) o' n',h=>by
  simp only [Ja,Bool.and_eq_true,beq_iff_eq] at h;rw [h.1,Nat.eq_of_beq_eq_true h.2.1,Nat.eq_of_beq_eq_true h.2.2.1,Nat.eq_of_beq_eq_true h.2.2.2]
 | .slice m (.ro i) o n,.slice m' (.ro j) o' n',h=>by
  simp only [Ja,Bool.and_eq_true,beq_iff_eq] at h;rw [h.1,Nat.eq_of_beq_eq_true h.2.1,Nat.eq_of_beq_eq_true h.2.2.1,Nat.eq_of_beq_eq_true h.2.2.2]
 | .agg xs,.agg ys,h=>by simp only [Ja] at h;rw [Vk h]
theorem Vk:∀ {xs ys:List AV},Sg xs ys=true→xs=ys
 | [],[],_=>rfl
 | x::xs,y::ys,h=>by
  simp only [Sg,Bool.and_eq_true] at h;rw [Xu h.1,Vk h.2]
end
def Th:List AV→List AV→Bool
 | [],_=>true
 | v::vs,x::xs=>Ja v x&&(H5 x&&Th vs xs)
 | _,_=>false
theorem Xa:∀ {vs xs:List AV},Th vs xs=true→∀ (j:Nat) v,vs[j]?=some v→xs[j]?=some v∧H5 v=true
 | [],_,_,j,v,h=>by simp at h
 | v::vs,[],h,_,_,_=>by simp [Th] at h
 | v::vs,x::xs,h,j,y,hj=>by
  simp only [Th,Bool.and_eq_true] at h;have e:=Xu h.1;subst e;cases j with
  | zero=>simp at hj;subst hj;exact ⟨rfl,h.2.1⟩
  | succ j=>simpa using Xa h.2.2 j y (by simpa using hj)
def Yv (C:Ctx) (m k:Nat) (H:Hp):Bool:=match H[m]? with
 | some (some b)=>!isRec b&&Th (C.G k) b.cells
 | _=>false
theorem Uk {C:Ctx} {m k:Nat} {H:Hp} (h:Yv C m k H=true):Zq C m k H:=by
 unfold Yv at h;split at h
 ·rename_i b hb;simp only [Bool.and_eq_true,Bool.not_eq_true'] at h;exact ⟨b,hb,h.1,fun j v hj=>by obtain ⟨h1,h2⟩:=Xa h.2 j v hj;exact ⟨v,h1,h2,.rfl⟩⟩
 ·simp at h
def Ls (C:Ctx):List (Nat×Nat)→Hp→Bool
 | [],_=>true
 | p::l,H=>Yv C p.1 p.2 H&&Ls C l (Io p.1 p.2 H)
theorem B8.frzs {C:Ctx} {n:Nat} {c:Code} {Q:Post}:∀ {l:List (Nat×Nat)} {F:Fr} {H:Hp},Ls C l H=true→B8 C n c (fzAF l F) (Dg l H) Q→B8 C n c F H Q
 | [],_,_,_,h=>h
 | p::l,F,H,hb,h=>by
  simp only [Ls,Bool.and_eq_true] at hb;exact B8.frz (Uk hb.1) (B8.frzs (l:=l) hb.2 h)
section
variable {C:Ctx}
theorem A2.frzAll:∀ {l:List (Nat×Nat)} {ρ:Env} {H:Hp} {w:World},A2 C ρ H w→Ls C l H=true→
  ∃ ρ',A2 C ρ' (Dg l H) w∧ρ'.rw=ρ.rw∧ρ'.dfs=ρ.dfs∧Frm ρ w ρ' w∧(∀ i b d,ρ.ro i b d→ρ'.ro i b d)∧
   (∀ i b d,ρ'.ro i b d→ρ.ro i b d∨∃ p∈l,∃ e,ρ.rw[p.1]?=some (some e)∧i=p.2∧b=e.blk∧d=0)∧∀ p∈l,∀ e,ρ.rw[p.1]?=some (some e)→ρ'.ro p.2 e.blk 0
 | [],ρ,H,w,hH,_=>⟨ρ,hH,rfl,rfl,Frm.refl ρ w,fun _ _ _ h=>h,fun _ _ _ h=>.inl h,fun p hp=>by simp at hp⟩
 | p::l,ρ,H,w,hH,hb=>by
  simp only [Ls,Bool.and_eq_true] at hb;obtain ⟨x,hx,h1,h2⟩:=hH.frzE (Uk hb.1);obtain ⟨ρ',g1,g2,g3,g4,g5,g6,g7⟩:=A2.frzAll (l:=l) h1 hb.2;refine ⟨ρ',g1,g2,g3,h2.trans g4,fun i b d h=>g5 i b d (.inl h),fun i b d h=>?_,fun q hq e he=>?_⟩
  ·rcases g6 i b d h with h | ⟨q,hq,e,he,r1,r2,r3⟩
   ·rcases h with h | ⟨e,rfl,r1,r2,r3⟩
    ·exact .inl h
    ·exact .inr ⟨p,by simp,e,hx,r1,r2,r3⟩
   ·exact .inr ⟨q,by simp [hq],e,he,r1,r2,r3⟩
  ·rcases List.mem_cons.1 hq with rfl | hq
   ·rw [hx] at he;simp at he;subst he;exact g5 _ _ _ (.inr ⟨e,rfl,rfl,rfl,rfl⟩)
   ·exact g7 q hq e he
theorem A2.holes {ρ:Env} {H:Hp} {w:World} (hH:A2 C ρ H w) (n:Nat):A2 C ⟨ρ.rw++List.replicate n none,ρ.ro,ρ.dfs⟩ (H++List.replicate n none) w:=by
 have inc:ρ.inc ⟨ρ.rw++List.replicate n none,ρ.ro,ρ.dfs⟩:=⟨fun i e h=>by
  show (ρ.rw++_)[i]?=_
  rw [List.getElem?_append_left (List.getElem?_eq_some_iff.1 h).1];exact h,fun _ _ _ h=>h⟩
 have rw1:∀ {i:Nat} {e:F9},(ρ.rw++List.replicate n (none:Option F9))[i]?=some (some e)→ρ.rw[i]?=some (some e):=fun {i e} h=>by
  by_cases hi:i<ρ.rw.length
  ·rwa [List.getElem?_append_left hi] at h
  ·rw [List.getElem?_append_right (by omega),List.getElem?_replicate] at h;split at h<;>simp at h
 have H1:∀ {i:Nat} {b:Blk},(H++List.replicate n (none:Option Blk))[i]?=some (some b)→H[i]?=some (some b):=fun {i b} h=>by
  by_cases hi:i<H.length
  ·rwa [List.getElem?_append_left hi] at h
  ·rw [List.getElem?_append_right (by omega),List.getElem?_replicate] at h;split at h<;>simp at h
 refine ⟨by simp [hH.len],hH.base,fun i e h=>hH.ents i e (rw1 h),fun i b h=>?_,fun i j b b' e e' h1 h2 h3 h4 h5=>hH.inj i j b b' e e' (H1 h1) (H1 h2) (rw1 h3) (rw1 h4) h5,fun i b d h=>?_,fun D hD=>?_⟩
 ·have hi:=H1 h;have hl:=hH.live i b hi;have hlt:i<ρ.rw.length:=by rw [hH.len];exact (List.getElem?_eq_some_iff.1 hi).1
  show I1 _ _ ((ρ.rw++_)[i]?) _;rw [List.getElem?_append_left hlt]
  match hx:ρ.rw[i]?,hl with
  | some (some e),hl=>exact hl.inc inc rfl
  | some none,hl=>exact hl
  | none,hl=>exact hl.elim
 ·obtain ⟨q1,q2,q3⟩:=hH.ro i b d h;exact ⟨q1,fun j x e hj he=>q2 j x e (H1 hj) (rw1 he),q3⟩
 ·obtain ⟨q1,q2,q3⟩:=hH.df D hD;exact ⟨q1,fun j e he=>q2 j e (rw1 he),q3⟩
def Su (C:Ctx) (H:Hp) (t:Tk):Bool:=Nat.blt t.m H.length&&(match H[t.m]? with
 | some (some b)=>Nat.beq b.esz t.z&&(!isRec b&&!b.cells.isEmpty)
 | _=>false)&&Nat.beq (C.G t.k).length (t.n*t.z)
def Ml:List Tk→Bool
 | []=>true
 | t::l=>l.all (fun u=>!Nat.beq t.m u.m)&&Ml l
theorem La:∀ {l:List Tk},Ml l=true→∀ t∈l,∀ u∈l,t.m=u.m→t=u
 | [],_,t,ht,_,_,_=>by simp at ht
 | x::l,h,t,ht,u,hu,e=>by
  simp only [Ml,Bool.and_eq_true,List.all_eq_true,Bool.not_eq_true'] at h;rcases List.mem_cons.1 ht with h1 | h1
  ·rcases List.mem_cons.1 hu with h2 | h2
   ·rw [h1,h2]
   ·have:=h.1 u h2
    rw [←h1,e] at this;simp at this
  ·rcases List.mem_cons.1 hu with h2 | h2
   ·have:=h.1 t h1
    rw [←h2,e] at this;simp at this
   ·exact La h.2 t h1 u h2 e
theorem Wb {all:List Oper} {bl:List (Nat×Blk)} {tks:List Tk} {vs:List AV} {F0:Fr} {H0:Hp} {ρ0:Env} {w0:World} {a:Act} (hH:A2 C ρ0 H0 w0) (hF:B7 ρ0 F0 a)
  (hfz:Ls C (tks.map fun t=>(t.m,t.k)) H0=true) (htk:∀ t∈tks,Su C H0 t=true) (hne:Ml tks=true) (hlen:(Dg (tks.map fun t=>(t.m,t.k)) H0).length=H0.length) {S:Nat→Bool} (hS:∀ j,S j=false) :
  Do C all bl tks vs F0 (Dg (tks.map fun t=>(t.m,t.k)) H0) ρ0 w0 S a w0.drew:=by
 obtain ⟨ρ1,g1,g2,g3,g4,g5,g6,g7⟩:=hH.frzAll hfz;have h1:=g1.drew.holes bl.length;refine ⟨fun j o _ hj=>by rw [hS j] at hj;simp at hj,⟨ρ1.rw++List.replicate bl.length none,ρ1.ro,ρ1.dfs⟩,?_,?_,fun i hi=>?_,g3,?_,fun q p hq _=>?_,fun t ht _=>?_⟩
 ·have:HB (Dg (tks.map fun t=>(t.m,t.k)) H0) bl S=Dg (tks.map fun t=>(t.m,t.k)) H0++List.replicate bl.length none:=by
   unfold HB;congr 1;rw [List.map_congr_left (g:=fun _=>none) fun p _=>by rw [hS];rfl];exact List.map_const' ..
  rw [this];exact h1
 ·have e:FSel S 0 all vs F0=F0:=by
   have none:∀ (l:List Oper) (vs:List AV) (i:Nat) (F:Fr),FSel S i l vs F=F:=by
    intro l
    induction l with
    | nil=>intro vs i F;simp [FSel]
    | cons o l ih=>
     intro vs i F;cases vs with
     | nil=>simp [FSel]
     | cons x vs=>simp only [FSel,hS,cond_false];exact ih vs _ F
   exact none _ _ _ _
  rw [e];refine hF.inc ⟨fun i e h=>?_,g5⟩ g3;show (ρ1.rw++_)[i]?=_;rw [g2,List.getElem?_append_left (List.getElem?_eq_some_iff.1 h).1];exact h
 ·show (ρ1.rw++_)[i]?=_;rw [g2,List.getElem?_append_left (by rw [hH.len,←hlen];exact hi)]
 ·have fr:=g4.drew;refine ⟨fr.os,fr.tape,fr.output,fr.size,fr.keep,fun i e he=>?_,fr.ro,fr.newro,fr.mkn⟩;have he:(ρ1.rw++List.replicate bl.length none)[i]?=some (some e):=he;by_cases hi:i<ρ1.rw.length
  ·rw [List.getElem?_append_left hi] at he;exact fr.news i e he
  ·rw [List.getElem?_append_right (by omega),List.getElem?_replicate] at he;split at he<;>simp at he
 ·show (ρ1.rw++_)[_]?=_
  have:=(List.getElem?_eq_some_iff.1 hq).1
  rw [List.getElem?_append_right (by rw [g2,hH.len,hlen];omega),List.getElem?_replicate,if_pos (by rw [g2,hH.len,hlen];omega)]
 ·have hk:=htk t ht;unfold Su at hk;simp only [Bool.and_eq_true] at hk;obtain ⟨⟨k1,k2⟩,k3⟩:=hk;split at k2
  ·rename_i b hb;simp only [Bool.and_eq_true,Bool.not_eq_true'] at k2;have hz:b.esz=t.z:=Nat.eq_of_beq_eq_true k2.1;have hl:=hH.live t.m b hb;have hgl:(C.G t.k).length=t.n*t.z:=Nat.eq_of_beq_eq_true k3
   match hx:ρ0.rw[t.m]?,hl with
   | some (some e),hl=>
    obtain ⟨q1,cs,ty,fz,q2,q3,q4,q5,q6⟩:=hl.cs k2.2.1;have nro:∀ i d,¬ρ0.ro i e.blk d:=fun i d h=>(hH.ro i _ d h).2.1 t.m b e hb hx rfl;refine ⟨e,rfl,nro,by rw [hlen];exact (List.getElem?_eq_some_iff.1 hb).1,⟨g7 (t.m,t.k) (List.mem_map.2 ⟨t,ht,rfl⟩) e hx,fun i d h=>?_,hgl,q1.trans hz,cs,ty,fz,q2,q3,q6⟩⟩;rcases g6 i _ d h with h | ⟨p,hp,e',he',r1,r2,r3⟩
    ·exact absurd h (nro i d)
    ·obtain ⟨u,hu,rfl⟩:=List.mem_map.1 hp;have hku:=htk u hu;unfold Su at hku;simp only [Bool.and_eq_true] at hku;obtain ⟨⟨_,u2⟩,_⟩:=hku;split at u2
     ·rename_i b' hb'
      have:=hH.inj t.m u.m b b' e e' hb hb' hx he' r2
      have:=La hne t ht u hu this
      subst this;exact ⟨r1,r3⟩
     ·simp at u2
   | some none,hl=>
    have hb0:b.cells=[]:=hl
    have:=k2.2.2
    rw [hb0] at this;cases this
   | none,hl=>exact hl.elim
  ·simp at k2
theorem B8.bld (hmix:C.P.follows .mixedOrders=true) {m id:Nat} {all:List Oper} {bl:List (Nat×Blk)} {tks:List Tk} {vs:List AV} {F0:Fr} {H0:Hp} {Q:Post} (hm:m≤H0.length) (hd:K9 all (Sq all)=true) (hvl:vs.length=all.length)
  (hst:∀ (j:Nat) o,all[j]?=some o→∃ v,vs[j]?=some v∧B2 C all (Dg (tks.map fun t=>(t.m,t.k)) H0) bl tks j o (FSel (A1 j) 0 all vs F0) v) (hbl:∀ p∈bl,p.1<all.length)
  (hfz:Ls C (tks.map fun t=>(t.m,t.k)) H0=true) (htk:∀ t∈tks,Su C H0 t=true) (hne:Ml tks=true) (hlen:(Dg (tks.map fun t=>(t.m,t.k)) H0).length=H0.length)
  (h:Q .normal (FSel (A1 all.length) 0 all vs F0) (HB (Dg (tks.map fun t=>(t.m,t.k)) H0) bl fun _=>true)):B8 C m (.region id all.toArray true) F0 H0 Q:=by
 intro r hr ρ a w hH hF;exact bW hmix hd hvl hst hbl (fun S hS=>Wb hH hF hfz htk hne hlen hS) fun ρ' a' w' h1 h2 h3 h4 h5=>⟨.normal,ρ',_,_,rfl,h,fun i hi=>h3 i (by rw [hlen];omega),h1,h2,h5⟩
theorem B8.toL {m:Nat} {c:Code} {N:Nat} {live:List Nat} {vs:List AV} {F:Fr} {H:Hp} {Q:Post} (h:B8 C m c (fl N live vs) H Q) (hl:F.length=N) (hv:Hb live F=vs):B8 C m c F H Q:=fun r hr ρ a w hH hF=>
 h r hr ρ a w hH (by rw [←hv];exact Ms hF hl)
end
end Go.Am
namespace Go.Am
open Go.RowKit
def recW (C:Ctx):Rec:=fun m w F H Q=>match w with
 | .code c=>B8 C m c F H Q
 | _=>False
theorem B8.seq {C:Ctx} {a b:Code} {F:Fr} {H:Hp} {Q:Post} {m:Nat} (hm:m≤H.length) (h:B8 C m a F H (Ft (recW C) m b Q)):B8 C m (.seq a b) F H Q:=by
 intro r hr ρ x w hH hF;refine wpIn_seq (Code.wpIn_mono (fun e a' w' h=>AP.seq hm hH (fun F' H' hrr ρ' a2 w2 hl g1 g2=>hrr r (Cn hr).2 ρ' a2 w2 g1 g2) h) (h r (Cn hr).1 ρ x w hH hF))
def Kcx (C:Ctx) (ex:List Nat) (sum:Sums):Cfg:={ C:=C,inl:=fun f=>!Qw ex f,strict:=.full,unr:=true,sum:=sum,loop:=aX,M:=0,cmp:=true }
section
variable {C:Ctx} {sum:Sums} {ex:List Nat}
theorem lD (hm:C.P.follows .mixedOrders=true) (hs:Og C sum):Dn (Kcx C ex sum) []:=⟨hm,hs,fun m c F H e F' H' _ h=>by simp at h⟩
theorem wpcx (hm:C.P.follows .mixedOrders=true) (hs:Og C sum) {c:Code} (n:Nat) {F:Fr} {H:Hp} {Q:Post} (h:vc (Kcx C ex sum) n 0 (.code c) F H Q):B8 C 0 c F H Q:=
 wp_of_vc (K:=Kcx C ex sum) (lD hm hs) (fun h=>by cases h) n (Nat.zero_le _) (fun h=>by cases h) h
end
end Go.Am
