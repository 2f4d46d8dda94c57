/-
  Methods: a call over one block of its own, told in every heap that has A nil list, looked at as an empty one of its own; views that leave the
-/
import Derived.Test.YtkabjomhnddnoaaBase4
import Derived.Test.YtkabjomhnddnoaaBase3
namespace Go.Am
variable {C:A3}
theorem ACalls.keep {f:FuncId} {args:List AV} {H H1:Hp} {v1:AV} {k:Nat} (h:ACalls C f args H fun v H'=>v=v1∧H'.take k=H1) (hk:H.length≤H1.length) (hb:D7 H1.length H1=true) (hv:bnd H1.length v1=true) (hu:v1≠.undef) :
  ACalls C f args H fun v H'=>v=v1∧H'=H1:=
 h.view fun v H' ⟨e1,e2⟩=>⟨v1,H1,⟨rfl,rfl⟩,by
  subst e1;have e:H'=H1++H'.drop k:=by rw [←e2,List.take_append_drop]
  rw [e];refine C8.same hk hb ?_
  cases v<;>first | exact absurd rfl hu | exact ⟨⟨hv,rfl⟩,trivial⟩⟩
theorem nB {f:FuncId} {e:Nat} {cs cs':List AV} {rest:List AV} {v:AV} {news:List Blk} (h:ACalls C f (.ptr (.rw 0) 0::rest) [some ⟨e,cs⟩] fun v' H'=>v'=v∧H'=some ⟨e,cs'⟩::news.map some)
  (hc:A8 0 cs=true) (hc':A8 0 cs'=true) (hr:A8 0 rest=true) (hv:bnd (1+news.length) v=true) (hn:∀ b∈news,A8 0 b.cells=true) {H:Hp} {i:Nat} (hi:H[i]?=some (some ⟨e,cs⟩)) :
  ACalls C f (.ptr (.rw i) 0::rest) H fun v' H'=>v'=ren (J0 [i] H.length news.length) v∧H'=H.set i (some ⟨e,cs'⟩)++news.map some:=by
 have hlt:i<H.length:=(List.getElem?_eq_some_iff.1 hi).1
 have key:=Uv h [i] rfl (by simp) (fun j b hj=>by
  cases j with
  | zero=>
   simp at hj;subst hj;refine ⟨_,rfl,C6 (Nat.zero_le _) _ hc,?_⟩;simp only [F9,E0 _ _ hc];simpa using hi
  | succ j=>simp at hj) (H:=H) (by simp only [A8,bnd,Bool.and_eq_true];exact ⟨by simp,C6 (Nat.zero_le _) _ hr⟩) (fun v0 H0' hk=>by
  obtain ⟨rfl,rfl⟩:=hk;refine ⟨by simp,by simpa [Nat.add_comm] using hv,fun j b hj=>?_⟩;cases j with
  | zero=>simp at hj;subst hj;exact C6 (Nat.zero_le _) _ hc'
  | succ j=>
   have:b∈news:=List.mem_of_getElem? (i:=j) (by simpa using hj)
   exact C6 (Nat.zero_le _) _ (hn _ this))
 have ea:rens [i] (.ptr (.rw 0) 0::rest)=.ptr (.rw i) 0::rest:=by
  simp only [rens,ren,E0 _ _ hr];rfl
 rw [ea] at key;refine key.monoK ?_;rintro v' H' ⟨v0,H0',⟨rfl,rfl⟩,rfl,rfl⟩;have el:(some (⟨e,cs'⟩:Blk)::List.map some news).length - [i].length=news.length:=by simp
 refine ⟨by rw [el],?_⟩;unfold L4;rw [el];simp only [lay,K7,F9,List.length_cons,List.length_nil,Nat.zero_add,List.drop_succ_cons,List.drop_zero,Option.map_some,E0 _ _ hc'];congr 1;rw [List.map_map];refine List.map_congr_left fun b hb=>?_;simp only [Function.comp,K7,Option.map_some,F9,E0 _ _ (hn b hb)]
theorem E1.set1 {f:FuncId} {rest:List EV} {H:DHp} {i:Nat} {e:Nat} {l l':EL} {v:EV} (hi:H[i]?=some (some ⟨e,l⟩)) (h:ACalls C f (.ptr (.rw 0) 0::vVs C.G rest) [some ⟨e,vL C.G l⟩] fun v' H'=>v'=vV C.G v∧H'.take 1=[some ⟨e,vL C.G l'⟩])
  (hc:A8 0 (vL C.G l)=true) (hc':A8 0 (vL C.G l')=true) (hr:A8 0 (vVs C.G rest)=true) (hv:bnd 0 (vV C.G v)=true) (hu:vV C.G v≠.undef):E1 C f (.ptr (.rw i) (.lit 0)::rest) H v [.set i ⟨e,l'⟩]:=by
 have h:=h.keep (by simp) (by simp [D7,C6 (Nat.zero_le _) _ hc']) (O0 (Nat.zero_le _) _ hv) hu
 have:=nB (news:=[]) h hc hc' hr (O0 (Nat.zero_le _) _ hv) (fun b hb=>by simp at hb) (M0 hi)
 unfold E1;simp only [vVs,vV,vR,vN];refine this.monoK ?_;rintro v' H' ⟨rfl,rfl⟩;refine ⟨U2 _ _ hv,?_⟩;simp [acts,Hop.act,G2,C9]
theorem E1.get1 {f:FuncId} {rest:List EV} {H:DHp} {i:Nat} {e:Nat} {l:EL} {v:EV} (hi:H[i]?=some (some ⟨e,l⟩)) (h:ACalls C f (.ptr (.rw 0) 0::vVs C.G rest) [some ⟨e,vL C.G l⟩] fun v' H'=>v'=vV C.G v∧H'.take 1=[some ⟨e,vL C.G l⟩])
  (hc:A8 0 (vL C.G l)=true) (hr:A8 0 (vVs C.G rest)=true) (hv:bnd 0 (vV C.G v)=true) (hu:vV C.G v≠.undef):E1 C f (.ptr (.rw i) (.lit 0)::rest) H v []:=by
 have:=E1.set1 hi h hc hc hr hv hu
 unfold E1 at this ⊢;refine this.monoK ?_;rintro v' H' ⟨rfl,rfl⟩;refine ⟨rfl,?_⟩;simp only [List.map_cons,List.map_nil,acts,Hop.act,G2];have hg:=M0 (G:=C.G) hi;have hlt:i<(vHp C.G H).length:=(List.getElem?_eq_some_iff.1 hg).1
 have:(vHp C.G H)[i]=some (C9 C.G ⟨e,l⟩):=by
  have:=hg
  rw [List.getElem?_eq_getElem hlt] at this;simpa using this
 rw [←this];exact List.set_getElem_self hlt
theorem E1.new1 {f:FuncId} {rest:List EV} {H:DHp} {i:Nat} {e e':Nat} {l l':EL} {v:EV} {v0:AV} (hi:H[i]?=some (some ⟨e,l⟩)) (h:ACalls C f (.ptr (.rw 0) 0::vVs C.G rest) [some ⟨e,vL C.G l⟩] fun v' H'=>v'=v0∧H'=[some ⟨e,vL C.G l⟩,some ⟨e',vL C.G l'⟩])
  (hc:A8 0 (vL C.G l)=true) (hc':A8 0 (vL C.G l')=true) (hr:A8 0 (vVs C.G rest)=true) (hv:bnd 2 v0=true) (he:vV C.G v=ren [i,H.length] v0):E1 C f (.ptr (.rw i) (.lit 0)::rest) H v [.new ⟨e',l'⟩]:=by
 have:=nB (news:=[⟨e',vL C.G l'⟩]) h hc hc hr hv (fun b hb=>by simp at hb;subst hb;exact hc') (M0 hi)
 unfold E1;simp only [vVs,vV,vR,vN];refine this.monoK ?_;rintro v' H' ⟨rfl,rfl⟩;refine ⟨?_,?_⟩
 ·rw [he];simp [J0,C0]
 ·simp only [List.map_cons,List.map_nil,acts,Hop.act,G2,C9];congr 1;have hg:=M0 (G:=C.G) hi;have hlt:i<(vHp C.G H).length:=(List.getElem?_eq_some_iff.1 hg).1
  have:(vHp C.G H)[i]=some (C9 C.G ⟨e,l⟩):=by
   have:=hg
   rw [List.getElem?_eq_getElem hlt] at this;simpa using this
  show (vHp C.G H).set i (some (C9 C.G ⟨e,l⟩))=_;rw [←this];exact List.set_getElem_self hlt
end Go.Am
namespace Go.Am
def Pn (k:Nat) (x x':AV):Prop:=x'=x∨(x=.slice true (.rw k) 0 0∧x'=.nils)
def El (k:Nat):List AV→List AV→Prop
 | [],[]=>True
 | x::l,y::m=>Pn k x y∧El k l m
 | _,_=>False
def He (k:Nat):Hp→Hp→Prop
 | [],[]=>True
 | none::H,none::H'=>He k H H'
 | some b::H,some b'::H'=>(b.esz=b'.esz∧El k b.cells b'.cells)∧He k H H'
 | _,_=>False
theorem xF {k:Nat} (x:AV):Pn k x x:=.inl rfl
theorem W4 {k:Nat}:∀ (l:List AV),El k l l
 | []=>trivial
 | x::l=>⟨xF x,W4 l⟩
theorem Wt {k:Nat}:∀ {l m:List AV},El k l m→l.length=m.length∧∀ (i:Nat) v,l[i]?=some v→∃ v',m[i]?=some v'∧Pn k v v'
 | [],[],_=>⟨rfl,fun i v h=>by simp at h⟩
 | [],_::_,h=>h.elim
 | _::_,[],h=>h.elim
 | x::l,y::m,h=>by
  obtain ⟨h1,h2⟩:=Wt h.2;refine ⟨by simp [h1],fun i v hv=>?_⟩;cases i with
  | zero=>simp at hv;subst hv;exact ⟨y,rfl,h.1⟩
  | succ i=>simpa using h2 i v (by simpa using hv)
theorem bA {k:Nat}:∀ {H H':Hp},He k H H'→H.length=H'.length∧∀ (i:Nat) b,H[i]?=some (some b)→∃ b',H'[i]?=some (some b')∧b.esz=b'.esz∧El k b.cells b'.cells
 | [],[],_=>⟨rfl,fun i v h=>by simp at h⟩
 | [],_::_,h=>h.elim
 | none::_,[],h=>h.elim
 | some _::_,[],h=>h.elim
 | none::_,some _::_,h=>h.elim
 | some _::_,none::_,h=>h.elim
 | none::H,none::H',h=>by
  obtain ⟨h1,h2⟩:=bA (show He k H H' from h);refine ⟨by simp [h1],fun i v hv=>?_⟩;cases i with
  | zero=>simp at hv
  | succ i=>simpa using h2 i v (by simpa using hv)
 | some b::H,some b'::H',h=>by
  obtain ⟨h1,h2⟩:=bA h.2;refine ⟨by simp [h1],fun i v hv=>?_⟩;cases i with
  | zero=>simp at hv;subst hv;exact ⟨b',rfl,h.1⟩
  | succ i=>simpa using h2 i v (by simpa using hv)
theorem Pm {ρ:Env} {x x':AV} {cv:Value} (h:Pn ρ.rw.length x x') (hv:VR ρ x' cv):VR (ρ.push none) x cv:=by
 rcases h with rfl | ⟨rfl,rfl⟩
 ·exact VR.mono (Env.le_push ρ none) _ _ hv
 ·simp only [VR] at hv ⊢;subst hv;exact ⟨none,0,rfl,Nat.le_refl _,.inl ⟨rfl,rfl,rfl⟩⟩
theorem fV {C:A3} {ρ:Env} {H H':Hp} {w:World} (e:Nat) (hH:He H'.length H H') (h4:B6 C ρ H' w):B6 C (ρ.push none) (H++[some ⟨e,[]⟩]) w:=by
 have hl:=h4.len;obtain ⟨hle,hget⟩:=bA hH;have low:∀ i,i<H'.length→(ρ.push none).rw[i]?=ρ.rw[i]?:=fun i hi=>by simp [Env.push,List.getElem?_append_left (show i<ρ.rw.length by omega)]
 have none':∀ (i:Nat) x,(ρ.push none).rw[i]?=some (some x)→ρ.rw[i]?=some (some x):=fun i x hx=>by
  rcases Al ρ none i _ hx with ⟨_,h⟩ | ⟨_,h⟩
  ·exact h
  ·simp at h
 have blk:∀ (i:Nat) b,(H++[some (⟨e,[]⟩:Blk)])[i]?=some (some b)→(i<H'.length∧H[i]?=some (some b))∨(i=H'.length∧b=⟨e,[]⟩):=fun i b hb=>by
  by_cases hi:i<H.length
  ·rw [List.getElem?_append_left hi] at hb;exact .inl ⟨by omega,hb⟩
  ·rw [List.getElem?_append_right (by omega)] at hb
   have:i=H.length:=by have:=(List.getElem?_eq_some_iff.1 hb).1;simp at this;omega
   subst this;simp at hb;exact .inr ⟨hle,hb.symm⟩
 refine ⟨by simp [Env.push,hl,hle],h4.base,fun i x hx=>h4.ents i x (none' i x hx),fun i b hb=>?_,fun i j b b' x x' q1 q2 q3 q4 q5=>?_,fun i b d hr=>⟨(h4.ro i b d hr).1,fun j x e q1 q2=>?_,(h4.ro i b d hr).2.2⟩,fun D hD=>⟨(h4.df D hD).1,fun i x hx=>(h4.df D hD).2.1 i x (none' i x hx),(h4.df D hD).2.2⟩⟩
 ·rcases blk i b hb with ⟨hi,hb⟩ | ⟨rfl,rfl⟩
  ·rw [low i hi];obtain ⟨b',g1,g2,g3⟩:=hget i b hb;obtain ⟨gl,gg⟩:=Wt g3
   have:=h4.live i b' g1
   match hx:ρ.rw[i]?,this with
   | some (some en),this=>
    have hrr:isRec b=isRec b':=by unfold isRec;rw [g2]
    cases hr0:isRec b' with
    | true=>
     obtain ⟨h1,r,h2,p,ps,a,bd,F,q1,q2,q3,q4,q5,q6,q7⟩:=this.rec hr0;rw [q1] at g3 gl gg
     obtain ⟨F',hF'⟩:∃ F',b.cells=.rcd p ps a bd::F':=by
      cases hc:b.cells with
      | nil=>rw [hc] at gl;simp at gl
      | cons x F'=>
       rw [hc] at g3;rcases g3.1 with h | ⟨_,h⟩
       ·exact ⟨F',by rw [h]⟩
       ·simp at h
     refine .ofRec (hrr.trans hr0) ⟨by rw [h1,g2],r,h2,p,ps,a,bd,F',hF',q2,q3,q4,q5,?_,fun k v hv=>?_⟩
     ·rw [hF'] at gl;rw [←q6];simpa using gl
     ·obtain ⟨v',e1,e2⟩:=gg (k+1) v (by rw [hF'];simpa using hv);exact Pm (by rw [hl];exact e2) (q7 k v' (by simpa using e1))
    | false=>
    obtain ⟨h1,cs,ty,fz,h2,h3,h5,h6,h7⟩:=this.cs hr0;refine .of (hrr.trans hr0) ⟨by rw [h1,g2],cs,ty,fz,h2,h3,by omega,fun k v hv=>?_,h7⟩;obtain ⟨v',e1,e2⟩:=gg k v hv;obtain ⟨cv,e3,e4⟩:=h6 k v' e1;exact ⟨cv,e3,Pm (by rw [hl];exact e2) e4⟩
   | some none,this=>
    have hc:b'.cells=[]:=this;show b.cells=[];rw [hc] at gl;exact List.length_eq_zero_iff.1 (by simpa using gl)
  ·have:(ρ.push none).rw[H'.length]?=some none:=by simp [Env.push,←hl]
   rw [this];rfl
 ·have r3:=none' i x q3;have r4:=none' j x' q4;have l3:i<H'.length:=by rw [←hl];exact (List.getElem?_eq_some_iff.1 r3).1
  have l4:j<H'.length:=by rw [←hl];exact (List.getElem?_eq_some_iff.1 r4).1
  rw [List.getElem?_append_left (by omega)] at q1;rw [List.getElem?_append_left (by omega)] at q2;obtain ⟨b1,g1,_⟩:=hget i b q1;obtain ⟨b2,g2,_⟩:=hget j b' q2;exact h4.inj i j b1 b2 x x' g1 g2 r3 r4 q5
 ·have r2:=none' j e q2;have l2:j<H'.length:=by rw [←hl];exact (List.getElem?_eq_some_iff.1 r2).1
  rw [List.getElem?_append_left (by omega)] at q1;obtain ⟨b1,g1,_⟩:=hget j x q1;exact (h4.ro i b d hr).2.1 j b1 e g1 r2
theorem xG {C:A3} {ρ:Env} {H':Hp} {w:World} {F F':Fr} {a:Act} (h4:B6 C ρ H' w) (hF:El H'.length F F') (h:I5 ρ F' a):I5 (ρ.push none) F a:=by
 obtain ⟨gl,gg⟩:=Wt hF;refine ⟨h.nod,by rw [gl,h.len],fun i v hv=>?_⟩;obtain ⟨v',e1,e2⟩:=gg i v hv;exact Pm (by rw [h4.len];exact e2) (h.val i v' e1)
theorem fW {ρ:Env} {w:World}:Frm ρ w (ρ.push none) w:=by
 have none':∀ (i:Nat) x,(ρ.push none).rw[i]?=some (some x)→ρ.rw[i]?=some (some x):=fun i x hx=>by
  rcases Al ρ none i _ hx with ⟨_,h⟩ | ⟨_,h⟩
  ·exact h
  ·simp at h
 exact ⟨rfl,rfl,rfl,Nat.le_refl _,fun _ _ _=>rfl,fun i x hx=>.inl ⟨i,x,none' i x hx,rfl⟩,fun _ _ _ h=>h,fun _ _ _ h=>.inl h,fun _ h=>.inl h⟩
theorem AWp.nil {C:A3} {m:Nat} {c:Code} {F F':Fr} {H H':Hp} {Q:Post} (e:Nat) (hm:m≤H'.length) (hF:El H'.length F F') (hH:He H'.length H H') (h:AWp C m c F (H++[some ⟨e,[]⟩]) Q):AWp C m c F' H' Q:=by
 intro r hr ρ a w h4 h5
 have:=h r hr (ρ.push none) a w (fV e hH h4) (xG h4 hF h5)
 refine Code.wpIn_mono (fun e' a' w' h=>AP.link ?_ fW h) this;intro i hi
 have:i<ρ.rw.length:=by rw [h4.len];omega
 simp [Env.push,List.getElem?_append_left this]
theorem oG {θ:List Nat}:∀ i,i<1→(0::θ).getD i 0=i:=fun i hi=>by
 have:i=0:=by omega
 subst this;rfl
theorem C8.renM {m:Nat} {θ:List Nat} {F F':Fr} {H H':Hp} (hm:m≤H.length) (hfix:∀ i,i<m→θ.getD i 0=i) (hnd:θ.Nodup) (hb:Qa θ H' H.length θ H) (hF:A8 H.length F=true) (hF':wk (rens θ F) F'):C8 m F H F' H':=by
 obtain ⟨θ',g1,_,_,g2,g3,g4,g5,g6⟩:=(C8.ren hnd hb hF hF').ex;have hl:=Vg hb;have hg:=Vh hb;refine ⟨θ,hl,hm,hfix,fun i hi=>(hg i hi).1,fun i j b b' h1 h2 he=>?_,fun i b h=>?_,g5,fun k v hk=>?_⟩
 ·have hi:i<θ.length:=by rw [hl];exact (List.getElem?_eq_some_iff.1 h1).1
  have hj:j<θ.length:=by rw [hl];exact (List.getElem?_eq_some_iff.1 h2).1
  simp only [List.getD,List.getElem?_eq_getElem hi,List.getElem?_eq_getElem hj,Option.getD_some] at he;exact (List.getElem_inj hnd).1 he
 ·have hi:i<θ.length:=by rw [hl];exact (List.getElem?_eq_some_iff.1 h).1
  obtain ⟨q1,q2⟩:=(hg i hi).2 b h;refine ⟨_,q2,by rw [G6];simp,rfl,fun k v hk=>?_,fun _=>⟨by rw [G6];simp,by rw [G6];simp⟩⟩;rw [I1,List.all_eq_true] at q1;refine ⟨by rw [hl];exact q1 v (List.mem_of_getElem? hk),.inr ?_⟩;rw [G6];simp [hk]
 ·rw [I1,List.all_eq_true] at hF;refine ⟨by rw [hl];exact hF v (List.mem_of_getElem? hk),?_⟩;rcases Rz hF' k (Go.Am.ren θ v) (by rw [G6];simp [hk]) with h | h
  ·left;cases v with
   | undef=>rfl
   | ptr r o=>cases r<;>simp [Go.Am.ren] at h
   | slice m r o n=>cases r<;>simp [Go.Am.ren] at h
   | _=>simp [Go.Am.ren] at h
  ·exact .inr h
theorem iV {k:Nat} {f g:Nat→AV}:∀ (l:List Nat),(∀ i∈l,Pn k (f i) (g i))→El k (l.map f) (l.map g)
 | [],_=>trivial
 | x::l,h=>⟨h x (by simp),iV l fun i hi=>h i (by simp [hi])⟩
theorem dD {k i:Nat}:∀ (live:List Nat) (vs vs':List AV),El k vs vs'→Pn k ((((live.zip vs).find? fun p=>Nat.beq p.1 i).map (·.2)).getD .undef) ((((live.zip vs').find? fun p=>Nat.beq p.1 i).map (·.2)).getD .undef)
 | [],_,_,_=>by simp [Pn]
 | j::live,[],[],_=>by simp [Pn]
 | j::live,[],_::_,h=>h.elim
 | j::live,_::_,[],h=>h.elim
 | j::live,x::vs,y::vs',h=>by
  simp only [List.zip_cons_cons,List.find?_cons];split
  ·simpa using h.1
  ·exact dD live vs vs' h.2
theorem mW {k N:Nat} {live:List Nat} {vs vs':List AV} (h:El k vs vs'):El k (fl N live vs) (fl N live vs'):=
 iV _ fun i _=>dD live vs vs' h
theorem AWp.pin {C:A3} {m m':Nat} {c:Code} {F:Fr} {H:Hp} {Q:Post} (hm:m'≤m) (h:AWp C m c F H Q):AWp C m' c F H Q:=by
 intro r hr ρ a w hH hF;refine Code.wpIn_mono ?_ (h r hr ρ a w hH hF);rintro e a' w' ⟨ae,ρ',F',H',h1,h2,h3,h4⟩;exact ⟨ae,ρ',F',H',h1,h2,fun i hi=>h3 i (by omega),h4⟩
theorem O9.of {C:A3} {M:Nat} {c:Code} {d:DL} (h:∀ vs H o,d.S vs H=some o→∀ n (Q:Ex→List AV→Hp→Prop),K6 C.G (fun e vs' H'=>Q e (vVs C.G vs') (vHp C.G H')) n o→
  AWp C M (.loop c) (fl d.N d.live (vVs C.G vs)) (vHp C.G H) (lv d.N d.live (Lp M Q))):O9 C M c d:=
 fun m vs H o hm ho n Q hQ=>((h vs H o ho n Q hQ).pin hm).lmono fun e vs H' hl=>hl.pin hm
end Go.Am
namespace Go
theorem DataW.TrodAll.len {H:Type} {enc:TypeId×Value→H} {P:Program} {w:World} {base:Nat} {spare:Nat→Bool} {held:Bool}:∀ {ts:List TypeId} {vs:List Value} {ds:List (DataW H)} {ps:List MemPlace},DataW.TrodAll enc P w base spare held ts vs ds ps→vs.length=ts.length∧ds.length=ts.length
 | [],vs,ds,ps,h=>by
  obtain ⟨rfl,rfl,rfl⟩:=ChangeShapes.trodAll_nil h;exact ⟨rfl,rfl⟩
 | t::ts,vs,ds,ps,h=>by
  obtain ⟨v,vs,d,ds,p,q,rfl,rfl,rfl,h1,h2⟩:=ChangeShapes.trodAll_cons h
  have:=DataW.TrodAll.len h2
  simp [this]
end Go
namespace Go.Am
section
variable {H:Type} {P:Program} {L:List RoE} {n:Nat} {t e:TypeId} {cs:List AV} {a:AV} {d:DataW H}
theorem T3.asInt {k:IntKind} (ht:P.underlying t=some (.int k)) (h:T3 P L (n+1) t cs d):∃ i,cs=[.int k i]∧(Lit.int k i).wf=true∧d=.lit (.int k i):=by unfold T3 at h;rw [ht] at h;exact h
theorem T3.asSlice (ht:P.underlying t=some (.slice e)) (h:T3 P L (n+1) t cs d):(cs=[.nils]∧d=.nil)∨∃ (k:Nat) (ds sp:List (DataW H)) (en:RoE),cs=[.slice false (.ro k) 0 ds.length]∧d=.slice ds sp∧L[k]?=some en∧
    en.cells.length=ds.length*P.cellsOf e∧ds.length+sp.length≤maxLen∧∀ (i:Nat) x,ds[i]?=some x→T3 P L n e ((en.cells.drop (i*P.cellsOf e)).take (P.cellsOf e)) x:=by unfold T3 at h;rw [ht] at h;exact h
theorem T3.asStruct {fs:Array Field} (ht:P.underlying t=some (.struct fs)) (h:T3 P L (n+1) t cs d):cs.length=P.cellsOf t∧∃ ds,d=.agg ds∧ds.length=fs.size∧∀ (i:Nat) f x,fs[i]?=some f→ds[i]?=some x→T3 P L n f.type ((cs.drop f.offset).take (P.cellsOf f.type)) x:=by unfold T3 at h;rw [ht] at h;exact h
theorem uX {k:Nat} {en:RoE} (h:L[k]?=some en):GL L k=en.cells:=by simp [GL,h]
structure yZ (L:List RoE) (kd:IntKind) (k m:Nat):Prop where
 len:(GL L k).length=m
 ok:Vq kd (GL L k) 0 m=true
 wf:∀ j,j<m→(Lit.int kd (A0 (GL L k) j)).wf=true
theorem Z5.slice (ht:P.underlying t=some (.slice e)) (h:Z5 P L n t a d):T3 P L n t [a] d:=by unfold Z5 at h;rw [ht] at h;exact h
theorem Z5.int {k:IntKind} (ht:P.underlying t=some (.int k)) (h:Z5 P L n t a d):T3 P L n t [a] d:=by unfold Z5 at h;rw [ht] at h;exact h
theorem Mc.nil {xs:List AV} {ds:List (DataW H)} (h:Mc P L n [] xs ds):xs=[]∧ds=[]:=by
 match xs,ds,h with
 | [],[],_=>exact ⟨rfl,rfl⟩
theorem Mc.cons {ts:List TypeId} {xs:List AV} {ds:List (DataW H)} (h:Mc P L n (t::ts) xs ds):∃ x xs' d ds',xs=x::xs'∧ds=d::ds'∧Z5 P L n t x d∧Mc P L n ts xs' ds':=by
 match xs,ds,h with
 | x::xs,d::ds,h=>exact ⟨x,xs,d,ds,rfl,rfl,h.1,h.2⟩
theorem GL_out {L:List RoE} {k:Nat} (h:L.length≤k):GL L k=[]:=by simp [GL,h]
theorem aU6 {ρ:Env} {v:Value} (k o:Nat) (h:VR ρ .nils v):VR ρ (.slice true (.ro k) o 0) v:=by
 simp only [VR] at h ⊢;subst h;exact ⟨none,0,rfl,Nat.le_refl _,.inl ⟨rfl,rfl,rfl⟩⟩
theorem pB {ρ:Env} {v:Value} {mb:Bool} {r:Ref} {o m:Nat} (h:VR ρ (.slice mb r o m) v):VR ρ (.slice true r o m) v:=by
 simp only [VR] at h ⊢;obtain ⟨ca,cap,h1,h2,h3⟩:=h;refine ⟨ca,cap,h1,h2,?_⟩;rcases h3 with ⟨h3,h4,_⟩ | h3
 ·exact .inl ⟨h3,h4,rfl⟩
 ·exact .inr h3
end
end Go.Am
namespace Go.Am
variable {C:A3}
theorem Vx {G:Nat→List AV} {H:DHp} {i:Nat} {b:DBlk} (hi:H[i]?=some (some b)):(vHp G H).set i (some (C9 G b))=vHp G H:=by
 have hg:=M0 (G:=G) hi;have hlt:i<(vHp G H).length:=(List.getElem?_eq_some_iff.1 hg).1
 have:(vHp G H)[i]=some (C9 G b):=by
  have:=hg
  rw [List.getElem?_eq_getElem hlt] at this;simpa using this
 rw [←this];exact List.set_getElem_self hlt
theorem E1.get2 {f:FuncId} {args0:List AV} {args:List EV} {H:DHp} {i j:Nat} {b0 b1:DBlk} {v:EV} (hij:i≠j) (hi:H[i]?=some (some b0)) (hj:H[j]?=some (some b1))
  (h:ACalls C f args0 [some (C9 C.G b0),some (C9 C.G b1)] fun v' H'=>v'=vV C.G v∧H'.take 2=[some (C9 C.G b0),some (C9 C.G b1)])
  (h0:A8 0 (vL C.G b0.cells)=true) (h1:A8 0 (vL C.G b1.cells)=true) (ha:A8 2 args0=true) (he:vVs C.G args=rens [i,j] args0) (hv:bnd 0 (vV C.G v)=true) (hu:vV C.G v≠.undef):E1 C f args H v []:=by
 have h:=h.keep (by simp) (by simp [D7,C9,C6 (Nat.zero_le _) _ h0,C6 (Nat.zero_le _) _ h1]) (O0 (Nat.zero_le _) _ hv) hu;have ri:∀ (b:DBlk),A8 0 (vL C.G b.cells)=true→F9 [i,j] (C9 C.G b)=C9 C.G b:=fun b hb=>by simp only [F9,C9,E0 _ _ hb]
 have key:=Uv h [i,j] rfl (by simp [hij]) (fun k b hk=>by
  match k with
  | 0=>simp at hk;subst hk;exact ⟨_,rfl,C6 (Nat.zero_le _) _ h0,by rw [ri _ h0];simpa using M0 (G:=C.G) hi⟩
  | 1=>simp at hk;subst hk;exact ⟨_,rfl,C6 (Nat.zero_le _) _ h1,by rw [ri _ h1];simpa using M0 (G:=C.G) hj⟩
  | k+2=>simp at hk) (H:=vHp C.G H) (by simpa using ha) (fun v0 H0' hk=>by
  obtain ⟨rfl,rfl⟩:=hk;refine ⟨Nat.le_refl _,O0 (Nat.zero_le _) _ hv,fun k b hb=>?_⟩
  match k with
  | 0=>simp at hb;subst hb;exact C6 (Nat.zero_le _) _ h0
  | 1=>simp at hb;subst hb;exact C6 (Nat.zero_le _) _ h1
  | k+2=>simp at hb)
 unfold E1;rw [he];refine key.monoK ?_;rintro v' H' ⟨v0,H0',⟨rfl,rfl⟩,rfl,rfl⟩;refine ⟨U2 _ _ hv,?_⟩;simp only [List.map_nil,acts,L4,List.length_cons,List.length_nil,lay,K7,Option.map_some,List.drop_succ_cons,List.drop_nil,List.append_nil];have rw':∀ (b:DBlk) (θ:List Nat),A8 0 (vL C.G b.cells)=true→F9 θ (C9 C.G b)=C9 C.G b:=fun b θ hb=>by simp only [F9,C9,E0 _ _ hb]
 rw [rw' _ _ h0,rw' _ _ h1,Vx hi,Vx hj]
end Go.Am
namespace Go.Am
variable {C:A3}
theorem Oo {n:Nat}:∀ {H:Hp},D7 n H=true→∀ (i:Nat) b,H[i]?=some (some b)→A8 n b.cells=true
 | [],_,i,b,h=>by simp at h
 | none::H,hb,i,b,h=>by
  cases i with
  | zero=>simp at h
  | succ i=>exact Oo (H:=H) (by simpa [D7] using hb) i b (by simpa using h)
 | some b0::H,hb,i,b,h=>by
  simp only [D7,Bool.and_eq_true] at hb;cases i with
  | zero=>simp at h;subst h;exact hb.1
  | succ i=>exact Oo (H:=H) hb.2 i b (by simpa using h)
theorem E1.fr {f:FuncId} {args0:List AV} {args:List EV} {H:DHp} {θ:List Nat} {H0 H1:Hp} {v0:AV} {v:EV} {hs:List DHop} (hnd:θ.Nodup) (hl:θ.length=H0.length)
  (hlive:∀ (i:Nat) b,H0[i]?=some b→∃ b0,b=some b0∧A8 θ.length b0.cells=true∧(vHp C.G H)[θ.getD i 0]?=some (some (F9 θ b0)))
  (ha:A8 θ.length args0=true) (he:vVs C.G args=rens θ args0) (h:ACalls C f args0 H0 fun v' H'=>v'=v0∧H'=H1) (hle:H0.length≤H1.length) (hv0:bnd H1.length v0=true) (hb:D7 H1.length H1=true)
  (hv:vV C.G v=ren (J0 θ H.length (H1.length - θ.length)) v0) (hm:acts (vHp C.G H) (hs.map (G2 C.G))=L4 θ (vHp C.G H) H1):E1 C f args H v hs:=by
 have key:=Uv h θ hl hnd hlive ha (fun v1 H0' hk=>by
  obtain ⟨rfl,rfl⟩:=hk
  exact ⟨hle,hv0,Oo hb⟩)
 unfold E1;rw [he];refine key.monoK ?_;rintro v' H' ⟨v1,H0',⟨rfl,rfl⟩,rfl,rfl⟩;exact ⟨by rw [hv,C0],hm.symm⟩
theorem Ft (θ':List Nat):∀ (θ:List Nat) (bs:List (Option Blk)) (H:Hp),(∀ (i:Nat) b,i<θ.length→bs[i]?=some b→H[θ.getD i 0]?=some (K7 θ' b))→lay θ' θ bs H=H
 | [],_,_,_=>by simp [lay]
 | _::_,[],_,_=>by simp [lay]
 | j::θ,b::bs,H,h=>by
  have h0:=h 0 b (by simp) rfl;have hj:H[j]?=some (K7 θ' b):=by simpa using h0
  have hlt:j<H.length:=(List.getElem?_eq_some_iff.1 hj).1
  have e:H.set j (K7 θ' b)=H:=by
   have:H[j]=K7 θ' b:=by rw [List.getElem?_eq_getElem hlt] at hj;simpa using hj
   rw [←this];exact List.set_getElem_self hlt
  simp only [lay,e]
  exact Ft θ' θ bs H fun i b' hi hb=>by
   have:=h (i+1) b' (by simpa using hi) (by simpa using hb)
   simpa using this
end Go.Am
namespace Go.Am
open Go.ChangeShapes Go.WideShapes Go.ChangeAt Go.RowKit
section
variable {H:Type} {P:Program} {L:List RoE} {n:Nat} {t e:TypeId} {cs:List AV} {d:DataW H} {a:AV}
def sW (P:Program) (e:TypeId) (kd:IntKind) (z:Nat):Bool:=
 match P.underlying e with
 | some (.struct fs)=>Nat.beq fs.size z&&(Nat.beq (P.cellsOf e) z&&(List.range z).all fun i=>match fs[i]? with
  | some f=>Nat.beq f.offset i&&(Nat.beq (P.cellsOf f.type) 1&&(match P.underlying f.type with
   | some (.int k)=>k==kd
   | _=>false))
  | none=>false)
 | _=>false
theorem T3.asRow {kd:IntKind} {z:Nat} (hr:sW P e kd z=true) (h:T3 P L (n+2) e cs d):cs.length=z∧∀ j,j<z→∃ i,cs[j]?=some (.int kd i)∧(Lit.int kd i).wf=true:=by
 unfold sW at hr;split at hr
 ·rename_i fs hu;simp only [Bool.and_eq_true,List.all_eq_true,List.mem_range] at hr;obtain ⟨h1,h2,h3⟩:=hr;obtain ⟨g1,ds,g2,g3,g4⟩:=T3.asStruct hu h;rw [Nat.eq_of_beq_eq_true h2] at g1;refine ⟨g1,fun j hj=>?_⟩;have hf:=h3 j hj;split at hf
  ·rename_i f hfj;simp only [Bool.and_eq_true] at hf;obtain ⟨k1,k2,k3⟩:=hf;split at k3
   ·rename_i k hk;have k3:=eq_of_beq k3;subst k3;have hl:j<ds.length:=by rw [g3,Nat.eq_of_beq_eq_true h1];exact hj
    obtain ⟨i,e1,e2,_⟩:=T3.asInt hk (g4 j f ds[j] hfj (List.getElem?_eq_getElem hl));rw [Nat.eq_of_beq_eq_true k1,Nat.eq_of_beq_eq_true k2] at e1;refine ⟨i,?_,e2⟩
    have:=congrArg (fun l:List AV=>l[0]?) e1
    simpa only [List.getElem?_take,List.getElem?_drop,List.getElem?_cons_zero,Nat.add_zero,Nat.lt_one_iff,if_true] using this
   ·simp at k3
  ·simp at hf
 ·simp at hr
theorem Z5.rows {kd:IntKind} {z:Nat} (ht:P.underlying t=some (.slice e)) (hr:sW P e kd z=true) (h:Z5 P L (n+3) t a d) :
  ∃ k m,(∀ (ρ:Env) v,VR ρ a v→VR ρ (.slice true (.ro k) 0 m) v)∧yZ L kd k (m*z):=by
 rcases T3.asSlice ht (Z5.slice ht h) with ⟨h1,_⟩ | ⟨k,ds,sp,en,h1,h2,h3,h4,h5,h6⟩
 ·simp only [List.cons.injEq,and_true] at h1;subst h1;exact ⟨L.length,0,fun ρ v hv=>aU6 _ _ hv,by rw [GL_out (Nat.le_refl _)];simp,dA fun j hj=>by omega,fun j hj=>by omega⟩
 ·simp only [List.cons.injEq,and_true] at h1;subst h1
  have hz:P.cellsOf e=z:=by
   unfold sW at hr;split at hr
   ·simp only [Bool.and_eq_true] at hr;exact Nat.eq_of_beq_eq_true hr.2.1
   ·simp at hr
  rw [hz] at h4 h6
  have key:∀ j,j<ds.length*z→∃ i,en.cells[j]?=some (.int kd i)∧(Lit.int kd i).wf=true:=fun j hj=>by
   have hz0:0<z:=by
    rcases Nat.eq_zero_or_pos z with rfl | h0
    ·simp at hj
    ·exact h0
   have hq:j / z<ds.length:=(Nat.div_lt_iff_lt_mul hz0).2 hj;obtain ⟨_,g2⟩:=T3.asRow hr (h6 (j / z) ds[j / z] (List.getElem?_eq_getElem hq));obtain ⟨i,e1,e2⟩:=g2 (j % z) (Nat.mod_lt _ hz0);refine ⟨i,?_,e2⟩;rw [List.getElem?_take,if_pos (Nat.mod_lt _ hz0),List.getElem?_drop] at e1;rw [←e1];congr 1;rw [Nat.mul_comm];exact (Nat.div_add_mod j z).symm
  refine ⟨k,ds.length,fun ρ v hv=>pB hv,by rw [uX h3,h4],dA fun j hj=>?_,fun j hj=>?_⟩
  ·obtain ⟨i,g1,_⟩:=key j hj;rw [uX h3,Nat.zero_add];simp [isI,g1]
  ·obtain ⟨i,g1,g2⟩:=key j hj;rw [uX h3];simp [A0,g1,g2]
theorem Z5.i64 {k:IntKind} (ht:P.underlying t=some (.int k)) (h:Z5 P L (n+1) t a d):∃ i,a=.int k i∧(Lit.int k i).wf=true:=by
 obtain ⟨i,h1,h2,_⟩:=T3.asInt ht (Z5.int ht h);simp only [List.cons.injEq,and_true] at h1;exact ⟨i,h1,h2⟩
end
end Go.Am
namespace Go.Am
variable {C:A3}
theorem E1.rdN {f:FuncId} {args:List EV} {H:DHp} {v:EV} {σ:Sig} {G':Nat→List AV} {args0:List AV} (hs:Sees C (vHp C.G H) σ G') (ha:T5 args0=true) (hw:∀ (ρ:Env) vs,VRs ρ (vVs C.G args) vs→VRs ρ (sbs σ 0 args0) vs)
  (h:∀ B,ACalls ⟨C.P,G',B⟩ f args0 [] fun v' _=>v'=vV C.G v) (hv:bnd 0 (vV C.G v)=true∧Hd (vV C.G v)=true):E1 C f args H v []:=by
 unfold E1;refine ((aN9 hs h ha rfl (fun v' e=>by subst e;exact hv)).weaken hw).monoK ?_;rintro v' H' ⟨rfl,rfl⟩;exact ⟨rfl,by simp [acts]⟩
end Go.Am
namespace Go.Am
variable {C:A3}
end Go.Am
namespace Go.Am
variable {C:A3}
def tL (k:Nat):AV→AV→Prop
 | .tup xs,.tup ys=>El k xs ys
 | x,y=>Pn k x y
theorem iU {ρ:Env}:∀ {xs ys:List AV} {cv:List Value},El ρ.rw.length xs ys→VRs ρ ys cv→VRs (ρ.push none) xs cv
 | [],[],_,_,h=>h
 | [],_::_,_,h,_=>h.elim
 | _::_,[],_,h,_=>h.elim
 | x::xs,y::ys,cv,h,hv=>by
  simp only [VRs] at hv ⊢;obtain ⟨v,vs,e,h1,h2⟩:=hv;exact ⟨v,vs,e,Pm h.1 h1,iU h.2 h2⟩
theorem aC6 {ρ:Env} {x y:AV} {cv:Value} (h:tL ρ.rw.length x y) (hv:VR ρ y cv):VR (ρ.push none) x cv:=by
 unfold tL at h;split at h
 ·simp only [VR] at hv ⊢;obtain ⟨vs,e,hs⟩:=hv;exact ⟨vs,e,iU h hs⟩
 ·exact Pm h hv
theorem ACalls.nil {f:FuncId} {args:List AV} {H:Hp} {K K':AV→Hp→Prop} (e:Nat) (h:ACalls C f args H K) (hk:∀ v H',K v H'→K' v H'∨∃ v',K' v' (H'++[some ⟨e,[]⟩])∧He H'.length H' H'∧tL H'.length v' v):ACalls C f args H K':=by
 refine ⟨h.1,fun ρ w cargs hH hv=>(h.2 ρ w cargs hH hv).mono ?_⟩;rintro ex w' ⟨v,cv,ρ',H',rfl,h2,h3,h4,h5,h6⟩;rcases hk v H' h2 with g | ⟨v',g1,g2,g3⟩
 ·exact ⟨v,cv,ρ',H',rfl,g,h3,h4,h5,h6⟩
 ·refine ⟨v',cv,ρ'.push none,_,rfl,g1,?_,fV e g2 h4,aC6 (by rw [h4.len];exact g3) h5,h6.trans fW⟩;have hl:=Env.le_push ρ' none;refine ⟨fun i x hx=>hl.1 i x (h3.1 i x hx),fun i b d h=>hl.2 i b d (h3.2 i b d h),fun D hD=>hl.3 D (h3.3 D hD)⟩
theorem Fq {k:Nat}:∀ (H:Hp),He k H H
 | []=>trivial
 | none::H=>Fq H
 | some b::H=>⟨⟨rfl,W4 _⟩,Fq H⟩
end Go.Am
namespace Go.Am
variable {C:A3}
theorem Ko {m:Nat} {c:Code} {N:Nat} {live:List Nat} {Q:Ex→List AV→Hp→Prop} (n:Nat) (st:Nat→List AV) (hp:Nat→Hp)
  (h:∀ i,i≤n→AWp C m c (fl N live (st i)) (hp i) (lv N live fun e vs H=>match e with
   | .normal=>i<n∧((vs=st (i+1)∧H=hp (i+1))∨C8 m (st (i+1)) (hp (i+1)) vs H)
   | e=>Q e vs H)):AWp C m (.loop c) (fl N live (st 0)) (hp 0) (lv N live Q):=by
 refine Ci (fun j vs H=>∃ i:Nat,i≤n∧j=n - i∧vs=st i∧H=hp i) n ⟨0,by omega,rfl,rfl,rfl⟩ ?_;rintro j vs H ⟨i,hi,rfl,rfl,rfl⟩;refine (h i hi).lmono ?_;intro e vs' H' hq
 match e,hq with
 | .normal,⟨hin,hq⟩=>
  refine ⟨n - (i+1),by omega,?_⟩;rcases hq with ⟨rfl,rfl⟩ | hq
  ·exact .inl ⟨i+1,by omega,rfl,rfl,rfl⟩
  ·exact .inr ⟨_,_,⟨i+1,by omega,rfl,rfl,rfl⟩,hq⟩
 | .ret,hq=>exact hq
 | .exit i,hq=>exact hq
theorem Yi {m:Nat} {c:Code} {N:Nat} {live:List Nat} {Q:Ex→List AV→Hp→Prop} (P:Nat→Prop) (n:Nat) (st:Nat→List AV) (hp:Nat→Hp) (h0:P 0)
  (h:∀ i,i≤n→P i→AWp C m c (fl N live (st i)) (hp i) (lv N live fun e vs H=>match e with
   | .normal=>i<n∧P (i+1)∧((vs=st (i+1)∧H=hp (i+1))∨C8 m (st (i+1)) (hp (i+1)) vs H)
   | e=>Q e vs H)):AWp C m (.loop c) (fl N live (st 0)) (hp 0) (lv N live Q):=by
 refine Ci (fun j vs H=>∃ i:Nat,i≤n∧P i∧j=n - i∧vs=st i∧H=hp i) n ⟨0,by omega,h0,rfl,rfl,rfl⟩ ?_;rintro j vs H ⟨i,hi,hP,rfl,rfl,rfl⟩;refine (h i hi hP).lmono ?_;intro e vs' H' hq
 match e,hq with
 | .normal,⟨hin,hP',hq⟩=>
  refine ⟨n - (i+1),by omega,?_⟩;rcases hq with ⟨rfl,rfl⟩ | hq
  ·exact .inl ⟨i+1,by omega,hP',rfl,rfl,rfl⟩
  ·exact .inr ⟨_,_,⟨i+1,by omega,hP',rfl,rfl,rfl⟩,hq⟩
 | .ret,hq=>exact hq
 | .exit i,hq=>exact hq
mutual
def Cj:AV→AV→Bool
 | .undef,.undef=>true
 | .bool a,.bool b=>a==b
 | .int k n,.int k' m=>k==k'&&n==m
 | .str s,.str t=>s==t
 | .nilp,.nilp=>true
 | .ptr r o,.ptr r' o'=>decide (r=r')&&Nat.beq o o'
 | .nils,.nils=>true
 | .slice b r o n,.slice b' r' o' n'=>b==b'&&(decide (r=r')&&(Nat.beq o o'&&Nat.beq n n'))
 | .nilf,.nilf=>true
 | .func f c,.func f' c'=>Nat.beq f f'&&Hm c c'
 | .agg c,.agg c'=>Hm c c'
 | .tup c,.tup c'=>Hm c c'
 | .yld i,.yld j=>Nat.beq i j
 | _,_=>false
termination_by structural x=>x
def Hm:List AV→List AV→Bool
 | [],[]=>true
 | x::l,y::k=>Cj x y&&Hm l k
 | _,_=>false
termination_by structural x=>x
end
mutual
theorem aA8:∀ x y,Cj x y=true→x=y
 | .undef,y,h=>by cases y<;>simp [Cj] at h ⊢
 | .bool a,y,h=>by cases y<;>simp [Cj] at h ⊢;exact h
 | .int k n,y,h=>by cases y<;>simp [Cj] at h ⊢;exact h
 | .str s,y,h=>by cases y<;>simp [Cj] at h ⊢;exact h
 | .nilp,y,h=>by cases y<;>simp [Cj] at h ⊢
 | .ptr r o,y,h=>by cases y<;>simp [Cj] at h ⊢;exact h
 | .nils,y,h=>by cases y<;>simp [Cj] at h ⊢
 | .slice b r o n,y,h=>by cases y<;>simp [Cj] at h ⊢;exact h
 | .nilf,y,h=>by cases y<;>simp [Cj] at h ⊢
 | .func f c,y,h=>by cases y<;>simp [Cj] at h ⊢;exact ⟨h.1,Iq c _ h.2⟩
 | .agg c,y,h=>by cases y<;>simp [Cj] at h ⊢;exact Iq c _ h
 | .tup c,y,h=>by cases y<;>simp [Cj] at h ⊢;exact Iq c _ h
 | .yld i,y,h=>by cases y<;>simp [Cj] at h ⊢;exact h
 | .rcd ..,y,h=>by cases y<;>simp [Cj] at h
theorem Iq:∀ l k,Hm l k=true→l=k
 | [],k,h=>by cases k<;>simp [Hm] at h ⊢
 | x::l,k,h=>by
  cases k with
  | nil=>simp [Hm] at h
  | cons y k=>
   simp [Hm] at h ⊢;exact ⟨aA8 x y h.1,Iq l k h.2⟩
end
def U9 (H:Hp):List AV:=H.map fun b=>match b with
 | some b=>.tup [.int .i64 (b.esz:Int),.agg b.cells]
 | none=>.undef
def eO (H:DHp):List EV:=H.map fun b=>match b with
 | some b=>.tup [.int .i64 (.lit (b.esz:Int)),.agg b.cells]
 | none=>.undef
theorem Ou {G:Nat→List AV}:∀ H:DHp,vVs G (eO H)=U9 (vHp G H)
 | []=>rfl
 | none::H=>by
  have:=Ou (G:=G) H
  simp only [eO,U9,vHp,List.map_cons,vVs,vV,Option.map_none] at this ⊢;rw [this]
 | some b::H=>by
  have:=Ou (G:=G) H
  simp only [eO,U9,vHp,List.map_cons,vVs,vV,vI,Option.map_some,C9] at this ⊢;rw [this]
theorem bQ:∀ H H':Hp,U9 H=U9 H'→H=H'
 | [],[],_=>rfl
 | [],_::_,h=>by simp [U9] at h
 | _::_,[],h=>by simp [U9] at h
 | b::H,b'::H',h=>by
  simp only [U9,List.map_cons,List.cons.injEq] at h;have h2:=bQ H H' h.2;subst h2;have h1:=h.1
  match b,b',h1 with
  | none,none,_=>rfl
  | none,some b',h1=>simp at h1
  | some b,none,h1=>simp at h1
  | some ⟨e,c⟩,some ⟨e',c'⟩,h1=>
   simp at h1;obtain ⟨h3,h4⟩:=h1
   have:e=e':=by omega
   subst this;subst h4;rfl
def zX (vs0:List AV) (H0:Hp):List AV→Bool:=fun xs=>match xs with
 | [.agg vs,.agg hs]=>Hm vs vs0&&Hm hs (U9 H0)
 | _=>false
theorem aM5 {vs0 vs:List AV} {H0 H:Hp} (h:zX vs0 H0 [.agg vs,.agg (U9 H)]=true):vs=vs0∧H=H0:=by
 simp only [zX,Bool.and_eq_true] at h;exact ⟨Iq _ _ h.1,bQ _ _ (Iq _ _ h.2)⟩
def stQ (c:Bool) (vs0:List AV) (H0:Hp):List AV→Bool:=fun xs=>c&&zX vs0 H0 xs
def LOut.post (G:Nat→List AV) (m:Nat):LOut→Ex→List AV→Hp→Prop
 | .one e vs H=>fun e' vs' H'=>e'=e∧((wk (vVs G vs) vs'∧H'=vHp G H)∨C8 m (vVs G vs) (vHp G H) vs' H')
 | .tst b x y=>fun e' vs' H'=>(vB G b=true∧x.post G m e' vs' H')∨(vB G b=false∧y.post G m e' vs' H')
 | .chk _ x=>x.post G m
 | _=>fun _ _ _=>False
theorem Gl {G:Nat→List AV} {m:Nat} {Q:Ex→List AV→Hp→Prop} {e:Ex} {vs:List AV} {H:Hp}:∀ (o:LOut) (n:Nat),K6 G (fun e vs' H'=>Q e (vVs G vs') (vHp G H')) n o→o.post G m e vs H→Lp m Q e vs H
 | .one e' vs' H',n,h,hp=>by
  simp only [K6] at h;obtain ⟨rfl,hp⟩:=hp;rcases hp with ⟨h1,rfl⟩ | hp
  ·exact .inl ⟨_,h1,h⟩
  ·exact .inr ⟨_,_,hp,h⟩
 | .tst b x y,n,h,hp=>by
  simp only [K6] at h;rcases hp with ⟨hb,hp⟩ | ⟨hb,hp⟩
  ·exact Gl x n (h.1 hb) hp
  ·exact Gl y n (h.2 hb) hp
 | .chk b x,n,h,hp=>by
  simp only [K6] at h;exact Gl x n h.2 hp
 | .imp ..,n,h,hp=>hp.elim
 | .allI ..,n,h,hp=>hp.elim
 | .allN ..,n,h,hp=>hp.elim
 | .allB ..,n,h,hp=>hp.elim
 | .allL ..,n,h,hp=>hp.elim
 | .namI ..,n,h,hp=>hp.elim
 | .namN ..,n,h,hp=>hp.elim
 | .namB ..,n,h,hp=>hp.elim
 | .namL ..,n,h,hp=>hp.elim
def E5 (j:Nat) (q:List AV→Bool) (ex N:Nat) (live:List Nat) (o:LOut):DL:=
 ⟨ex,N,live,fun vs H=>some (.chk (.uf j q [.agg (.of vs),.agg (.of (eO H))]) o)⟩
theorem aB {M:Nat} {c:Code} {j:Nat} {ex N:Nat} {live:List Nat} {o:LOut} {vs0:List AV} {H0:Hp} {q:List AV→Bool} {cb:Bool} (hq:q=stQ cb vs0 H0)
  (h:cb=true→AWp C M (.loop c) (fl N live vs0) H0 (lv N live (o.post C.G M))):O9 C M c (E5 j q ex N live o):=by
 refine .of fun vs H o' ho n Q hQ=>?_;simp only [E5,Option.some.injEq] at ho;subst ho;obtain ⟨h1,h2⟩:=hQ;simp only [vB,vVs,vV,vL,Ou] at h1;rw [hq] at h1;simp only [stQ,Bool.and_eq_true] at h1;obtain ⟨e1,e2⟩:=aM5 h1.2;rw [e1,e2];exact (h h1.1).lmono fun e vs H hp=>Gl o n h2 hp
theorem AWp.nilL {m:Nat} {c:Code} {N:Nat} {live:List Nat} {H:Hp} {Q:Post} {vs:List AV} (vs':List AV) (e:Nat) (hm:m≤H.length) (hv:El H.length vs' vs) (h:AWp C m c (fl N live vs') (H++[some ⟨e,[]⟩]) Q):AWp C m c (fl N live vs) H Q:=
 AWp.nil e hm (mW hv) (Fq H) h
end Go.Am
namespace Go.Am
variable {C:A3}
theorem AWp.rng {m:Nat} {F:Fr} {H:Hp} {g:Operand} {ps:Array Tmp} {as bd:Code} {f:FuncId} {cap:List AV} {Q0:Post} (hm:m≤H.length) (hg:ev F g=.func f cap)
  (call:ACalls C f (.yld H.length::cap) (H++[some ⟨4294967291,.rcd 0 ps as bd::F⟩]) (Jj H.length F Q0)):AWp C m (.rangeFunc g ps as bd) F H Q0:=by
 intro r hr ρ a w hH hF;cases r with
 | none=>exact iK hm hH hF hg call
 | some r=>simp [Ek,M2] at hr
theorem AYld.of {i:Nat} {args:List AV} {H:Hp} {e:Nat} {ps:Array Nat} {as bd:Code} {F0:Fr} {R:AV→Hp→Prop} (hi:H[i]?=some (some ⟨e,.rcd 0 ps as bd::F0⟩)) (he:Nat.beq e 4294967291=true) (hl:args.length=ps.size) (na:M2 as=true) (nb:M2 bd=true) {Q1 Q2:Post}
  (A:AWp C H.length as (Hs F0 ps.toList args) H Q1)
  (B:∀ ex F1 H1,H.length≤H1.length→Q1 ex F1 H1→ex=.normal∧∃ e ps' as' bd' F',H1[i]?=some (some ⟨e,.rcd 0 ps' as' bd'::F'⟩)∧Nat.beq e 4294967291=true∧AWp C H.length bd F1 (H1.set i (some ⟨e,.rcd 1 ps' as' bd'::F'⟩)) Q2)
  (E:∀ ex F2 H2,H.length≤H2.length→Q2 ex F2 H2→∃ e ps' as' bd' F',H2[i]?=some (some ⟨e,.rcd 1 ps' as' bd'::F'⟩)∧Nat.beq e 4294967291=true∧R (.bool (G7 ex)) (H2.set i (some ⟨e,.rcd (Ib ex) ps' as' bd'::F'⟩))):AYld C i args H R:=by
 intro ρ F w a o r next Q hH hF ho hn;refine hO hH hF ho hi he hl (fun r ρ a w hH hF=>A (some r) na ρ a w hH hF) (fun ex F1 H1 hm hq=>?_) E hn;obtain ⟨h1,e,ps',as',bd',F',h2,h3,h4⟩:=B ex F1 H1 hm hq;exact ⟨h1,e,ps',as',bd',F',h2,h3,fun r ρ a w hH hF=>h4 (some r) nb ρ a w hH hF⟩
theorem AYld.view {i:Nat} {args:List AV} {H:Hp} {K K':AV→Hp→Prop} (h:AYld C i args H K) (hk:∀ v H',K v H'→∃ v' H'',K' v' H''∧C8 H.length [v'] H'' [v] H'):AYld C i args H K':=by
 intro ρ F w a o r next Q hH hF ho hn;refine h ρ F w a o r next Q hH hF ho ?_;intro v H' ρ' cv w' h2 h4 h5 h3 h6;obtain ⟨v',H'',g1,g2⟩:=hk v H' h2
 obtain ⟨ρ2,q1,q2,q3,q4,q5⟩:=g2.use' (a:=⟨#[cv],[]⟩) h4 ⟨⟨[],rfl,List.nodup_nil,fun _ h=>by simp at h⟩,rfl,fun i x hx=>by
  cases i with
  | zero=>simp at hx;subst hx;simpa using h5
  | succ i=>simp at hx⟩
 refine hn v' H'' ρ2 cv w' g1 q1 (by have:=q2.val 0 v' rfl;simpa using this) ?_ (h6.trans q4);refine ⟨fun i x hx=>?_,fun i b d h=>q4.ro i b d (h3.2 i b d h),fun D hD=>by rw [q5];exact h3.3 D hD⟩;have hi:i<ρ.rw.length:=(List.getElem?_eq_some_iff.1 hx).1;rw [q3 i (by rw [←hH.len];exact hi)];exact h3.1 i x hx
theorem AYld.mono {i:Nat} {args:List AV} {H:Hp} {K K':AV→Hp→Prop} (h:AYld C i args H K) (hk:∀ v H',K v H'→K' v H'):AYld C i args H K':=
 fun ρ F w a o r next Q hH hF ho hn=>h ρ F w a o r next Q hH hF ho fun v H' ρ' cv w' h1=>hn v H' ρ' cv w' (hk v H' h1)
theorem AYld.dx {K:DCfg} {f1 f2 n1 n2 N:Nat} {live:List Nat} {i e:Nat} {args:List AV} {ps:Array Nat} {ac bd:Code} {F0:Fr} {vs vs1:List EV} {H H1 H2:DHp} {R:AV→Hp→Prop} (ka:I9 C K (loopsOf ac)) (kb:I9 C K (loopsOf bd))
  (hi:(vHp C.G H)[i]?=some (some ⟨e,.rcd 0 ps ac bd::F0⟩)) (he:Nat.beq e 4294967291=true) (hl:args.length=ps.size) (na:M2 ac=true) (nb:M2 bd=true) (hF:Hs F0 ps.toList args=fl N live (vVs C.G vs))
  (A:vT C.G (fun ex ws H'=>ex=.normal∧ws=vVs C.G vs1∧H'=vHp C.G H1) (fun _ _=>False) (J6 K f1 n1 H.length ac N live vs H))
  (h1:(vHp C.G H1)[i]?=some (some ⟨e,.rcd 0 ps ac bd::F0⟩)) (hlen:H.length≤H2.length) (h2:vHp C.G H2=(vHp C.G H1).set i (some ⟨e,.rcd 1 ps ac bd::F0⟩))
  (D:vT C.G (fun ex _ H'=>H'[i]?=some (some ⟨e,.rcd 1 ps ac bd::F0⟩)∧∃ H'' Gx,H'.set i (some ⟨e,.rcd (Ib ex) ps ac bd::F0⟩)=H''++Gx∧H.length≤H''.length∧D7 H''.length H''=true∧R (.bool (G7 ex)) H'') (fun _ _=>False) (J6 K f2 n2 H.length bd N live vs1 H2)):AYld C i args (vHp C.G H) R:=by
 have hA:=E2 ka (Nat.le_refl _) A;have hB:=E2 kb hlen D;rw [←hF] at hA;have e0:(vHp C.G H).length=H.length:=C0 H
 refine AYld.view (K:=fun v H'=>∃ ex H'' Gx,v=.bool (G7 ex)∧H'=H''++Gx∧H.length≤H''.length∧D7 H''.length H''=true∧R (.bool (G7 ex)) H'')
  (AYld.of hi he hl na nb (Q1:=lv N live fun ex ws H'=>ex=.normal∧ws=vVs C.G vs1∧H'=vHp C.G H1)
   (Q2:=lv N live fun ex _ H'=>H'[i]?=some (some ⟨e,.rcd 1 ps ac bd::F0⟩)∧∃ H'' Gx,H'.set i (some ⟨e,.rcd (Ib ex) ps ac bd::F0⟩)=H''++Gx∧H.length≤H''.length∧D7 H''.length H''=true∧R (.bool (G7 ex)) H'') ?_ ?_ ?_) ?_
 ·rw [e0];exact hA
 ·intro ex F1 H1' _ hq;obtain ⟨q1,q2,q3,q4⟩:=Gd hq;have hN:F1.length=N:=Nat.eq_of_beq_eq_true q1;refine ⟨q2,e,ps,ac,bd,F0,by rw [q4];exact h1,he,?_⟩;refine AWp.rd live hN ?_;rw [q3,q4,←h2,e0];exact hB
 ·intro ex F2 H2' _ hq;obtain ⟨q1,q2,H'',Gx,q3,q4,q5,q6⟩:=Gd hq;exact ⟨e,ps,ac,bd,F0,q2,he,ex,H'',Gx,rfl,q3,q4,q5,q6⟩
 ·rintro v H' ⟨ex,H'',Gx,rfl,rfl,q4,q5,q6⟩;exact ⟨_,H'',q6,C8.same (by rw [e0];exact q4) q5 ⟨⟨rfl,rfl⟩,trivial⟩⟩
theorem AYld.dxv {K:DCfg} {f1 f2 n1 n2 N:Nat} {live:List Nat} {i e:Nat} {args:List AV} {ps:Array Nat} {ac bd:Code} {F0:Fr} {vs vs1:List EV} {H H1 H2:DHp} {R:AV→Hp→Prop} (ka:I9 C K (loopsOf ac)) (kb:I9 C K (loopsOf bd))
  (hi:(vHp C.G H)[i]?=some (some ⟨e,.rcd 0 ps ac bd::F0⟩)) (he:Nat.beq e 4294967291=true) (hl:args.length=ps.size) (na:M2 ac=true) (nb:M2 bd=true) (hF:Hs F0 ps.toList args=fl N live (vVs C.G vs))
  (A:vT C.G (fun ex ws H'=>ex=.normal∧ws=vVs C.G vs1∧H'=vHp C.G H1) (fun _ _=>False) (J6 K f1 n1 H.length ac N live vs H))
  (h1:(vHp C.G H1)[i]?=some (some ⟨e,.rcd 0 ps ac bd::F0⟩)) (hlen:H.length≤H2.length) (h2:vHp C.G H2=(vHp C.G H1).set i (some ⟨e,.rcd 1 ps ac bd::F0⟩))
  (D:vT C.G (fun ex _ H'=>H'[i]?=some (some ⟨e,.rcd 1 ps ac bd::F0⟩)∧∃ H'',C8 H.length [.bool (G7 ex)] H'' [.bool (G7 ex)] (H'.set i (some ⟨e,.rcd (Ib ex) ps ac bd::F0⟩))∧R (.bool (G7 ex)) H'') (fun _ _=>False) (J6 K f2 n2 H.length bd N live vs1 H2)):AYld C i args (vHp C.G H) R:=by
 have hA:=E2 ka (Nat.le_refl _) A;have hB:=E2 kb hlen D;rw [←hF] at hA;have e0:(vHp C.G H).length=H.length:=C0 H
 refine AYld.view (K:=fun v H'=>∃ ex H'',v=.bool (G7 ex)∧C8 H.length [.bool (G7 ex)] H'' [.bool (G7 ex)] H'∧R (.bool (G7 ex)) H'')
  (AYld.of hi he hl na nb (Q1:=lv N live fun ex ws H'=>ex=.normal∧ws=vVs C.G vs1∧H'=vHp C.G H1)
   (Q2:=lv N live fun ex _ H'=>H'[i]?=some (some ⟨e,.rcd 1 ps ac bd::F0⟩)∧∃ H'',C8 H.length [.bool (G7 ex)] H'' [.bool (G7 ex)] (H'.set i (some ⟨e,.rcd (Ib ex) ps ac bd::F0⟩))∧R (.bool (G7 ex)) H'') ?_ ?_ ?_) ?_
 ·rw [e0];exact hA
 ·intro ex F1 H1' _ hq;obtain ⟨q1,q2,q3,q4⟩:=Gd hq;have hN:F1.length=N:=Nat.eq_of_beq_eq_true q1;refine ⟨q2,e,ps,ac,bd,F0,by rw [q4];exact h1,he,?_⟩;refine AWp.rd live hN ?_;rw [q3,q4,←h2,e0];exact hB
 ·intro ex F2 H2' _ hq;obtain ⟨q1,q2,H'',q3,q4⟩:=Gd hq;exact ⟨e,ps,ac,bd,F0,q2,he,ex,H'',rfl,q3,q4⟩
 ·rintro v H' ⟨ex,H'',rfl,q4,q5⟩;exact ⟨_,H'',q5,by rw [e0];exact q4⟩
def Ml:Code→Array Nat
 | .rangeFunc _ ps _ _=>ps
 | _=>#[]
def Gy:Code→Code
 | .rangeFunc _ _ as _=>as
 | _=>.skip
def Fi:Code→Code
 | .rangeFunc _ _ _ bd=>bd
 | _=>.skip
def rgG:Code→Operand
 | .rangeFunc g _ _ _=>g
 | _=>.tmp 0
def rcA (c:Code) (p:Nat) (F:Fr):List AV:=.rcd p (Ml c) (Gy c) (Fi c)::F
end Go.Am
namespace Go.Am
open Go.RowKit
end Go.Am
namespace Go.Am
variable {C:A3}
open Classical in
noncomputable def G5 (vs0:List AV) (H0:Hp):List AV→Bool:=fun xs=>decide (xs=[.agg vs0,.agg (U9 H0)])
theorem gC {vs0 vs:List AV} {H0 H:Hp} (h:G5 vs0 H0 [.agg vs,.agg (U9 H)]=true):vs=vs0∧H=H0:=by
 unfold G5 at h;simp only [decide_eq_true_eq,List.cons.injEq,AV.agg.injEq,and_true] at h;exact ⟨h.1,bQ _ _ h.2⟩
theorem F5 {vs0:List AV} {H0:Hp}:G5 vs0 H0 [.agg vs0,.agg (U9 H0)]=true:=by
 unfold G5;simp
def mV (G:Nat→List AV) (H0:Hp):Outs→AV→Hp→Prop
 | .one v hs=>fun v' H'=>v'=vV G v∧H'=acts H0 (hs.map (G2 G))
 | .chk _ x=>mV G H0 x
 | .tst b x y=>fun v' H'=>(vB G b=true∧mV G H0 x v' H')∨(vB G b=false∧mV G H0 y v' H')
 | _=>fun _ _=>False
theorem Ud {G:Nat→List AV} {H0:Hp} {P:EV→List DHop→Prop} (R:(AV→Hp→Prop)→Prop) (mono:∀ K K':AV→Hp→Prop,(∀ v H',K v H'→K' v H')→R K→R K') (abs:R (fun _ _=>False)→∀ v hs,P v hs)
  (one:∀ v hs,R (fun v' H'=>v'=vV G v∧H'=acts H0 (hs.map (G2 G)))→P v hs):∀ o,R (mV G H0 o)→X0 G P o
 | .one v hs,h=>one v hs h
 | .chk b x,h=>fun _=>Ud R mono abs one x h
 | .tst b x y,h=>⟨fun hb=>Ud R mono abs one x (mono _ _ (fun v H' h=>by
   rcases h with ⟨_,h⟩ | ⟨h1,_⟩
   ·exact h
   ·rw [hb] at h1;cases h1) h),fun hb=>Ud R mono abs one y (mono _ _ (fun v H' h=>by
   rcases h with ⟨h1,_⟩ | ⟨_,h⟩
   ·rw [hb] at h1;cases h1
   ·exact h) h)⟩
 | .namI e f,h=>fun j=>oAll_of abs h _
 | .namN e f,h=>fun j=>oAll_of abs h _
 | .namB e f,h=>fun j=>oAll_of abs h _
 | .namL e f,h=>fun j=>oAll_of abs h _
where
 oAll_of {G:Nat→List AV} {P:EV→List DHop→Prop} {R:(AV→Hp→Prop)→Prop} (abs:R (fun _ _=>False)→∀ v hs,P v hs) (h:R (fun _ _=>False)):∀ o,X0 G P o
  | .one v hs=>abs h v hs
  | .chk b x=>fun _=>oAll_of abs h x
  | .tst b x y=>⟨fun _=>oAll_of abs h x,fun _=>oAll_of abs h y⟩
  | .namI e f=>fun j=>oAll_of abs h _
  | .namN e f=>fun j=>oAll_of abs h _
  | .namB e f=>fun j=>oAll_of abs h _
  | .namL e f=>fun j=>oAll_of abs h _
def Jc (j i0:Nat) (q:List AV→Bool) (o:Outs):DYsum:=fun i args H=>match Nat.beq i i0 with
 | true=>some (.chk (.uf j q [.agg (.of args),.agg (.of (eO H))]) o)
 | false=>none
theorem lC {j i0:Nat} {o:Outs} {vs0:List AV} {H0:Hp} {q:List AV→Bool} (hq:q=G5 vs0 H0) (h:AYld C i0 vs0 H0 (mV C.G H0 o)):Lj C (Jc j i0 q o):=by
 intro i args H o' ho;unfold Jc at ho;split at ho
 ·rename_i hi
  have:=Nat.eq_of_beq_eq_true hi
  subst this;simp only [Option.some.injEq] at ho;subst ho;intro h1;simp only [vB,vVs,vV,vL,Ou,hq] at h1;obtain ⟨e1,e2⟩:=gC h1;refine Ud (H0:=H0) (fun K=>AYld C i vs0 H0 K) (fun K K' hk h=>h.mono hk) (fun h v hs=>?_) (fun v hs h=>?_) o h
  ·unfold uY;rw [e1,e2];exact h.mono fun _ _ h=>h.elim
  ·unfold uY;rw [e1,e2];exact h
 ·simp at ho
theorem N5 {M:Nat} {c:Code} {j:Nat} {ex N:Nat} {live:List Nat} {o:LOut} {vs0:List AV} {H0:Hp} {q:List AV→Bool} (hq:q=G5 vs0 H0)
  (h:AWp C M (.loop c) (fl N live vs0) H0 (lv N live (o.post C.G M))):O9 C M c (E5 j q ex N live o):=by
 refine .of fun vs H o' ho n Q hQ=>?_;simp only [E5,Option.some.injEq] at ho;subst ho;obtain ⟨h1,h2⟩:=hQ;simp only [vB,vVs,vV,vL,Ou,hq] at h1;obtain ⟨e1,e2⟩:=gC h1;rw [e1,e2];exact h.lmono fun e vs H hp=>Gl o n h2 hp
theorem Ya {M:Nat} {c:Code} {j:Nat} {ex N:Nat} {live:List Nat} {o:LOut} {vs0:List AV} {H0:Hp} {q:List AV→Bool} (hq:q=G5 vs0 H0)
  (h:AWp C M c (fl N live vs0) H0 (lv N live (o.post C.G M))):sB C M c (E5 j q ex N live o):=by
 intro m vs H o' hm ho n Q hQ;simp only [E5,Option.some.injEq] at ho;subst ho;obtain ⟨h1,h2⟩:=hQ;simp only [vB,vVs,vV,vL,Ou,hq] at h1;obtain ⟨e1,e2⟩:=gC h1;rw [e1,e2];exact (h.pin hm).lmono fun e vs H hp=>(Gl o n h2 hp).pin hm
end Go.Am
namespace Go.Am
mutual
theorem fS {m:Nat} {θ:List Nat} (hf:∀ i,i<m→θ.getD i 0=i):∀ v,bnd m v=true→ren θ v=v
 | .undef,_=>by simp [ren]
 | .bool _,_=>by simp [ren]
 | .int _ _,_=>by simp [ren]
 | .str _,_=>by simp [ren]
 | .nilp,_=>by simp [ren]
 | .nils,_=>by simp [ren]
 | .nilf,_=>by simp [ren]
 | .ptr (.rw i) off,h=>by
  have h:i<m:=by simpa [bnd] using h
  simp only [ren,hf i h]
 | .ptr (.ro i) off,_=>by simp [ren]
 | .slice mb (.rw i) off len,h=>by
  have h:i<m:=by simpa [bnd] using h
  simp only [ren,hf i h]
 | .slice mb (.ro i) off len,_=>by simp [ren]
 | .func f cap,h=>by simp only [bnd] at h;simp only [ren,Aj hf cap h]
 | .agg cs,h=>by simp only [bnd] at h;simp only [ren,Aj hf cs h]
 | .tup cs,h=>by simp only [bnd] at h;simp only [ren,Aj hf cs h]
 | .yld i,h=>by
  have h:i<m:=by simpa [bnd] using h
  simp only [ren,hf i h]
 | .rcd ..,_=>by simp [ren]
theorem Aj {m:Nat} {θ:List Nat} (hf:∀ i,i<m→θ.getD i 0=i):∀ l,A8 m l=true→rens θ l=l
 | [],_=>by simp [rens]
 | v::l,h=>by
  simp only [A8,Bool.and_eq_true] at h;simp only [rens,fS hf v h.1,Aj hf l h.2]
end
end Go.Am
