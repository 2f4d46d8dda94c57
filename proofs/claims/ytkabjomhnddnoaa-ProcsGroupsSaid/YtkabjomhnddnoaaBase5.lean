/-
  Methods: a call over one block of its own, told in every heap that has A nil list, looked at as an empty one of its own; views that leave the
-/
import Derived.Test.YtkabjomhnddnoaaBase4
import Derived.Test.YtkabjomhnddnoaaBase3
namespace Go.Am
variable {C:Ctx}
theorem ACalls.keep {f:FuncId} {args:List AV} {H H1:Hp} {v1:AV} {k:Nat} (h:ACalls C f args H fun v H'=>v=v1∧H'.take k=H1) (hk:H.length≤H1.length) (hb:hpB H1.length H1=true) (hv:bnd H1.length v1=true) (hu:v1≠.undef) :
  ACalls C f args H fun v H'=>v=v1∧H'=H1:=
 h.view fun v H' ⟨e1,e2⟩=>⟨v1,H1,⟨rfl,rfl⟩,by
  subst e1
  have e:H'=H1++H'.drop k:=by rw [←e2,List.take_append_drop]
  rw [e]
  refine View.same hk hb ?_
  cases v<;>first | exact absurd rfl hu | exact ⟨⟨hv,rfl⟩,trivial⟩⟩
theorem meth {f:FuncId} {e:Nat} {cs cs':List AV} {rest:List AV} {v:AV} {news:List Blk} (h:ACalls C f (.ptr (.rw 0) 0::rest) [some ⟨e,cs⟩] fun v' H'=>v'=v∧H'=some ⟨e,cs'⟩::news.map some)
  (hc:bnds 0 cs=true) (hc':bnds 0 cs'=true) (hr:bnds 0 rest=true) (hv:bnd (1+news.length) v=true) (hn:∀ b∈news,bnds 0 b.cells=true) {H:Hp} {i:Nat} (hi:H[i]?=some (some ⟨e,cs⟩)) :
  ACalls C f (.ptr (.rw i) 0::rest) H fun v' H'=>v'=ren (wide [i] H.length news.length) v∧H'=H.set i (some ⟨e,cs'⟩)++news.map some:=by
 have hlt:i<H.length:=(List.getElem?_eq_some_iff.1 hi).1
 have key:=frame_call h [i] rfl (by simp) (fun j b hj=>by
  cases j with
  | zero=>
   simp at hj;subst hj
   refine ⟨_,rfl,bnds_mono (Nat.zero_le _) _ hc,?_⟩
   simp only [renB,rens_flat _ _ hc]
   simpa using hi
  | succ j=>simp at hj) (H:=H) (by simp only [bnds,bnd,Bool.and_eq_true];exact ⟨by simp,bnds_mono (Nat.zero_le _) _ hr⟩) (fun v0 H0' hk=>by
  obtain ⟨rfl,rfl⟩:=hk
  refine ⟨by simp,by simpa [Nat.add_comm] using hv,fun j b hj=>?_⟩
  cases j with
  | zero=>simp at hj;subst hj;exact bnds_mono (Nat.zero_le _) _ hc'
  | succ j=>
   have:b∈news:=List.mem_of_getElem? (i:=j) (by simpa using hj)
   exact bnds_mono (Nat.zero_le _) _ (hn _ this))
 have ea:rens [i] (.ptr (.rw 0) 0::rest)=.ptr (.rw i) 0::rest:=by
  simp only [rens,ren,rens_flat _ _ hr];rfl
 rw [ea] at key
 refine key.monoK ?_
 rintro v' H' ⟨v0,H0',⟨rfl,rfl⟩,rfl,rfl⟩
 have el:(some (⟨e,cs'⟩:Blk)::List.map some news).length - [i].length=news.length:=by simp
 refine ⟨by rw [el],?_⟩
 unfold merge
 rw [el]
 simp only [lay,renO,renB,List.length_cons,List.length_nil,Nat.zero_add,List.drop_succ_cons,List.drop_zero,Option.map_some,rens_flat _ _ hc']
 congr 1
 rw [List.map_map]
 refine List.map_congr_left fun b hb=>?_
 simp only [Function.comp,renO,Option.map_some,renB,rens_flat _ _ (hn b hb)]
theorem DOut.set1 {f:FuncId} {rest:List EV} {H:DHp} {i:Nat} {e:Nat} {l l':EL} {v:EV} (hi:H[i]?=some (some ⟨e,l⟩)) (h:ACalls C f (.ptr (.rw 0) 0::vVs C.G rest) [some ⟨e,vL C.G l⟩] fun v' H'=>v'=vV C.G v∧H'.take 1=[some ⟨e,vL C.G l'⟩])
  (hc:bnds 0 (vL C.G l)=true) (hc':bnds 0 (vL C.G l')=true) (hr:bnds 0 (vVs C.G rest)=true) (hv:bnd 0 (vV C.G v)=true) (hu:vV C.G v≠.undef):DOut C f (.ptr (.rw i) (.lit 0)::rest) H v [.set i ⟨e,l'⟩]:=by
 have h:=h.keep (by simp) (by simp [hpB,bnds_mono (Nat.zero_le _) _ hc']) (bnd_mono (Nat.zero_le _) _ hv) hu
 have:=meth (news:=[]) h hc hc' hr (bnd_mono (Nat.zero_le _) _ hv) (fun b hb=>by simp at hb) (vHp_some hi)
 unfold DOut
 simp only [vVs,vV,vR,vN]
 refine this.monoK ?_
 rintro v' H' ⟨rfl,rfl⟩
 refine ⟨ren_flat _ _ hv,?_⟩
 simp [acts,Hop.act,vHop,vBlk]
theorem DOut.get1 {f:FuncId} {rest:List EV} {H:DHp} {i:Nat} {e:Nat} {l:EL} {v:EV} (hi:H[i]?=some (some ⟨e,l⟩)) (h:ACalls C f (.ptr (.rw 0) 0::vVs C.G rest) [some ⟨e,vL C.G l⟩] fun v' H'=>v'=vV C.G v∧H'.take 1=[some ⟨e,vL C.G l⟩])
  (hc:bnds 0 (vL C.G l)=true) (hr:bnds 0 (vVs C.G rest)=true) (hv:bnd 0 (vV C.G v)=true) (hu:vV C.G v≠.undef):DOut C f (.ptr (.rw i) (.lit 0)::rest) H v []:=by
 have:=DOut.set1 hi h hc hc hr hv hu
 unfold DOut at this ⊢
 refine this.monoK ?_
 rintro v' H' ⟨rfl,rfl⟩
 refine ⟨rfl,?_⟩
 simp only [List.map_cons,List.map_nil,acts,Hop.act,vHop]
 have hg:=vHp_some (G:=C.G) hi
 have hlt:i<(vHp C.G H).length:=(List.getElem?_eq_some_iff.1 hg).1
 have:(vHp C.G H)[i]=some (vBlk C.G ⟨e,l⟩):=by
  have:=hg
  rw [List.getElem?_eq_getElem hlt] at this
  simpa using this
 rw [←this]
 exact List.set_getElem_self hlt
end Go.Am
namespace Go.Am
def nilr (k:Nat) (x x':AV):Prop:=x'=x∨(x=.slice true (.rw k) 0 0∧x'=.nils)
def nilrs (k:Nat):List AV→List AV→Prop
 | [],[]=>True
 | x::l,y::m=>nilr k x y∧nilrs k l m
 | _,_=>False
def nilH (k:Nat):Hp→Hp→Prop
 | [],[]=>True
 | none::H,none::H'=>nilH k H H'
 | some b::H,some b'::H'=>(b.esz=b'.esz∧nilrs k b.cells b'.cells)∧nilH k H H'
 | _,_=>False
theorem nilr_refl {k:Nat} (x:AV):nilr k x x:=.inl rfl
theorem nilrs_refl {k:Nat}:∀ (l:List AV),nilrs k l l
 | []=>trivial
 | x::l=>⟨nilr_refl x,nilrs_refl l⟩
theorem nilrs_get {k:Nat}:∀ {l m:List AV},nilrs k l m→l.length=m.length∧∀ (i:Nat) v,l[i]?=some v→∃ v',m[i]?=some v'∧nilr k v v'
 | [],[],_=>⟨rfl,fun i v h=>by simp at h⟩
 | [],_::_,h=>h.elim
 | _::_,[],h=>h.elim
 | x::l,y::m,h=>by
  obtain ⟨h1,h2⟩:=nilrs_get h.2
  refine ⟨by simp [h1],fun i v hv=>?_⟩
  cases i with
  | zero=>simp at hv;subst hv;exact ⟨y,rfl,h.1⟩
  | succ i=>simpa using h2 i v (by simpa using hv)
theorem nilH_get {k:Nat}:∀ {H H':Hp},nilH k H H'→H.length=H'.length∧∀ (i:Nat) b,H[i]?=some (some b)→∃ b',H'[i]?=some (some b')∧b.esz=b'.esz∧nilrs k b.cells b'.cells
 | [],[],_=>⟨rfl,fun i v h=>by simp at h⟩
 | [],_::_,h=>h.elim
 | none::_,[],h=>h.elim
 | some _::_,[],h=>h.elim
 | none::_,some _::_,h=>h.elim
 | some _::_,none::_,h=>h.elim
 | none::H,none::H',h=>by
  obtain ⟨h1,h2⟩:=nilH_get (show nilH k H H' from h)
  refine ⟨by simp [h1],fun i v hv=>?_⟩
  cases i with
  | zero=>simp at hv
  | succ i=>simpa using h2 i v (by simpa using hv)
 | some b::H,some b'::H',h=>by
  obtain ⟨h1,h2⟩:=nilH_get h.2
  refine ⟨by simp [h1],fun i v hv=>?_⟩
  cases i with
  | zero=>simp at hv;subst hv;exact ⟨b',rfl,h.1⟩
  | succ i=>simpa using h2 i v (by simpa using hv)
theorem nilr_val {ρ:Env} {x x':AV} {cv:Value} (h:nilr ρ.rw.length x x') (hv:VR ρ x' cv):VR (ρ.push none) x cv:=by
 rcases h with rfl | ⟨rfl,rfl⟩
 ·exact VR.mono (Env.le_push ρ none) _ _ hv
 ·simp only [VR] at hv ⊢
  subst hv
  exact ⟨none,0,rfl,Nat.le_refl _,.inl ⟨rfl,rfl,rfl⟩⟩
theorem nil_rel {C:Ctx} {ρ:Env} {H H':Hp} {w:World} (e:Nat) (hH:nilH H'.length H H') (h4:HRel C ρ H' w):HRel C (ρ.push none) (H++[some ⟨e,[]⟩]) w:=by
 have hl:=h4.len
 obtain ⟨hle,hget⟩:=nilH_get hH
 have low:∀ i,i<H'.length→(ρ.push none).rw[i]?=ρ.rw[i]?:=fun i hi=>by simp [Env.push,List.getElem?_append_left (show i<ρ.rw.length by omega)]
 have none':∀ (i:Nat) x,(ρ.push none).rw[i]?=some (some x)→ρ.rw[i]?=some (some x):=fun i x hx=>by
  rcases push_get ρ none i _ hx with ⟨_,h⟩ | ⟨_,h⟩
  ·exact h
  ·simp at h
 have blk:∀ (i:Nat) b,(H++[some (⟨e,[]⟩:Blk)])[i]?=some (some b)→(i<H'.length∧H[i]?=some (some b))∨(i=H'.length∧b=⟨e,[]⟩):=fun i b hb=>by
  by_cases hi:i<H.length
  ·rw [List.getElem?_append_left hi] at hb;exact .inl ⟨by omega,hb⟩
  ·rw [List.getElem?_append_right (by omega)] at hb
   have:i=H.length:=by have:=(List.getElem?_eq_some_iff.1 hb).1;simp at this;omega
   subst this
   simp at hb;exact .inr ⟨hle,hb.symm⟩
 refine ⟨by simp [Env.push,hl,hle],h4.base,fun i x hx=>h4.ents i x (none' i x hx),fun i b hb=>?_,fun i j b b' x x' q1 q2 q3 q4 q5=>?_,fun i b d hr=>⟨(h4.ro i b d hr).1,fun j x e q1 q2=>?_,(h4.ro i b d hr).2.2⟩,fun D hD=>⟨(h4.df D hD).1,fun i x hx=>(h4.df D hD).2.1 i x (none' i x hx),(h4.df D hD).2.2⟩⟩
 ·rcases blk i b hb with ⟨hi,hb⟩ | ⟨rfl,rfl⟩
  ·rw [low i hi]
   obtain ⟨b',g1,g2,g3⟩:=hget i b hb
   obtain ⟨gl,gg⟩:=nilrs_get g3
   have:=h4.live i b' g1
   match hx:ρ.rw[i]?,this with
   | some (some en),this=>
    have hrr:isRec b=isRec b':=by unfold isRec;rw [g2]
    cases hr0:isRec b' with
    | true=>
     obtain ⟨h1,r,h2,p,ps,a,bd,F,q1,q2,q3,q4,q5,q6,q7⟩:=this.rec hr0
     rw [q1] at g3 gl gg
     obtain ⟨F',hF'⟩:∃ F',b.cells=.rcd p ps a bd::F':=by
      cases hc:b.cells with
      | nil=>rw [hc] at gl;simp at gl
      | cons x F'=>
       rw [hc] at g3
       rcases g3.1 with h | ⟨_,h⟩
       ·exact ⟨F',by rw [h]⟩
       ·simp at h
     refine .ofRec (hrr.trans hr0) ⟨by rw [h1,g2],r,h2,p,ps,a,bd,F',hF',q2,q3,q4,q5,?_,fun k v hv=>?_⟩
     ·rw [hF'] at gl;rw [←q6];simpa using gl
     ·obtain ⟨v',e1,e2⟩:=gg (k+1) v (by rw [hF'];simpa using hv)
      exact nilr_val (by rw [hl];exact e2) (q7 k v' (by simpa using e1))
    | false=>
    obtain ⟨h1,cs,ty,fz,h2,h3,h5,h6,h7⟩:=this.cs hr0
    refine .of (hrr.trans hr0) ⟨by rw [h1,g2],cs,ty,fz,h2,h3,by omega,fun k v hv=>?_,h7⟩
    obtain ⟨v',e1,e2⟩:=gg k v hv
    obtain ⟨cv,e3,e4⟩:=h6 k v' e1
    exact ⟨cv,e3,nilr_val (by rw [hl];exact e2) e4⟩
   | some none,this=>
    have hc:b'.cells=[]:=this
    show b.cells=[]
    rw [hc] at gl
    exact List.length_eq_zero_iff.1 (by simpa using gl)
  ·have:(ρ.push none).rw[H'.length]?=some none:=by simp [Env.push,←hl]
   rw [this]
   rfl
 ·have r3:=none' i x q3
  have r4:=none' j x' q4
  have l3:i<H'.length:=by rw [←hl];exact (List.getElem?_eq_some_iff.1 r3).1
  have l4:j<H'.length:=by rw [←hl];exact (List.getElem?_eq_some_iff.1 r4).1
  rw [List.getElem?_append_left (by omega)] at q1
  rw [List.getElem?_append_left (by omega)] at q2
  obtain ⟨b1,g1,_⟩:=hget i b q1
  obtain ⟨b2,g2,_⟩:=hget j b' q2
  exact h4.inj i j b1 b2 x x' g1 g2 r3 r4 q5
 ·have r2:=none' j e q2
  have l2:j<H'.length:=by rw [←hl];exact (List.getElem?_eq_some_iff.1 r2).1
  rw [List.getElem?_append_left (by omega)] at q1
  obtain ⟨b1,g1,_⟩:=hget j x q1
  exact (h4.ro i b d hr).2.1 j b1 e g1 r2
theorem nil_frame {C:Ctx} {ρ:Env} {H':Hp} {w:World} {F F':Fr} {a:Act} (h4:HRel C ρ H' w) (hF:nilrs H'.length F F') (h:FRel ρ F' a):FRel (ρ.push none) F a:=by
 obtain ⟨gl,gg⟩:=nilrs_get hF
 refine ⟨h.nod,by rw [gl,h.len],fun i v hv=>?_⟩
 obtain ⟨v',e1,e2⟩:=gg i v hv
 exact nilr_val (by rw [h4.len];exact e2) (h.val i v' e1)
theorem nil_frm {ρ:Env} {w:World}:Frm ρ w (ρ.push none) w:=by
 have none':∀ (i:Nat) x,(ρ.push none).rw[i]?=some (some x)→ρ.rw[i]?=some (some x):=fun i x hx=>by
  rcases push_get ρ none i _ hx with ⟨_,h⟩ | ⟨_,h⟩
  ·exact h
  ·simp at h
 exact ⟨rfl,rfl,rfl,Nat.le_refl _,fun _ _ _=>rfl,fun i x hx=>.inl ⟨i,x,none' i x hx,rfl⟩,fun _ _ _ h=>h,fun _ _ _ h=>.inl h,fun _ h=>.inl h⟩
theorem AWp.nil {C:Ctx} {m:Nat} {c:Code} {F F':Fr} {H H':Hp} {Q:Post} (e:Nat) (hm:m≤H'.length) (hF:nilrs H'.length F F') (hH:nilH H'.length H H') (h:AWp C m c F (H++[some ⟨e,[]⟩]) Q):AWp C m c F' H' Q:=by
 intro r hr ρ a w h4 h5
 have:=h r hr (ρ.push none) a w (nil_rel e hH h4) (nil_frame h4 hF h5)
 refine Code.wpIn_mono (fun e' a' w' h=>AP.link ?_ nil_frm h) this
 intro i hi
 have:i<ρ.rw.length:=by rw [h4.len];omega
 simp [Env.push,List.getElem?_append_left this]
theorem View.renM {m:Nat} {θ:List Nat} {F F':Fr} {H H':Hp} (hm:m≤H.length) (hfix:∀ i,i<m→θ.getD i 0=i) (hnd:θ.Nodup) (hb:blks θ H' H.length θ H) (hF:bnds H.length F=true) (hF':wk (rens θ F) F'):View m F H F' H':=by
 obtain ⟨θ',g1,_,_,g2,g3,g4,g5,g6⟩:=(View.ren hnd hb hF hF').ex
 have hl:=blks_len hb
 have hg:=blks_get hb
 refine ⟨θ,hl,hm,hfix,fun i hi=>(hg i hi).1,fun i j b b' h1 h2 he=>?_,fun i b h=>?_,g5,fun k v hk=>?_⟩
 ·have hi:i<θ.length:=by rw [hl];exact (List.getElem?_eq_some_iff.1 h1).1
  have hj:j<θ.length:=by rw [hl];exact (List.getElem?_eq_some_iff.1 h2).1
  simp only [List.getD,List.getElem?_eq_getElem hi,List.getElem?_eq_getElem hj,Option.getD_some] at he
  exact (List.getElem_inj hnd).1 he
 ·have hi:i<θ.length:=by rw [hl];exact (List.getElem?_eq_some_iff.1 h).1
  obtain ⟨q1,q2⟩:=(hg i hi).2 b h
  refine ⟨_,q2,by rw [rens_eq];simp,rfl,fun k v hk=>?_,fun _=>⟨by rw [rens_eq];simp,by rw [rens_eq];simp⟩⟩
  rw [bnds_eq,List.all_eq_true] at q1
  refine ⟨by rw [hl];exact q1 v (List.mem_of_getElem? hk),.inr ?_⟩
  rw [rens_eq];simp [hk]
 ·rw [bnds_eq,List.all_eq_true] at hF
  refine ⟨by rw [hl];exact hF v (List.mem_of_getElem? hk),?_⟩
  rcases wk_get hF' k (Go.Am.ren θ v) (by rw [rens_eq];simp [hk]) with h | h
  ·left
   cases v with
   | undef=>rfl
   | ptr r o=>cases r<;>simp [Go.Am.ren] at h
   | slice m r o n=>cases r<;>simp [Go.Am.ren] at h
   | _=>simp [Go.Am.ren] at h
  ·exact .inr h
theorem nilrs_map {k:Nat} {f g:Nat→AV}:∀ (l:List Nat),(∀ i∈l,nilr k (f i) (g i))→nilrs k (l.map f) (l.map g)
 | [],_=>trivial
 | x::l,h=>⟨h x (by simp),nilrs_map l fun i hi=>h i (by simp [hi])⟩
theorem nilrs_find {k i:Nat}:∀ (live:List Nat) (vs vs':List AV),nilrs k vs vs'→nilr k ((((live.zip vs).find? fun p=>Nat.beq p.1 i).map (·.2)).getD .undef) ((((live.zip vs').find? fun p=>Nat.beq p.1 i).map (·.2)).getD .undef)
 | [],_,_,_=>by simp [nilr]
 | j::live,[],[],_=>by simp [nilr]
 | j::live,[],_::_,h=>h.elim
 | j::live,_::_,[],h=>h.elim
 | j::live,x::vs,y::vs',h=>by
  simp only [List.zip_cons_cons,List.find?_cons]
  split
  ·simpa using h.1
  ·exact nilrs_find live vs vs' h.2
theorem nilrs_fl {k N:Nat} {live:List Nat} {vs vs':List AV} (h:nilrs k vs vs'):nilrs k (fl N live vs) (fl N live vs'):=
 nilrs_map _ fun i _=>nilrs_find live vs vs' h
theorem AWp.pin {C:Ctx} {m m':Nat} {c:Code} {F:Fr} {H:Hp} {Q:Post} (hm:m'≤m) (h:AWp C m c F H Q):AWp C m' c F H Q:=by
 intro r hr ρ a w hH hF
 refine Code.wpIn_mono ?_ (h r hr ρ a w hH hF)
 rintro e a' w' ⟨ae,ρ',F',H',h1,h2,h3,h4⟩
 exact ⟨ae,ρ',F',H',h1,h2,fun i hi=>h3 i (by omega),h4⟩
theorem DLoopOk.of {C:Ctx} {M:Nat} {c:Code} {d:DL} (h:∀ vs H o,d.S vs H=some o→∀ n (Q:Ex→List AV→Hp→Prop),lHolds C.G (fun e vs' H'=>Q e (vVs C.G vs') (vHp C.G H')) n o→
  AWp C M (.loop c) (fl d.N d.live (vVs C.G vs)) (vHp C.G H) (lv d.N d.live (Lp M Q))):DLoopOk C M c d:=
 fun m vs H o hm ho n Q hQ=>((h vs H o ho n Q hQ).pin hm).lmono fun e vs H' hl=>hl.pin hm
end Go.Am
namespace Go
theorem DataW.TrodAll.len {H:Type} {enc:TypeId×Value→H} {P:Program} {w:World} {base:Nat} {spare:Nat→Bool} {held:Bool}:∀ {ts:List TypeId} {vs:List Value} {ds:List (DataW H)} {ps:List MemPlace},DataW.TrodAll enc P w base spare held ts vs ds ps→vs.length=ts.length∧ds.length=ts.length
 | [],vs,ds,ps,h=>by
  obtain ⟨rfl,rfl,rfl⟩:=ChangeShapes.trodAll_nil h
  exact ⟨rfl,rfl⟩
 | t::ts,vs,ds,ps,h=>by
  obtain ⟨v,vs,d,ds,p,q,rfl,rfl,rfl,h1,h2⟩:=ChangeShapes.trodAll_cons h
  have:=DataW.TrodAll.len h2
  simp [this]
end Go
namespace Go.Am
section
variable {H:Type} {P:Program} {L:List RoE} {n:Nat} {t e:TypeId} {cs:List AV} {a:AV} {d:DataW H}
theorem TyD.asInt {k:IntKind} (ht:P.underlying t=some (.int k)) (h:TyD P L (n+1) t cs d):∃ i,cs=[.int k i]∧(Lit.int k i).wf=true∧d=.lit (.int k i):=by unfold TyD at h;rw [ht] at h;exact h
theorem TyD.asSlice (ht:P.underlying t=some (.slice e)) (h:TyD P L (n+1) t cs d):(cs=[.nils]∧d=.nil)∨∃ (k:Nat) (ds sp:List (DataW H)) (en:RoE),cs=[.slice false (.ro k) 0 ds.length]∧d=.slice ds sp∧L[k]?=some en∧
    en.cells.length=ds.length*P.cellsOf e∧ds.length+sp.length≤maxLen∧∀ (i:Nat) x,ds[i]?=some x→TyD P L n e ((en.cells.drop (i*P.cellsOf e)).take (P.cellsOf e)) x:=by unfold TyD at h;rw [ht] at h;exact h
theorem TyD.asStruct {fs:Array Field} (ht:P.underlying t=some (.struct fs)) (h:TyD P L (n+1) t cs d):cs.length=P.cellsOf t∧∃ ds,d=.agg ds∧ds.length=fs.size∧∀ (i:Nat) f x,fs[i]?=some f→ds[i]?=some x→TyD P L n f.type ((cs.drop f.offset).take (P.cellsOf f.type)) x:=by unfold TyD at h;rw [ht] at h;exact h
theorem TyD.asArray {m:Nat} (ht:P.underlying t=some (.array m e)) (h:TyD P L (n+1) t cs d):cs.length=P.cellsOf t∧∃ ds,d=.agg ds∧ds.length=m∧∀ (i:Nat) x,ds[i]?=some x→TyD P L n e ((cs.drop (i*P.cellsOf e)).take (P.cellsOf e)) x:=by unfold TyD at h;rw [ht] at h;exact h
theorem GL_eq {k:Nat} {en:RoE} (h:L[k]?=some en):GL L k=en.cells:=by simp [GL,h]
structure IntsAt (L:List RoE) (kd:IntKind) (k m:Nat):Prop where
 len:(GL L k).length=m
 ok:okI kd (GL L k) 0 m=true
 wf:∀ j,j<m→(Lit.int kd (getI (GL L k) j)).wf=true
theorem ArgD.slice (ht:P.underlying t=some (.slice e)) (h:ArgD P L n t a d):TyD P L n t [a] d:=by unfold ArgD at h;rw [ht] at h;exact h
theorem ArgD.int {k:IntKind} (ht:P.underlying t=some (.int k)) (h:ArgD P L n t a d):TyD P L n t [a] d:=by unfold ArgD at h;rw [ht] at h;exact h
theorem ArgD.array {m:Nat} (ht:P.underlying t=some (.array m e)) (h:ArgD P L n t a d):∃ cs,a=.agg cs∧TyD P L n t cs d:=by unfold ArgD at h;rw [ht] at h;exact h
theorem ArgDs.nil {xs:List AV} {ds:List (DataW H)} (h:ArgDs P L n [] xs ds):xs=[]∧ds=[]:=by
 match xs,ds,h with
 | [],[],_=>exact ⟨rfl,rfl⟩
theorem ArgDs.cons {ts:List TypeId} {xs:List AV} {ds:List (DataW H)} (h:ArgDs P L n (t::ts) xs ds):∃ x xs' d ds',xs=x::xs'∧ds=d::ds'∧ArgD P L n t x d∧ArgDs P L n ts xs' ds':=by
 match xs,ds,h with
 | x::xs,d::ds,h=>exact ⟨x,xs,d,ds,rfl,rfl,h.1,h.2⟩
theorem GL_out {L:List RoE} {k:Nat} (h:L.length≤k):GL L k=[]:=by simp [GL,h]
theorem VR_nils {ρ:Env} {v:Value} (k o:Nat) (h:VR ρ .nils v):VR ρ (.slice true (.ro k) o 0) v:=by
 simp only [VR] at h ⊢
 subst h
 exact ⟨none,0,rfl,Nat.le_refl _,.inl ⟨rfl,rfl,rfl⟩⟩
theorem VR_may {ρ:Env} {v:Value} {mb:Bool} {r:Ref} {o m:Nat} (h:VR ρ (.slice mb r o m) v):VR ρ (.slice true r o m) v:=by
 simp only [VR] at h ⊢
 obtain ⟨ca,cap,h1,h2,h3⟩:=h
 refine ⟨ca,cap,h1,h2,?_⟩
 rcases h3 with ⟨h3,h4,_⟩ | h3
 ·exact .inl ⟨h3,h4,rfl⟩
 ·exact .inr h3
end
end Go.Am
namespace Go.Am
variable {C:Ctx}
theorem vHp_set_same {G:Nat→List AV} {H:DHp} {i:Nat} {b:DBlk} (hi:H[i]?=some (some b)):(vHp G H).set i (some (vBlk G b))=vHp G H:=by
 have hg:=vHp_some (G:=G) hi
 have hlt:i<(vHp G H).length:=(List.getElem?_eq_some_iff.1 hg).1
 have:(vHp G H)[i]=some (vBlk G b):=by
  have:=hg
  rw [List.getElem?_eq_getElem hlt] at this
  simpa using this
 rw [←this]
 exact List.set_getElem_self hlt
theorem DOut.get2 {f:FuncId} {args0:List AV} {args:List EV} {H:DHp} {i j:Nat} {b0 b1:DBlk} {v:EV} (hij:i≠j) (hi:H[i]?=some (some b0)) (hj:H[j]?=some (some b1))
  (h:ACalls C f args0 [some (vBlk C.G b0),some (vBlk C.G b1)] fun v' H'=>v'=vV C.G v∧H'.take 2=[some (vBlk C.G b0),some (vBlk C.G b1)])
  (h0:bnds 0 (vL C.G b0.cells)=true) (h1:bnds 0 (vL C.G b1.cells)=true) (ha:bnds 2 args0=true) (he:vVs C.G args=rens [i,j] args0) (hv:bnd 0 (vV C.G v)=true) (hu:vV C.G v≠.undef):DOut C f args H v []:=by
 have h:=h.keep (by simp) (by simp [hpB,vBlk,bnds_mono (Nat.zero_le _) _ h0,bnds_mono (Nat.zero_le _) _ h1]) (bnd_mono (Nat.zero_le _) _ hv) hu
 have ri:∀ (b:DBlk),bnds 0 (vL C.G b.cells)=true→renB [i,j] (vBlk C.G b)=vBlk C.G b:=fun b hb=>by simp only [renB,vBlk,rens_flat _ _ hb]
 have key:=frame_call h [i,j] rfl (by simp [hij]) (fun k b hk=>by
  match k with
  | 0=>simp at hk;subst hk;exact ⟨_,rfl,bnds_mono (Nat.zero_le _) _ h0,by rw [ri _ h0];simpa using vHp_some (G:=C.G) hi⟩
  | 1=>simp at hk;subst hk;exact ⟨_,rfl,bnds_mono (Nat.zero_le _) _ h1,by rw [ri _ h1];simpa using vHp_some (G:=C.G) hj⟩
  | k+2=>simp at hk) (H:=vHp C.G H) (by simpa using ha) (fun v0 H0' hk=>by
  obtain ⟨rfl,rfl⟩:=hk
  refine ⟨Nat.le_refl _,bnd_mono (Nat.zero_le _) _ hv,fun k b hb=>?_⟩
  match k with
  | 0=>simp at hb;subst hb;exact bnds_mono (Nat.zero_le _) _ h0
  | 1=>simp at hb;subst hb;exact bnds_mono (Nat.zero_le _) _ h1
  | k+2=>simp at hb)
 unfold DOut
 rw [he]
 refine key.monoK ?_
 rintro v' H' ⟨v0,H0',⟨rfl,rfl⟩,rfl,rfl⟩
 refine ⟨ren_flat _ _ hv,?_⟩
 simp only [List.map_nil,acts,merge,List.length_cons,List.length_nil,lay,renO,Option.map_some,List.drop_succ_cons,List.drop_nil,List.append_nil]
 have rw':∀ (b:DBlk) (θ:List Nat),bnds 0 (vL C.G b.cells)=true→renB θ (vBlk C.G b)=vBlk C.G b:=fun b θ hb=>by simp only [renB,vBlk,rens_flat _ _ hb]
 rw [rw' _ _ h0,rw' _ _ h1,vHp_set_same hi,vHp_set_same hj]
theorem DOut.get1g {f:FuncId} {args0:List AV} {args:List EV} {H:DHp} {i:Nat} {b0:DBlk} {v:EV} (hi:H[i]?=some (some b0))
  (h:ACalls C f args0 [some (vBlk C.G b0)] fun v' H'=>v'=vV C.G v∧H'.take 1=[some (vBlk C.G b0)])
  (h0:bnds 0 (vL C.G b0.cells)=true) (ha:bnds 1 args0=true) (he:vVs C.G args=rens [i] args0) (hv:bnd 0 (vV C.G v)=true) (hu:vV C.G v≠.undef):DOut C f args H v []:=by
 have h:=h.keep (by simp) (by simp [hpB,vBlk,bnds_mono (Nat.zero_le _) _ h0]) (bnd_mono (Nat.zero_le _) _ hv) hu
 have rw':∀ (b:DBlk) (θ:List Nat),bnds 0 (vL C.G b.cells)=true→renB θ (vBlk C.G b)=vBlk C.G b:=fun b θ hb=>by simp only [renB,vBlk,rens_flat _ _ hb]
 have key:=frame_call h [i] rfl (by simp) (fun k b hk=>by
  match k with
  | 0=>simp at hk;subst hk;exact ⟨_,rfl,bnds_mono (Nat.zero_le _) _ h0,by rw [rw' _ _ h0];simpa using vHp_some (G:=C.G) hi⟩
  | k+1=>simp at hk) (H:=vHp C.G H) (by simpa using ha) (fun v0 H0' hk=>by
  obtain ⟨rfl,rfl⟩:=hk
  refine ⟨Nat.le_refl _,bnd_mono (Nat.zero_le _) _ hv,fun k b hb=>?_⟩
  match k with
  | 0=>simp at hb;subst hb;exact bnds_mono (Nat.zero_le _) _ h0
  | k+1=>simp at hb)
 unfold DOut
 rw [he]
 refine key.monoK ?_
 rintro v' H' ⟨v0,H0',⟨rfl,rfl⟩,rfl,rfl⟩
 refine ⟨ren_flat _ _ hv,?_⟩
 simp only [List.map_nil,acts,merge,List.length_cons,List.length_nil,lay,renO,Option.map_some,List.drop_succ_cons,List.drop_nil,List.append_nil]
 rw [rw' _ _ h0,vHp_set_same hi]
end Go.Am
namespace Go.Am
variable {C:Ctx}
theorem hpB_get {n:Nat}:∀ {H:Hp},hpB n H=true→∀ (i:Nat) b,H[i]?=some (some b)→bnds n b.cells=true
 | [],_,i,b,h=>by simp at h
 | none::H,hb,i,b,h=>by
  cases i with
  | zero=>simp at h
  | succ i=>exact hpB_get (H:=H) (by simpa [hpB] using hb) i b (by simpa using h)
 | some b0::H,hb,i,b,h=>by
  simp only [hpB,Bool.and_eq_true] at hb
  cases i with
  | zero=>simp at h;subst h;exact hb.1
  | succ i=>exact hpB_get (H:=H) hb.2 i b (by simpa using h)
theorem DOut.fr {f:FuncId} {args0:List AV} {args:List EV} {H:DHp} {θ:List Nat} {H0 H1:Hp} {v0:AV} {v:EV} {hs:List DHop} (hnd:θ.Nodup) (hl:θ.length=H0.length)
  (hlive:∀ (i:Nat) b,H0[i]?=some b→∃ b0,b=some b0∧bnds θ.length b0.cells=true∧(vHp C.G H)[θ.getD i 0]?=some (some (renB θ b0)))
  (ha:bnds θ.length args0=true) (he:vVs C.G args=rens θ args0) (h:ACalls C f args0 H0 fun v' H'=>v'=v0∧H'=H1) (hle:H0.length≤H1.length) (hv0:bnd H1.length v0=true) (hb:hpB H1.length H1=true)
  (hv:vV C.G v=ren (wide θ H.length (H1.length - θ.length)) v0) (hm:acts (vHp C.G H) (hs.map (vHop C.G))=merge θ (vHp C.G H) H1):DOut C f args H v hs:=by
 have key:=frame_call h θ hl hnd hlive ha (fun v1 H0' hk=>by
  obtain ⟨rfl,rfl⟩:=hk
  exact ⟨hle,hv0,hpB_get hb⟩)
 unfold DOut
 rw [he]
 refine key.monoK ?_
 rintro v' H' ⟨v1,H0',⟨rfl,rfl⟩,rfl,rfl⟩
 exact ⟨by rw [hv,vHp_length],hm.symm⟩
theorem lay_same (θ':List Nat):∀ (θ:List Nat) (bs:List (Option Blk)) (H:Hp),(∀ (i:Nat) b,i<θ.length→bs[i]?=some b→H[θ.getD i 0]?=some (renO θ' b))→lay θ' θ bs H=H
 | [],_,_,_=>by simp [lay]
 | _::_,[],_,_=>by simp [lay]
 | j::θ,b::bs,H,h=>by
  have h0:=h 0 b (by simp) rfl
  have hj:H[j]?=some (renO θ' b):=by simpa using h0
  have hlt:j<H.length:=(List.getElem?_eq_some_iff.1 hj).1
  have e:H.set j (renO θ' b)=H:=by
   have:H[j]=renO θ' b:=by rw [List.getElem?_eq_getElem hlt] at hj;simpa using hj
   rw [←this];exact List.set_getElem_self hlt
  simp only [lay,e]
  exact lay_same θ' θ bs H fun i b' hi hb=>by
   have:=h (i+1) b' (by simpa using hi) (by simpa using hb)
   simpa using this
end Go.Am
namespace Go.Am
open Go.ChangeShapes Go.WideShapes Go.ChangeAt Go.RowKit
section
variable {H:Type} {P:Program} {L:List RoE} {n:Nat} {t e:TypeId} {cs:List AV} {d:DataW H} {a:AV}
def rowI (P:Program) (e:TypeId) (kd:IntKind) (z:Nat):Bool:=
 match P.underlying e with
 | some (.struct fs)=>Nat.beq fs.size z&&(Nat.beq (P.cellsOf e) z&&(List.range z).all fun i=>match fs[i]? with
  | some f=>Nat.beq f.offset i&&(Nat.beq (P.cellsOf f.type) 1&&(match P.underlying f.type with
   | some (.int k)=>k==kd
   | _=>false))
  | none=>false)
 | _=>false
theorem TyD.asRow {kd:IntKind} {z:Nat} (hr:rowI P e kd z=true) (h:TyD P L (n+2) e cs d):cs.length=z∧∀ j,j<z→∃ i,cs[j]?=some (.int kd i)∧(Lit.int kd i).wf=true:=by
 unfold rowI at hr
 split at hr
 ·rename_i fs hu
  simp only [Bool.and_eq_true,List.all_eq_true,List.mem_range] at hr
  obtain ⟨h1,h2,h3⟩:=hr
  obtain ⟨g1,ds,g2,g3,g4⟩:=TyD.asStruct hu h
  rw [Nat.eq_of_beq_eq_true h2] at g1
  refine ⟨g1,fun j hj=>?_⟩
  have hf:=h3 j hj
  split at hf
  ·rename_i f hfj
   simp only [Bool.and_eq_true] at hf
   obtain ⟨k1,k2,k3⟩:=hf
   split at k3
   ·rename_i k hk
    have k3:=eq_of_beq k3
    subst k3
    have hl:j<ds.length:=by rw [g3,Nat.eq_of_beq_eq_true h1];exact hj
    obtain ⟨i,e1,e2,_⟩:=TyD.asInt hk (g4 j f ds[j] hfj (List.getElem?_eq_getElem hl))
    rw [Nat.eq_of_beq_eq_true k1,Nat.eq_of_beq_eq_true k2] at e1
    refine ⟨i,?_,e2⟩
    have:=congrArg (fun l:List AV=>l[0]?) e1
    simpa only [List.getElem?_take,List.getElem?_drop,List.getElem?_cons_zero,Nat.add_zero,Nat.lt_one_iff,if_true] using this
   ·simp at k3
  ·simp at hf
 ·simp at hr
theorem ArgD.rows {kd:IntKind} {z:Nat} (ht:P.underlying t=some (.slice e)) (hr:rowI P e kd z=true) (h:ArgD P L (n+3) t a d) :
  ∃ k m,(∀ (ρ:Env) v,VR ρ a v→VR ρ (.slice true (.ro k) 0 m) v)∧IntsAt L kd k (m*z):=by
 rcases TyD.asSlice ht (ArgD.slice ht h) with ⟨h1,_⟩ | ⟨k,ds,sp,en,h1,h2,h3,h4,h5,h6⟩
 ·simp only [List.cons.injEq,and_true] at h1
  subst h1
  exact ⟨L.length,0,fun ρ v hv=>VR_nils _ _ hv,by rw [GL_out (Nat.le_refl _)];simp,okI_of fun j hj=>by omega,fun j hj=>by omega⟩
 ·simp only [List.cons.injEq,and_true] at h1
  subst h1
  have hz:P.cellsOf e=z:=by
   unfold rowI at hr
   split at hr
   ·simp only [Bool.and_eq_true] at hr;exact Nat.eq_of_beq_eq_true hr.2.1
   ·simp at hr
  rw [hz] at h4 h6
  have key:∀ j,j<ds.length*z→∃ i,en.cells[j]?=some (.int kd i)∧(Lit.int kd i).wf=true:=fun j hj=>by
   have hz0:0<z:=by
    rcases Nat.eq_zero_or_pos z with rfl | h0
    ·simp at hj
    ·exact h0
   have hq:j / z<ds.length:=(Nat.div_lt_iff_lt_mul hz0).2 hj
   obtain ⟨_,g2⟩:=TyD.asRow hr (h6 (j / z) ds[j / z] (List.getElem?_eq_getElem hq))
   obtain ⟨i,e1,e2⟩:=g2 (j % z) (Nat.mod_lt _ hz0)
   refine ⟨i,?_,e2⟩
   rw [List.getElem?_take,if_pos (Nat.mod_lt _ hz0),List.getElem?_drop] at e1
   rw [←e1]
   congr 1
   rw [Nat.mul_comm]
   exact (Nat.div_add_mod j z).symm
  refine ⟨k,ds.length,fun ρ v hv=>VR_may hv,by rw [GL_eq h3,h4],okI_of fun j hj=>?_,fun j hj=>?_⟩
  ·obtain ⟨i,g1,_⟩:=key j hj
   rw [GL_eq h3,Nat.zero_add]
   simp [isI,g1]
  ·obtain ⟨i,g1,g2⟩:=key j hj
   rw [GL_eq h3]
   simp [getI,g1,g2]
theorem ArgD.i64 {k:IntKind} (ht:P.underlying t=some (.int k)) (h:ArgD P L (n+1) t a d):∃ i,a=.int k i∧(Lit.int k i).wf=true:=by
 obtain ⟨i,h1,h2,_⟩:=TyD.asInt ht (ArgD.int ht h)
 simp only [List.cons.injEq,and_true] at h1
 exact ⟨i,h1,h2⟩
theorem ArgD.two {k:IntKind} (ht:P.underlying t=some (.array 2 e)) (he:P.underlying e=some (.int k)) (hc:P.cellsOf e=1) (hc':P.cellsOf t=2) (h:ArgD P L (n+2) t a d):∃ i j,a=.agg [.int k i,.int k j]∧(Lit.int k i).wf=true∧(Lit.int k j).wf=true:=by
 obtain ⟨cs,rfl,h1⟩:=ArgD.array ht h
 obtain ⟨g1,ds,g2,g3,g4⟩:=TyD.asArray ht h1
 rw [hc'] at g1
 rw [hc] at g4
 match cs,g1,ds,g3 with
 | [x,y],_,[d1,d2],_=>
  obtain ⟨i,e1,e2,_⟩:=TyD.asInt he (g4 0 d1 rfl)
  obtain ⟨j,e3,e4,_⟩:=TyD.asInt he (g4 1 d2 rfl)
  simp only [Nat.zero_mul,Nat.one_mul,List.drop_zero,List.take_succ_cons,List.take_zero,List.drop_succ_cons,List.cons.injEq,and_true] at e1 e3
  subst e1 e3
  exact ⟨i,j,rfl,e2,e4⟩
end
end Go.Am
namespace Go.Am
variable {C:Ctx}
theorem DOut.rdN {f:FuncId} {args:List EV} {H:DHp} {v:EV} {σ:Sig} {G':Nat→List AV} {args0:List AV} (hs:Sees C (vHp C.G H) σ G') (ha:norws args0=true) (hw:∀ (ρ:Env) vs,VRs ρ (vVs C.G args) vs→VRs ρ (sbs σ 0 args0) vs)
  (h:∀ B,ACalls ⟨C.P,G',B⟩ f args0 [] fun v' _=>v'=vV C.G v) (hv:bnd 0 (vV C.G v)=true∧noro (vV C.G v)=true):DOut C f args H v []:=by
 unfold DOut
 refine ((ro_flat hs h ha rfl (fun v' e=>by subst e;exact hv)).weaken hw).monoK ?_
 rintro v' H' ⟨rfl,rfl⟩
 exact ⟨rfl,by simp [acts]⟩
end Go.Am
namespace Go.Am
variable {C:Ctx}
end Go.Am
namespace Go.Am
variable {C:Ctx}
def nilT (k:Nat):AV→AV→Prop
 | .tup xs,.tup ys=>nilrs k xs ys
 | x,y=>nilr k x y
theorem nilrs_val {ρ:Env}:∀ {xs ys:List AV} {cv:List Value},nilrs ρ.rw.length xs ys→VRs ρ ys cv→VRs (ρ.push none) xs cv
 | [],[],_,_,h=>h
 | [],_::_,_,h,_=>h.elim
 | _::_,[],_,h,_=>h.elim
 | x::xs,y::ys,cv,h,hv=>by
  simp only [VRs] at hv ⊢
  obtain ⟨v,vs,e,h1,h2⟩:=hv
  exact ⟨v,vs,e,nilr_val h.1 h1,nilrs_val h.2 h2⟩
theorem nilT_val {ρ:Env} {x y:AV} {cv:Value} (h:nilT ρ.rw.length x y) (hv:VR ρ y cv):VR (ρ.push none) x cv:=by
 unfold nilT at h
 split at h
 ·simp only [VR] at hv ⊢
  obtain ⟨vs,e,hs⟩:=hv
  exact ⟨vs,e,nilrs_val h hs⟩
 ·exact nilr_val h hv
theorem ACalls.nil {f:FuncId} {args:List AV} {H:Hp} {K K':AV→Hp→Prop} (e:Nat) (h:ACalls C f args H K) (hk:∀ v H',K v H'→K' v H'∨∃ v',K' v' (H'++[some ⟨e,[]⟩])∧nilH H'.length H' H'∧nilT H'.length v' v):ACalls C f args H K':=by
 refine ⟨h.1,fun ρ w cargs hH hv=>(h.2 ρ w cargs hH hv).mono ?_⟩
 rintro ex w' ⟨v,cv,ρ',H',rfl,h2,h3,h4,h5,h6⟩
 rcases hk v H' h2 with g | ⟨v',g1,g2,g3⟩
 ·exact ⟨v,cv,ρ',H',rfl,g,h3,h4,h5,h6⟩
 ·refine ⟨v',cv,ρ'.push none,_,rfl,g1,?_,nil_rel e g2 h4,nilT_val (by rw [h4.len];exact g3) h5,h6.trans nil_frm⟩
  have hl:=Env.le_push ρ' none
  refine ⟨fun i x hx=>hl.1 i x (h3.1 i x hx),fun i b d h=>hl.2 i b d (h3.2 i b d h),fun D hD=>hl.3 D (h3.3 D hD)⟩
theorem nilH_refl {k:Nat}:∀ (H:Hp),nilH k H H
 | []=>trivial
 | none::H=>nilH_refl H
 | some b::H=>⟨⟨rfl,nilrs_refl _⟩,nilH_refl H⟩
end Go.Am
namespace Go.Am
variable {C:Ctx}
theorem scan {m:Nat} {c:Code} {N:Nat} {live:List Nat} {Q:Ex→List AV→Hp→Prop} (n:Nat) (st:Nat→List AV) (hp:Nat→Hp)
  (h:∀ i,i≤n→AWp C m c (fl N live (st i)) (hp i) (lv N live fun e vs H=>match e with
   | .normal=>i<n∧((vs=st (i+1)∧H=hp (i+1))∨View m (st (i+1)) (hp (i+1)) vs H)
   | e=>Q e vs H)):AWp C m (.loop c) (fl N live (st 0)) (hp 0) (lv N live Q):=by
 refine aloop_lv (fun j vs H=>∃ i:Nat,i≤n∧j=n - i∧vs=st i∧H=hp i) n ⟨0,by omega,rfl,rfl,rfl⟩ ?_
 rintro j vs H ⟨i,hi,rfl,rfl,rfl⟩
 refine (h i hi).lmono ?_
 intro e vs' H' hq
 match e,hq with
 | .normal,⟨hin,hq⟩=>
  refine ⟨n - (i+1),by omega,?_⟩
  rcases hq with ⟨rfl,rfl⟩ | hq
  ·exact .inl ⟨i+1,by omega,rfl,rfl,rfl⟩
  ·exact .inr ⟨_,_,⟨i+1,by omega,rfl,rfl,rfl⟩,hq⟩
 | .ret,hq=>exact hq
 | .exit i,hq=>exact hq
theorem scanP {m:Nat} {c:Code} {N:Nat} {live:List Nat} {Q:Ex→List AV→Hp→Prop} (P:Nat→Prop) (n:Nat) (st:Nat→List AV) (hp:Nat→Hp) (h0:P 0)
  (h:∀ i,i≤n→P i→AWp C m c (fl N live (st i)) (hp i) (lv N live fun e vs H=>match e with
   | .normal=>i<n∧P (i+1)∧((vs=st (i+1)∧H=hp (i+1))∨View m (st (i+1)) (hp (i+1)) vs H)
   | e=>Q e vs H)):AWp C m (.loop c) (fl N live (st 0)) (hp 0) (lv N live Q):=by
 refine aloop_lv (fun j vs H=>∃ i:Nat,i≤n∧P i∧j=n - i∧vs=st i∧H=hp i) n ⟨0,by omega,h0,rfl,rfl,rfl⟩ ?_
 rintro j vs H ⟨i,hi,hP,rfl,rfl,rfl⟩
 refine (h i hi hP).lmono ?_
 intro e vs' H' hq
 match e,hq with
 | .normal,⟨hin,hP',hq⟩=>
  refine ⟨n - (i+1),by omega,?_⟩
  rcases hq with ⟨rfl,rfl⟩ | hq
  ·exact .inl ⟨i+1,by omega,hP',rfl,rfl,rfl⟩
  ·exact .inr ⟨_,_,⟨i+1,by omega,hP',rfl,rfl,rfl⟩,hq⟩
 | .ret,hq=>exact hq
 | .exit i,hq=>exact hq
mutual
def sameV:AV→AV→Bool
 | .undef,.undef=>true
 | .bool a,.bool b=>a==b
 | .int k n,.int k' m=>k==k'&&n==m
 | .str s,.str t=>s==t
 | .nilp,.nilp=>true
 | .ptr r o,.ptr r' o'=>decide (r=r')&&Nat.beq o o'
 | .nils,.nils=>true
 | .slice b r o n,.slice b' r' o' n'=>b==b'&&(decide (r=r')&&(Nat.beq o o'&&Nat.beq n n'))
 | .nilf,.nilf=>true
 | .func f c,.func f' c'=>Nat.beq f f'&&sameVs c c'
 | .agg c,.agg c'=>sameVs c c'
 | .tup c,.tup c'=>sameVs c c'
 | .yld i,.yld j=>Nat.beq i j
 | _,_=>false
termination_by structural x=>x
def sameVs:List AV→List AV→Bool
 | [],[]=>true
 | x::l,y::k=>sameV x y&&sameVs l k
 | _,_=>false
termination_by structural x=>x
end
mutual
theorem sameV_eq:∀ x y,sameV x y=true→x=y
 | .undef,y,h=>by cases y<;>simp [sameV] at h ⊢
 | .bool a,y,h=>by cases y<;>simp [sameV] at h ⊢;exact h
 | .int k n,y,h=>by cases y<;>simp [sameV] at h ⊢;exact h
 | .str s,y,h=>by cases y<;>simp [sameV] at h ⊢;exact h
 | .nilp,y,h=>by cases y<;>simp [sameV] at h ⊢
 | .ptr r o,y,h=>by cases y<;>simp [sameV] at h ⊢;exact h
 | .nils,y,h=>by cases y<;>simp [sameV] at h ⊢
 | .slice b r o n,y,h=>by cases y<;>simp [sameV] at h ⊢;exact h
 | .nilf,y,h=>by cases y<;>simp [sameV] at h ⊢
 | .func f c,y,h=>by cases y<;>simp [sameV] at h ⊢;exact ⟨h.1,sameVs_eq c _ h.2⟩
 | .agg c,y,h=>by cases y<;>simp [sameV] at h ⊢;exact sameVs_eq c _ h
 | .tup c,y,h=>by cases y<;>simp [sameV] at h ⊢;exact sameVs_eq c _ h
 | .yld i,y,h=>by cases y<;>simp [sameV] at h ⊢;exact h
 | .rcd ..,y,h=>by cases y<;>simp [sameV] at h
theorem sameVs_eq:∀ l k,sameVs l k=true→l=k
 | [],k,h=>by cases k<;>simp [sameVs] at h ⊢
 | x::l,k,h=>by
  cases k with
  | nil=>simp [sameVs] at h
  | cons y k=>
   simp [sameVs] at h ⊢
   exact ⟨sameV_eq x y h.1,sameVs_eq l k h.2⟩
end
def encHB (H:Hp):List AV:=H.map fun b=>match b with
 | some b=>.tup [.int .i64 (b.esz:Int),.agg b.cells]
 | none=>.undef
def encHD (H:DHp):List EV:=H.map fun b=>match b with
 | some b=>.tup [.int .i64 (.lit (b.esz:Int)),.agg b.cells]
 | none=>.undef
theorem encH_ok {G:Nat→List AV}:∀ H:DHp,vVs G (encHD H)=encHB (vHp G H)
 | []=>rfl
 | none::H=>by
  have:=encH_ok (G:=G) H
  simp only [encHD,encHB,vHp,List.map_cons,vVs,vV,Option.map_none] at this ⊢
  rw [this]
 | some b::H=>by
  have:=encH_ok (G:=G) H
  simp only [encHD,encHB,vHp,List.map_cons,vVs,vV,vI,Option.map_some,vBlk] at this ⊢
  rw [this]
theorem encH_inj:∀ H H':Hp,encHB H=encHB H'→H=H'
 | [],[],_=>rfl
 | [],_::_,h=>by simp [encHB] at h
 | _::_,[],h=>by simp [encHB] at h
 | b::H,b'::H',h=>by
  simp only [encHB,List.map_cons,List.cons.injEq] at h
  have h2:=encH_inj H H' h.2
  subst h2
  have h1:=h.1
  match b,b',h1 with
  | none,none,_=>rfl
  | none,some b',h1=>simp at h1
  | some b,none,h1=>simp at h1
  | some ⟨e,c⟩,some ⟨e',c'⟩,h1=>
   simp at h1
   obtain ⟨h3,h4⟩:=h1
   have:e=e':=by omega
   subst this;subst h4;rfl
def stIs (vs0:List AV) (H0:Hp):List AV→Bool:=fun xs=>match xs with
 | [.agg vs,.agg hs]=>sameVs vs vs0&&sameVs hs (encHB H0)
 | _=>false
theorem stIs_eq {vs0 vs:List AV} {H0 H:Hp} (h:stIs vs0 H0 [.agg vs,.agg (encHB H)]=true):vs=vs0∧H=H0:=by
 simp only [stIs,Bool.and_eq_true] at h
 exact ⟨sameVs_eq _ _ h.1,encH_inj _ _ (sameVs_eq _ _ h.2)⟩
def stQ (c:Bool) (vs0:List AV) (H0:Hp):List AV→Bool:=fun xs=>c&&stIs vs0 H0 xs
def LOut.post (G:Nat→List AV) (m:Nat):LOut→Ex→List AV→Hp→Prop
 | .one e vs H=>fun e' vs' H'=>e'=e∧((wk (vVs G vs) vs'∧H'=vHp G H)∨View m (vVs G vs) (vHp G H) vs' H')
 | .tst b x y=>fun e' vs' H'=>(vB G b=true∧x.post G m e' vs' H')∨(vB G b=false∧y.post G m e' vs' H')
 | .chk _ x=>x.post G m
 | _=>fun _ _ _=>False
theorem post_holds {G:Nat→List AV} {m:Nat} {Q:Ex→List AV→Hp→Prop} {e:Ex} {vs:List AV} {H:Hp}:∀ (o:LOut) (n:Nat),lHolds G (fun e vs' H'=>Q e (vVs G vs') (vHp G H')) n o→o.post G m e vs H→Lp m Q e vs H
 | .one e' vs' H',n,h,hp=>by
  simp only [lHolds] at h
  obtain ⟨rfl,hp⟩:=hp
  rcases hp with ⟨h1,rfl⟩ | hp
  ·exact .inl ⟨_,h1,h⟩
  ·exact .inr ⟨_,_,hp,h⟩
 | .tst b x y,n,h,hp=>by
  simp only [lHolds] at h
  rcases hp with ⟨hb,hp⟩ | ⟨hb,hp⟩
  ·exact post_holds x n (h.1 hb) hp
  ·exact post_holds y n (h.2 hb) hp
 | .chk b x,n,h,hp=>by
  simp only [lHolds] at h
  exact post_holds x n h.2 hp
 | .imp ..,n,h,hp=>hp.elim
 | .allI ..,n,h,hp=>hp.elim
 | .allN ..,n,h,hp=>hp.elim
 | .allB ..,n,h,hp=>hp.elim
 | .allL ..,n,h,hp=>hp.elim
 | .namI ..,n,h,hp=>hp.elim
 | .namN ..,n,h,hp=>hp.elim
 | .namB ..,n,h,hp=>hp.elim
 | .namL ..,n,h,hp=>hp.elim
def DLat (j:Nat) (q:List AV→Bool) (ex N:Nat) (live:List Nat) (o:LOut):DL:=
 ⟨ex,N,live,fun vs H=>some (.chk (.uf j q [.agg (.of vs),.agg (.of (encHD H))]) o)⟩
theorem DLat_ok {M:Nat} {c:Code} {j:Nat} {ex N:Nat} {live:List Nat} {o:LOut} {vs0:List AV} {H0:Hp} {q:List AV→Bool} {cb:Bool} (hq:q=stQ cb vs0 H0)
  (h:cb=true→AWp C M (.loop c) (fl N live vs0) H0 (lv N live (o.post C.G M))):DLoopOk C M c (DLat j q ex N live o):=by
 refine .of fun vs H o' ho n Q hQ=>?_
 simp only [DLat,Option.some.injEq] at ho
 subst ho
 obtain ⟨h1,h2⟩:=hQ
 simp only [vB,vVs,vV,vL,encH_ok] at h1
 rw [hq] at h1
 simp only [stQ,Bool.and_eq_true] at h1
 obtain ⟨e1,e2⟩:=stIs_eq h1.2
 rw [e1,e2]
 exact (h h1.1).lmono fun e vs H hp=>post_holds o n h2 hp
theorem AWp.nilL {m:Nat} {c:Code} {N:Nat} {live:List Nat} {H:Hp} {Q:Post} {vs:List AV} (vs':List AV) (e:Nat) (hm:m≤H.length) (hv:nilrs H.length vs' vs) (h:AWp C m c (fl N live vs') (H++[some ⟨e,[]⟩]) Q):AWp C m c (fl N live vs) H Q:=
 AWp.nil e hm (nilrs_fl hv) (nilH_refl H) h
end Go.Am
namespace Go.Am
variable {C:Ctx}
theorem AWp.rng {m:Nat} {F:Fr} {H:Hp} {g:Operand} {ps:Array Tmp} {as bd:Code} {f:FuncId} {cap:List AV} {Q0:Post} (hm:m≤H.length) (hg:ev F g=.func f cap)
  (call:ACalls C f (.yld H.length::cap) (H++[some ⟨4294967291,.rcd 0 ps as bd::F⟩]) (rngEnd H.length F Q0)):AWp C m (.rangeFunc g ps as bd) F H Q0:=by
 intro r hr ρ a w hH hF
 cases r with
 | none=>exact rng_sound hm hH hF hg call
 | some r=>simp [okR,noRange] at hr
theorem AYld.of {i:Nat} {args:List AV} {H:Hp} {e:Nat} {ps:Array Nat} {as bd:Code} {F0:Fr} {R:AV→Hp→Prop} (hi:H[i]?=some (some ⟨e,.rcd 0 ps as bd::F0⟩)) (he:Nat.beq e 4294967291=true) (hl:args.length=ps.size) (na:noRange as=true) (nb:noRange bd=true) {Q1 Q2:Post}
  (A:AWp C H.length as (setsP F0 ps.toList args) H Q1)
  (B:∀ ex F1 H1,H.length≤H1.length→Q1 ex F1 H1→ex=.normal∧∃ e ps' as' bd' F',H1[i]?=some (some ⟨e,.rcd 0 ps' as' bd'::F'⟩)∧Nat.beq e 4294967291=true∧AWp C H.length bd F1 (H1.set i (some ⟨e,.rcd 1 ps' as' bd'::F'⟩)) Q2)
  (E:∀ ex F2 H2,H.length≤H2.length→Q2 ex F2 H2→∃ e ps' as' bd' F',H2[i]?=some (some ⟨e,.rcd 1 ps' as' bd'::F'⟩)∧Nat.beq e 4294967291=true∧R (.bool (isNormal ex)) (H2.set i (some ⟨e,.rcd (stEx ex) ps' as' bd'::F'⟩))):AYld C i args H R:=by
 intro ρ F w a o r next Q hH hF ho hn
 refine yld_sound hH hF ho hi he hl (fun r ρ a w hH hF=>A (some r) na ρ a w hH hF) (fun ex F1 H1 hm hq=>?_) E hn
 obtain ⟨h1,e,ps',as',bd',F',h2,h3,h4⟩:=B ex F1 H1 hm hq
 exact ⟨h1,e,ps',as',bd',F',h2,h3,fun r ρ a w hH hF=>h4 (some r) nb ρ a w hH hF⟩
theorem AYld.view {i:Nat} {args:List AV} {H:Hp} {K K':AV→Hp→Prop} (h:AYld C i args H K) (hk:∀ v H',K v H'→∃ v' H'',K' v' H''∧View H.length [v'] H'' [v] H'):AYld C i args H K':=by
 intro ρ F w a o r next Q hH hF ho hn
 refine h ρ F w a o r next Q hH hF ho ?_
 intro v H' ρ' cv w' h2 h4 h5 h3 h6
 obtain ⟨v',H'',g1,g2⟩:=hk v H' h2
 obtain ⟨ρ2,q1,q2,q3,q4,q5⟩:=g2.use' (a:=⟨#[cv],[]⟩) h4 ⟨⟨[],rfl,List.nodup_nil,fun _ h=>by simp at h⟩,rfl,fun i x hx=>by
  cases i with
  | zero=>simp at hx;subst hx;simpa using h5
  | succ i=>simp at hx⟩
 refine hn v' H'' ρ2 cv w' g1 q1 (by have:=q2.val 0 v' rfl;simpa using this) ?_ (h6.trans q4)
 refine ⟨fun i x hx=>?_,fun i b d h=>q4.ro i b d (h3.2 i b d h),fun D hD=>by rw [q5];exact h3.3 D hD⟩
 have hi:i<ρ.rw.length:=(List.getElem?_eq_some_iff.1 hx).1
 rw [q3 i (by rw [←hH.len];exact hi)]
 exact h3.1 i x hx
theorem AYld.mono {i:Nat} {args:List AV} {H:Hp} {K K':AV→Hp→Prop} (h:AYld C i args H K) (hk:∀ v H',K v H'→K' v H'):AYld C i args H K':=
 fun ρ F w a o r next Q hH hF ho hn=>h ρ F w a o r next Q hH hF ho fun v H' ρ' cv w' h1=>hn v H' ρ' cv w' (hk v H' h1)
theorem AYld.dx {K:DCfg} {f1 f2 n1 n2 N:Nat} {live:List Nat} {i e:Nat} {args:List AV} {ps:Array Nat} {ac bd:Code} {F0:Fr} {vs vs1:List EV} {H H1 H2:DHp} {R:AV→Hp→Prop} (ka:DGood C K (loopsOf ac)) (kb:DGood C K (loopsOf bd))
  (hi:(vHp C.G H)[i]?=some (some ⟨e,.rcd 0 ps ac bd::F0⟩)) (he:Nat.beq e 4294967291=true) (hl:args.length=ps.size) (na:noRange ac=true) (nb:noRange bd=true) (hF:setsP F0 ps.toList args=fl N live (vVs C.G vs))
  (A:vT C.G (fun ex ws H'=>ex=.normal∧ws=vVs C.G vs1∧H'=vHp C.G H1) (fun _ _=>False) (dloop K f1 n1 H.length ac N live vs H))
  (h1:(vHp C.G H1)[i]?=some (some ⟨e,.rcd 0 ps ac bd::F0⟩)) (hlen:H.length≤H2.length) (h2:vHp C.G H2=(vHp C.G H1).set i (some ⟨e,.rcd 1 ps ac bd::F0⟩))
  (D:vT C.G (fun ex _ H'=>H'[i]?=some (some ⟨e,.rcd 1 ps ac bd::F0⟩)∧∃ H'' Gx,H'.set i (some ⟨e,.rcd (stEx ex) ps ac bd::F0⟩)=H''++Gx∧H.length≤H''.length∧hpB H''.length H''=true∧R (.bool (isNormal ex)) H'') (fun _ _=>False) (dloop K f2 n2 H.length bd N live vs1 H2)):AYld C i args (vHp C.G H) R:=by
 have hA:=dloop_ok ka (Nat.le_refl _) A
 have hB:=dloop_ok kb hlen D
 rw [←hF] at hA
 have e0:(vHp C.G H).length=H.length:=vHp_length H
 refine AYld.view (K:=fun v H'=>∃ ex H'' Gx,v=.bool (isNormal ex)∧H'=H''++Gx∧H.length≤H''.length∧hpB H''.length H''=true∧R (.bool (isNormal ex)) H'')
  (AYld.of hi he hl na nb (Q1:=lv N live fun ex ws H'=>ex=.normal∧ws=vVs C.G vs1∧H'=vHp C.G H1)
   (Q2:=lv N live fun ex _ H'=>H'[i]?=some (some ⟨e,.rcd 1 ps ac bd::F0⟩)∧∃ H'' Gx,H'.set i (some ⟨e,.rcd (stEx ex) ps ac bd::F0⟩)=H''++Gx∧H.length≤H''.length∧hpB H''.length H''=true∧R (.bool (isNormal ex)) H'') ?_ ?_ ?_) ?_
 ·rw [e0];exact hA
 ·intro ex F1 H1' _ hq
  obtain ⟨q1,q2,q3,q4⟩:=chk_true hq
  have hN:F1.length=N:=Nat.eq_of_beq_eq_true q1
  refine ⟨q2,e,ps,ac,bd,F0,by rw [q4];exact h1,he,?_⟩
  refine AWp.rd live hN ?_
  rw [q3,q4,←h2,e0]
  exact hB
 ·intro ex F2 H2' _ hq
  obtain ⟨q1,q2,H'',Gx,q3,q4,q5,q6⟩:=chk_true hq
  exact ⟨e,ps,ac,bd,F0,q2,he,ex,H'',Gx,rfl,q3,q4,q5,q6⟩
 ·rintro v H' ⟨ex,H'',Gx,rfl,rfl,q4,q5,q6⟩
  exact ⟨_,H'',q6,View.same (by rw [e0];exact q4) q5 ⟨⟨rfl,rfl⟩,trivial⟩⟩
theorem AYld.dxv {K:DCfg} {f1 f2 n1 n2 N:Nat} {live:List Nat} {i e:Nat} {args:List AV} {ps:Array Nat} {ac bd:Code} {F0:Fr} {vs vs1:List EV} {H H1 H2:DHp} {R:AV→Hp→Prop} (ka:DGood C K (loopsOf ac)) (kb:DGood C K (loopsOf bd))
  (hi:(vHp C.G H)[i]?=some (some ⟨e,.rcd 0 ps ac bd::F0⟩)) (he:Nat.beq e 4294967291=true) (hl:args.length=ps.size) (na:noRange ac=true) (nb:noRange bd=true) (hF:setsP F0 ps.toList args=fl N live (vVs C.G vs))
  (A:vT C.G (fun ex ws H'=>ex=.normal∧ws=vVs C.G vs1∧H'=vHp C.G H1) (fun _ _=>False) (dloop K f1 n1 H.length ac N live vs H))
  (h1:(vHp C.G H1)[i]?=some (some ⟨e,.rcd 0 ps ac bd::F0⟩)) (hlen:H.length≤H2.length) (h2:vHp C.G H2=(vHp C.G H1).set i (some ⟨e,.rcd 1 ps ac bd::F0⟩))
  (D:vT C.G (fun ex _ H'=>H'[i]?=some (some ⟨e,.rcd 1 ps ac bd::F0⟩)∧∃ H'',View H.length [.bool (isNormal ex)] H'' [.bool (isNormal ex)] (H'.set i (some ⟨e,.rcd (stEx ex) ps ac bd::F0⟩))∧R (.bool (isNormal ex)) H'') (fun _ _=>False) (dloop K f2 n2 H.length bd N live vs1 H2)):AYld C i args (vHp C.G H) R:=by
 have hA:=dloop_ok ka (Nat.le_refl _) A
 have hB:=dloop_ok kb hlen D
 rw [←hF] at hA
 have e0:(vHp C.G H).length=H.length:=vHp_length H
 refine AYld.view (K:=fun v H'=>∃ ex H'',v=.bool (isNormal ex)∧View H.length [.bool (isNormal ex)] H'' [.bool (isNormal ex)] H'∧R (.bool (isNormal ex)) H'')
  (AYld.of hi he hl na nb (Q1:=lv N live fun ex ws H'=>ex=.normal∧ws=vVs C.G vs1∧H'=vHp C.G H1)
   (Q2:=lv N live fun ex _ H'=>H'[i]?=some (some ⟨e,.rcd 1 ps ac bd::F0⟩)∧∃ H'',View H.length [.bool (isNormal ex)] H'' [.bool (isNormal ex)] (H'.set i (some ⟨e,.rcd (stEx ex) ps ac bd::F0⟩))∧R (.bool (isNormal ex)) H'') ?_ ?_ ?_) ?_
 ·rw [e0];exact hA
 ·intro ex F1 H1' _ hq
  obtain ⟨q1,q2,q3,q4⟩:=chk_true hq
  have hN:F1.length=N:=Nat.eq_of_beq_eq_true q1
  refine ⟨q2,e,ps,ac,bd,F0,by rw [q4];exact h1,he,?_⟩
  refine AWp.rd live hN ?_
  rw [q3,q4,←h2,e0]
  exact hB
 ·intro ex F2 H2' _ hq
  obtain ⟨q1,q2,H'',q3,q4⟩:=chk_true hq
  exact ⟨e,ps,ac,bd,F0,q2,he,ex,H'',rfl,q3,q4⟩
 ·rintro v H' ⟨ex,H'',rfl,q4,q5⟩
  exact ⟨_,H'',q5,by rw [e0];exact q4⟩
def rgP:Code→Array Nat
 | .rangeFunc _ ps _ _=>ps
 | _=>#[]
def rgA:Code→Code
 | .rangeFunc _ _ as _=>as
 | _=>.skip
def rgB:Code→Code
 | .rangeFunc _ _ _ bd=>bd
 | _=>.skip
def rgG:Code→Operand
 | .rangeFunc g _ _ _=>g
 | _=>.tmp 0
def rcA (c:Code) (p:Nat) (F:Fr):List AV:=.rcd p (rgP c) (rgA c) (rgB c)::F
end Go.Am
namespace Go.Am
open Go.RowKit
end Go.Am
namespace Go.Am
variable {C:Ctx}
open Classical in
noncomputable def isSt (vs0:List AV) (H0:Hp):List AV→Bool:=fun xs=>decide (xs=[.agg vs0,.agg (encHB H0)])
theorem isSt_eq {vs0 vs:List AV} {H0 H:Hp} (h:isSt vs0 H0 [.agg vs,.agg (encHB H)]=true):vs=vs0∧H=H0:=by
 unfold isSt at h
 simp only [decide_eq_true_eq,List.cons.injEq,AV.agg.injEq,and_true] at h
 exact ⟨h.1,encH_inj _ _ h.2⟩
theorem isSt_refl {vs0:List AV} {H0:Hp}:isSt vs0 H0 [.agg vs0,.agg (encHB H0)]=true:=by
 unfold isSt
 simp
def oOut (G:Nat→List AV) (H0:Hp):Outs→AV→Hp→Prop
 | .one v hs=>fun v' H'=>v'=vV G v∧H'=acts H0 (hs.map (vHop G))
 | .chk _ x=>oOut G H0 x
 | .tst b x y=>fun v' H'=>(vB G b=true∧oOut G H0 x v' H')∨(vB G b=false∧oOut G H0 y v' H')
 | _=>fun _ _=>False
theorem oOut_all {G:Nat→List AV} {H0:Hp} {P:EV→List DHop→Prop} (R:(AV→Hp→Prop)→Prop) (mono:∀ K K':AV→Hp→Prop,(∀ v H',K v H'→K' v H')→R K→R K') (abs:R (fun _ _=>False)→∀ v hs,P v hs)
  (one:∀ v hs,R (fun v' H'=>v'=vV G v∧H'=acts H0 (hs.map (vHop G)))→P v hs):∀ o,R (oOut G H0 o)→oAll G P o
 | .one v hs,h=>one v hs h
 | .chk b x,h=>fun _=>oOut_all R mono abs one x h
 | .tst b x y,h=>⟨fun hb=>oOut_all R mono abs one x (mono _ _ (fun v H' h=>by
   rcases h with ⟨_,h⟩ | ⟨h1,_⟩
   ·exact h
   ·rw [hb] at h1;cases h1) h),fun hb=>oOut_all R mono abs one y (mono _ _ (fun v H' h=>by
   rcases h with ⟨h1,_⟩ | ⟨_,h⟩
   ·rw [hb] at h1;cases h1
   ·exact h) h)⟩
 | .namI e f,h=>fun j=>oAll_of abs h _
 | .namN e f,h=>fun j=>oAll_of abs h _
 | .namB e f,h=>fun j=>oAll_of abs h _
 | .namL e f,h=>fun j=>oAll_of abs h _
where
 oAll_of {G:Nat→List AV} {P:EV→List DHop→Prop} {R:(AV→Hp→Prop)→Prop} (abs:R (fun _ _=>False)→∀ v hs,P v hs) (h:R (fun _ _=>False)):∀ o,oAll G P o
  | .one v hs=>abs h v hs
  | .chk b x=>fun _=>oAll_of abs h x
  | .tst b x y=>⟨fun _=>oAll_of abs h x,fun _=>oAll_of abs h y⟩
  | .namI e f=>fun j=>oAll_of abs h _
  | .namN e f=>fun j=>oAll_of abs h _
  | .namB e f=>fun j=>oAll_of abs h _
  | .namL e f=>fun j=>oAll_of abs h _
def yAt (j i0:Nat) (q:List AV→Bool) (o:Outs):DYsum:=fun i args H=>match Nat.beq i i0 with
 | true=>some (.chk (.uf j q [.agg (.of args),.agg (.of (encHD H))]) o)
 | false=>none
theorem yAt_ok {j i0:Nat} {o:Outs} {vs0:List AV} {H0:Hp} {q:List AV→Bool} (hq:q=isSt vs0 H0) (h:AYld C i0 vs0 H0 (oOut C.G H0 o)):DYsumOk C (yAt j i0 q o):=by
 intro i args H o' ho
 unfold yAt at ho
 split at ho
 ·rename_i hi
  have:=Nat.eq_of_beq_eq_true hi
  subst this
  simp only [Option.some.injEq] at ho
  subst ho
  intro h1
  simp only [vB,vVs,vV,vL,encH_ok,hq] at h1
  obtain ⟨e1,e2⟩:=isSt_eq h1
  refine oOut_all (H0:=H0) (fun K=>AYld C i vs0 H0 K) (fun K K' hk h=>h.mono hk) (fun h v hs=>?_) (fun v hs h=>?_) o h
  ·unfold DYld;rw [e1,e2];exact h.mono fun _ _ h=>h.elim
  ·unfold DYld;rw [e1,e2];exact h
 ·simp at ho
theorem DLat_okC {M:Nat} {c:Code} {j:Nat} {ex N:Nat} {live:List Nat} {o:LOut} {vs0:List AV} {H0:Hp} {q:List AV→Bool} (hq:q=isSt vs0 H0)
  (h:AWp C M (.loop c) (fl N live vs0) H0 (lv N live (o.post C.G M))):DLoopOk C M c (DLat j q ex N live o):=by
 refine .of fun vs H o' ho n Q hQ=>?_
 simp only [DLat,Option.some.injEq] at ho
 subst ho
 obtain ⟨h1,h2⟩:=hQ
 simp only [vB,vVs,vV,vL,encH_ok,hq] at h1
 obtain ⟨e1,e2⟩:=isSt_eq h1
 rw [e1,e2]
 exact h.lmono fun e vs H hp=>post_holds o n h2 hp
theorem DCode_okC {M:Nat} {c:Code} {j:Nat} {ex N:Nat} {live:List Nat} {o:LOut} {vs0:List AV} {H0:Hp} {q:List AV→Bool} (hq:q=isSt vs0 H0)
  (h:AWp C M c (fl N live vs0) H0 (lv N live (o.post C.G M))):DCodeOk C M c (DLat j q ex N live o):=by
 intro m vs H o' hm ho n Q hQ
 simp only [DLat,Option.some.injEq] at ho
 subst ho
 obtain ⟨h1,h2⟩:=hQ
 simp only [vB,vVs,vV,vL,encH_ok,hq] at h1
 obtain ⟨e1,e2⟩:=isSt_eq h1
 rw [e1,e2]
 exact (h.pin hm).lmono fun e vs H hp=>(post_holds o n h2 hp).pin hm
end Go.Am
namespace Go.Am
mutual
theorem ren_fix {m:Nat} {θ:List Nat} (hf:∀ i,i<m→θ.getD i 0=i):∀ v,bnd m v=true→ren θ v=v
 | .undef,_=>by simp [ren]
 | .bool _,_=>by simp [ren]
 | .int _ _,_=>by simp [ren]
 | .str _,_=>by simp [ren]
 | .nilp,_=>by simp [ren]
 | .nils,_=>by simp [ren]
 | .nilf,_=>by simp [ren]
 | .ptr (.rw i) off,h=>by
  have h:i<m:=by simpa [bnd] using h
  simp only [ren,hf i h]
 | .ptr (.ro i) off,_=>by simp [ren]
 | .slice mb (.rw i) off len,h=>by
  have h:i<m:=by simpa [bnd] using h
  simp only [ren,hf i h]
 | .slice mb (.ro i) off len,_=>by simp [ren]
 | .func f cap,h=>by simp only [bnd] at h;simp only [ren,rens_fix hf cap h]
 | .agg cs,h=>by simp only [bnd] at h;simp only [ren,rens_fix hf cs h]
 | .tup cs,h=>by simp only [bnd] at h;simp only [ren,rens_fix hf cs h]
 | .yld i,h=>by
  have h:i<m:=by simpa [bnd] using h
  simp only [ren,hf i h]
 | .rcd ..,_=>by simp [ren]
theorem rens_fix {m:Nat} {θ:List Nat} (hf:∀ i,i<m→θ.getD i 0=i):∀ l,bnds m l=true→rens θ l=l
 | [],_=>by simp [rens]
 | v::l,h=>by
  simp only [bnds,Bool.and_eq_true] at h
  simp only [rens,ren_fix hf v h.1,rens_fix hf l h.2]
end
end Go.Am
