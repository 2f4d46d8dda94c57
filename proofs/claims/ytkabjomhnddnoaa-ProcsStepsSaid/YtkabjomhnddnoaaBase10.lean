/-
  Tables of processes as objects: what calls on them come to, in written Tables of processes: what the calls do.
-/
import Derived.Test.YtkabjomhnddnoaaPrO
namespace Go.Am
open Crc
variable {C:A3}
def encX (s:Ptb):List AV:=((List.range 13).map fun n=>.agg (M3 (s.at_ n)))++(List.range 13).map fun n=>match s.sg n with | none=>.nilp | some p=>.agg (encP p)
def pcOf (cs:List AV):Pc:=⟨A0 cs 0,A0 cs 1,A0 cs 2,A0 cs 3,A5 cs 4,A0 cs 5⟩
def P7 (l:List AV):Ptb:=
 ⟨fun n=>if n<13 then (match l[n]? with | some (.agg cs)=>pcOf cs | _=>zc) else zc,fun n=>match l[13+n]? with | some (.agg cs)=>some (Hh cs) | _=>none⟩
def U7 (s:Ptb):Prop:=∀ n,13≤n→s.at_ n=zc∧s.sg n=none
theorem C7 {s:Ptb} (h:U7 s):P7 (encX s)=s:=by
 refine Ptb.ext' (fun n=>?_) fun n=>?_
 ·simp only [P7];by_cases hn:n<13
  ·rw [if_pos hn];unfold encX;rw [List.getElem?_append_left (by simpa using hn),List.getElem?_map,List.getElem?_range hn];rfl
  ·rw [if_neg hn,(h n (by omega)).1]
 ·simp only [P7];unfold encX;rw [List.getElem?_append_right (by simp),List.length_map,List.length_range,Nat.add_sub_cancel_left,List.getElem?_map];by_cases hn:n<13
  ·rw [List.getElem?_range hn];cases e:s.sg n with
   | none=>simp [e]
   | some p=>simp only [Option.map_some,e,E8]
  ·rw [List.getElem?_eq_none (by simpa using hn),(h n (by omega)).2];rfl
structure Wf (s:Ptb):Prop where
 z:∀ n,n=0∨13≤n→s.at_ n=zc∧s.sg n=none
 p:∀ n,(s.at_ n=zc∧s.sg n=none)∨((s.at_ n).num=(n:Int)∧1≤n∧n≤12∧(s.sg n).isSome=true∧1≤(s.at_ n).grp∧(s.at_ n).grp≤12)
 one:(s.at_ 1).num=1∧(s.at_ 1).par=0
theorem Wf.thin {s:Ptb} (h:Wf s):U7 s:=fun n hn=>h.z n (.inr hn)
def I3 (t:TS):List AV→List AV:=fun as=>match as with
 | [.int _ b,.agg x]=>t.tb (B3 b.toNat (P7 x)) (P7 x)
 | _=>[]
def A7 (t:TS) (n:Nat):List AV→List AV:=fun as=>match as with
 | [.agg x]=>I4 t.enc ((P7 x).sg n)
 | _=>[]
open Classical in
noncomputable def F6 (t:TS):List AV→Bool:=fun as=>match as with
 | [.int _ b,.agg x,.tup cs]=>decide (∃ s,Wf s∧x=encX s∧cs=.agg (t.tb (B3 b.toNat s) s)::(List.range 13).map fun n=>.agg (I4 t.enc (s.sg n)))
 | _=>false
theorem Q9 {t:TS} {k:IntKind} {b:Int} {x cs:List AV}:F6 t [.int k b,.agg x,.tup cs]=true↔∃ s,Wf s∧x=encX s∧cs=.agg (t.tb (B3 b.toNat s) s)::(List.range 13).map fun n=>.agg (I4 t.enc (s.sg n)):=by
 unfold F6;simp only [decide_eq_true_eq]
def Ax (tg:Nat) (t:TS) (x:EL):List DBlk:=(List.range 13).map fun n=>⟨1,.uf (tg+10+n) (A7 t n) [.agg x]⟩
def Tq (tg:Nat) (t:TS) (b:Nat) (x:EL):DBlk:=⟨1,.uf tg (I3 t) [.int .i64 (.lit b),.agg x]⟩
def Xo (H:DHp):Nat→Nat→Option (List EL)
 | _,0=>some []
 | b,n+1=>match H[b]? with
  | some (some ⟨1,c⟩)=>match Xo H (b+1) n with
   | some cs=>some (c::cs)
   | none=>none
  | _=>none
structure OA where
 b:Nat
 x:EL
 c0:EL
 cs:List EL
def Z0 (tg:Nat) (H:DHp) (i:Nat):Option OA:=
 match H[i]? with
 | some (some ⟨1,.uf j f [.int .i64 (.lit b),.agg x]⟩)=>match Nat.beq j tg&&(Nat.blt i b.toNat||Nat.ble (b.toNat+13) i) with
  | true=>match Xo H b.toNat 13 with
   | some cs=>some ⟨b.toNat,x,.uf j f [.int .i64 (.lit b),.agg x],cs⟩
   | none=>none
  | false=>none
 | _=>none
def Hv (tg:Nat) (ok:List AV→Bool) (o:OA):EB:=.uf (tg+1) ok [.int .i64 (.lit o.b),.agg o.x,.tup (.agg o.c0::o.cs.map .agg)]
def cH (tg:Nat) (t:TS) (i b:Nat) (x:EL):List DHop:=.set i (Tq tg t b x)::(((List.range 13).map (b+·)).zip (Ax tg t x)).map fun p=>.set p.1 p.2
def tM (tg:Nat) (t:TS) (i b L:Nat) (x:EL):List DHop:=.set i (Tq tg t L x)::(((List.range 13).map (b+·)).zip (Ax tg t x)).map fun p=>.app p.1 p.2
inductive Th where
 | same
 | stay
 | move
def Ys (tg:Nat) (t:TS) (m:Th) (i b L:Nat) (x:EL):List DHop:=match m with
 | .same=>[]
 | .stay=>cH tg t i b x
 | .move=>tM tg t i b L x
def Y5 (tg:Nat) (ok:List AV→Bool) (t:TS) (m:Th) (k:EL→List EV→Option (EV×EL)):DSum:=fun args H=>match args with
 | .ptr (.rw i) (.lit 0)::rest=>match Z0 tg H i with
  | some o=>match k o.x rest with
   | some (v,x')=>some (.chk (Hv tg ok o) (.one v (Ys tg t m i o.b H.length x')))
   | none=>none
  | none=>none
 | _=>none
noncomputable def mU (tg:Nat) (t:TS) (m:Th) (k:EL→List EV→Option (EV×EL)):DSum:=Y5 tg (F6 t) t m k
theorem eT {H:DHp}:∀ {n b:Nat} {cs:List EL},Xo H b n=some cs→cs.length=n∧∀ j,j<n→∃ c,cs[j]?=some c∧H[b+j]?=some (some ⟨1,c⟩)
 | 0,b,cs,h=>by simp [Xo] at h;subst h;exact ⟨rfl,fun j hj=>by omega⟩
 | n+1,b,cs,h=>by
  unfold Xo at h;split at h
  ·rename_i c hc;split at h
   ·rename_i cs' hcs;simp at h;subst h;obtain ⟨h1,h2⟩:=eT hcs;refine ⟨by simp [h1],fun j hj=>?_⟩;cases j with
    | zero=>exact ⟨c,rfl,hc⟩
    | succ j=>
     obtain ⟨c',q1,q2⟩:=h2 j (by omega);exact ⟨c',by simpa using q1,by rw [show b+(j+1)=b+1+j by omega];exact q2⟩
   ·simp at h
  ·simp at h
def B7 (i b:Nat):List Nat:=i::(List.range 13).map (b+·)
theorem B5 {i b:Nat}:(B7 i b).length=14:=by simp [B7]
theorem Dy {i b n:Nat} (h:n<13):(B7 i b).getD (1+n) 0=b+n:=by
 rw [Nat.add_comm];simp [B7,List.getD,h]
theorem Ia {i b L k n:Nat} (h:n<k):(J0 (B7 i b) L k).getD (14+n) 0=L+n:=by
 unfold J0;simp only [List.getD];rw [List.getElem?_append_right (by rw [B5];omega),B5,Nat.add_sub_cancel_left,List.getElem?_map,List.getElem?_range h];rfl
theorem iB {i b L k n:Nat} (h:n<13):(J0 (B7 i b) L k).getD (1+n) 0=b+n:=by
 unfold J0;simp only [List.getD];rw [List.getElem?_append_left (by rw [B5];omega)];exact Dy h
theorem Fa {i b:Nat} (h:i<b∨b+13≤i):(B7 i b).Nodup:=by
 unfold B7;rw [List.nodup_cons];refine ⟨fun hm=>?_,?_⟩
 ·obtain ⟨j,hj,e⟩:=List.mem_map.1 hm
  have:=List.mem_range.1 hj
  omega
 ·exact List.pairwise_map.2 (List.Pairwise.imp (fun h e=>h (by omega)) (List.nodup_range (n:=13)))
theorem bF (θ':List Nat):∀ (js:List Nat) (bs:List Blk) (H:Hp),js.length=bs.length→lay θ' js (bs.map some) H=acts H ((js.zip bs).map fun p=>.set p.1 (F9 θ' p.2))
 | [],bs,H,h=>by cases bs<;>simp [lay,acts]
 | j::js,[],H,h=>by simp at h
 | j::js,b::bs,H,h=>by
  simp only [List.map_cons,lay,List.zip_cons_cons,acts,Hop.act,K7,Option.map_some];exact bF θ' js bs _ (by simpa using h)
theorem Uj (θ':List Nat):∀ (js:List Nat) (H:Hp),lay θ' js (List.replicate js.length none) H=js.foldl (fun H j=>H.set j none) H
 | [],H=>by simp [lay]
 | j::js,H=>by
  simp only [List.length_cons,List.replicate_succ,lay,K7,Option.map_none,List.foldl_cons];exact Uj θ' js _
theorem Ri:∀ (js:List Nat) (bs:List Blk) (H E:Hp),js.length=bs.length→(∀ j∈js,j<H.length)→acts (H++E) ((js.zip bs).map fun p=>.app p.1 p.2)=js.foldl (fun H j=>H.set j none) H++(E++bs.map some)
 | [],[],H,E,_,_=>by simp [acts]
 | [],b::bs,H,E,h,_=>by simp at h
 | j::js,[],H,E,h,_=>by simp at h
 | j::js,b::bs,H,E,h,hj=>by
  simp only [List.zip_cons_cons,List.map_cons,acts,Hop.act,List.foldl_cons];rw [List.set_append_left _ _ (hj j (by simp)),List.append_assoc,Ri js bs (H.set j none) (E++[some b]) (by simpa using h) fun x hx=>by rw [List.length_set];exact hj x (by simp [hx])];simp
theorem Bi {t:TS} (ht:O7 t) (s:Ptb):D7 14 (B0 t s)=true:=by
 have h1:=ht.bnd 14 (B3 1 s) s fun n hn=>Ge (by omega) n hn
 have h2:∀ (l:List Nat),D7 14 (l.map fun n=>some (⟨1,I4 t.enc (s.sg n)⟩:Blk))=true:=fun l=>by
  induction l with
  | nil=>rfl
  | cons x l ih=>simp only [List.map_cons,D7,X1 ht,ih,Bool.and_self]
 simp only [B0,D7,h1,Bool.true_and];exact h2 _
theorem rB {t:TS} (ht:O7 t) (s:Ptb):D7 27 (V2 t s)=true:=by
 have h1:=ht.bnd 27 (B3 14 s) s fun n hn=>Ge (by omega) n hn
 have h2:∀ (l:List Nat),D7 27 (l.map fun n=>some (⟨1,I4 t.enc (s.sg n)⟩:Blk))=true:=fun l=>by
  induction l with
  | nil=>rfl
  | cons x l ih=>simp only [List.map_cons,D7,X1 ht,ih,Bool.and_self]
 have h3:∀ k,D7 27 (List.replicate k none++L7 t s)=true:=fun k=>by
  induction k with
  | zero=>exact h2 _
  | succ k ih=>simp only [List.replicate_succ,List.cons_append,D7];exact ih
 simp only [V2,D7,h1,Bool.true_and];exact h3 13
theorem X4 {t:TS} (ht:O7 t) {s:Ptb} {θ:List Nat} {b b':Nat} (h:∀ n,n<13→θ.getD (b+n) 0=b'+n):rens θ (t.tb (B3 b s) s)=t.tb (B3 b' s) s:=by
 rw [ht.ren];refine ht.congr _ _ _ fun n hn=>?_;unfold B3 H5;split
 ·rfl
 ·simp only [ren,h n hn]
theorem Tm {G:Nat→List AV} {tg:Nat} {t:TS} {x:EL} {s:Ptb} (hx:vL G x=encX s) (hs:U7 s):(Ax tg t x).map (C9 G)=(List.range 13).map fun n=>⟨1,I4 t.enc (s.sg n)⟩:=by
 unfold Ax;rw [List.map_map];refine List.map_congr_left fun n _=>?_;simp only [Function.comp,C9,vL,vVs,vV,A7,hx,C7 hs]
theorem aR {G:Nat→List AV} {tg:Nat} {t:TS} {x:EL} {s:Ptb} {b:Nat} (hx:vL G x=encX s) (hs:U7 s):C9 G (Tq tg t b x)=⟨1,t.tb (B3 b s) s⟩:=by
 simp only [Tq,C9,vL,vVs,vV,vI,I3,hx,C7 hs,Int.toNat_natCast]
theorem Fp {tg:Nat} {H:DHp} {i:Nat} {o:OA} (h:Z0 tg H i=some o):(i<o.b∨o.b+13≤i)∧H[i]?=some (some ⟨1,o.c0⟩)∧o.cs.length=13∧∀ j,j<13→∃ c,o.cs[j]?=some c∧H[o.b+j]?=some (some ⟨1,c⟩):=by
 unfold Z0 at h;split at h
 ·rename_i j f b x hi;split at h
  ·rename_i hb;simp only [Bool.and_eq_true,Bool.or_eq_true,Nat.blt] at hb;split at h
   ·rename_i cs hcs;simp only [Option.some.injEq] at h;subst h;obtain ⟨h1,h2⟩:=eT hcs;refine ⟨?_,hi,h1,h2⟩;rcases hb.2 with h | h
    ·exact .inl (Nat.le_of_ble_eq_true h)
    ·exact .inr (Nat.le_of_ble_eq_true h)
   ·simp at h
  ·simp at h
 ·simp at h
theorem Gq {tg:Nat} {t:TS} (ht:O7 t) {H:DHp} {i:Nat} {o:OA} {s:Ptb} (ho:Z0 tg H i=some o) (hc:vVs C.G (.agg o.c0::o.cs.map EV.agg)=.agg (t.tb (B3 o.b s) s)::(List.range 13).map fun n=>.agg (I4 t.enc (s.sg n))) :
  ∀ (k:Nat) b,(B0 t s)[k]?=some b→∃ b0,b=some b0∧A8 (B7 i o.b).length b0.cells=true∧(vHp C.G H)[(B7 i o.b).getD k 0]?=some (some (F9 (B7 i o.b) b0)):=by
 obtain ⟨_,h0,hl,hj⟩:=Fp ho;simp only [vVs,vV,List.cons.injEq,AV.agg.injEq] at hc;obtain ⟨e0,e1⟩:=hc;intro k b hk;have hlt:=(List.getElem?_eq_some_iff.1 hk).1;rw [A9] at hlt;by_cases hk0:k=0
 ·subst hk0;simp only [B0,List.getElem?_cons_zero,Option.some.injEq] at hk;subst hk;refine ⟨_,rfl,by rw [B5];exact ht.bnd 14 (B3 1 s) s fun n hn=>Ge (by omega) n hn,?_⟩
  have:=M0 (G:=C.G) h0
  simp only [F9,X4 ht (θ:=B7 i o.b) (b:=1) (b':=o.b) fun n hn=>Dy hn];rw [show (B7 i o.b).getD 0 0=i from rfl,this];simp only [C9,e0]
 ·obtain ⟨n,rfl⟩:∃ n,k=1+n:=⟨k - 1,by omega⟩;have hn:n<13:=by omega
  rw [Zp hn] at hk;simp only [Option.some.injEq] at hk;subst hk;refine ⟨_,rfl,X1 ht _ _,?_⟩;rw [Dy hn];obtain ⟨c,q1,q2⟩:=hj n hn;rw [M0 (G:=C.G) q2]
  have e2:vL C.G c=I4 t.enc (s.sg n):=by
   have:=congrArg (fun l:List AV=>l[n]?) e1
   simp only [S6,List.map_map,List.getElem?_map,q1,List.getElem?_range hn,Option.map_some,Function.comp,vV,Option.some.injEq,AV.agg.injEq] at this;exact this
  simp only [C9,F9,e2,E0 _ _ (X1 ht (s.sg n) 0)]
theorem vQ {tg:Nat} {H:DHp} {i:Nat} {o:OA} (ho:Z0 tg H i=some o):∀ j∈B7 i o.b,j<(vHp C.G H).length:=by
 obtain ⟨_,h0,_,hj⟩:=Fp ho;intro j hm;rw [C0];unfold B7 at hm;rcases List.mem_cons.1 hm with rfl | hm
 ·exact (List.getElem?_eq_some_iff.1 h0).1
 ·obtain ⟨n,hn,rfl⟩:=List.mem_map.1 hm;obtain ⟨c,_,q⟩:=hj n (List.mem_range.1 hn);exact (List.getElem?_eq_some_iff.1 q).1
def Y6 (t:TS) (m:Th) (s:Ptb):Hp:=match m with
 | .move=>V2 t s
 | _=>B0 t s
theorem Ih {tg:Nat} {t:TS} (ht:O7 t) {H:DHp} {i:Nat} {o:OA} {s s':Ptb} {x':EL} (ho:Z0 tg H i=some o) (hc:vVs C.G (.agg o.c0::o.cs.map EV.agg)=.agg (t.tb (B3 o.b s) s)::(List.range 13).map fun n=>.agg (I4 t.enc (s.sg n)))
  (m:Th) (hx:vL C.G x'=encX s') (hs:U7 s') (hsame:m=.same→s'=s):acts (vHp C.G H) ((Ys tg t m i o.b H.length x').map (G2 C.G))=L4 (B7 i o.b) (vHp C.G H) (Y6 t m s'):=by
 have hlen:(vHp C.G H).length=H.length:=C0 H;have zipE:((List.range 13).map (o.b+·)).length=(Ax tg t x').length:=by simp [Ax]
 have stay:acts (vHp C.G H) ((cH tg t i o.b x').map (G2 C.G))=L4 (B7 i o.b) (vHp C.G H) (B0 t s'):=by
  unfold L4;rw [show (B0 t s').length - (B7 i o.b).length=0 by rw [A9,B5],show (B0 t s').drop (B7 i o.b).length=[] from List.drop_of_length_le (by rw [A9,B5];omega),List.map_nil,List.append_nil];have e0:B0 t s'=((⟨1,t.tb (B3 1 s') s'⟩:Blk)::(List.range 13).map fun n=>⟨1,I4 t.enc (s'.sg n)⟩).map some:=by simp [B0,L7]
  rw [e0,bF _ _ _ _ (by simp [B7])];congr 1;have et:=X4 ht (s:=s') (θ:=J0 (B7 i o.b) (vHp C.G H).length 0) (b:=1) (b':=o.b) fun n hn=>iB hn;unfold cH;unfold B7 at et ⊢;rw [List.map_cons,List.zip_cons_cons,List.map_cons];congr 1
  ·simp only [G2,aR hx hs,F9];rw [et]
  ·rw [←Tm (tg:=tg) hx hs,List.zip_map_right,List.map_map,List.map_map];refine List.map_congr_left fun p hp=>?_;simp only [Function.comp,G2,Prod.map,id];congr 1
   have:∃ n,p.2=⟨1,.uf (tg+10+n) (A7 t n) [.agg x']⟩:=by
    have:=(List.of_mem_zip hp).2
    unfold Ax at this;obtain ⟨n,_,e⟩:=List.mem_map.1 this;exact ⟨n,e.symm⟩
   obtain ⟨n,e⟩:=this;rw [e];simp only [C9,F9,vL,vVs,vV,A7];rw [E0 _ _ (X1 ht _ 0)]
 cases m with
 | stay=>exact stay
 | same=>
  have e:=hsame rfl;subst e;show acts (vHp C.G H) []=L4 (B7 i o.b) (vHp C.G H) (B0 t s');have live:=Gq (C:=C) ht ho hc;have nd:=Fa (Fp ho).1;have lt:=vQ (C:=C) ho;unfold L4;rw [show (B0 t s').length - (B7 i o.b).length=0 by rw [A9,B5],show (B0 t s').drop (B7 i o.b).length=[] from List.drop_of_length_le (by rw [A9,B5];omega),List.map_nil,List.append_nil];have ew:J0 (B7 i o.b) (vHp C.G H).length 0=B7 i o.b:=by simp [J0]
  rw [ew]
  exact (lay_self _ _ _ _ fun k b hk=>by
   obtain ⟨b0,rfl,_,q⟩:=live k b hk
   exact q).symm
 | move=>
  unfold L4;rw [show (Y6 t .move s').length - (B7 i o.b).length=13 by show (V2 t s').length - _=_;rw [Bg,B5]]
  have e1:(Y6 t .move s').drop (B7 i o.b).length=L7 t s':=by
   rw [B5];show (V2 t s').drop 14=_;unfold V2;rw [List.drop_succ_cons,List.drop_left' (by simp)]
  rw [e1]
  have e2:lay (J0 (B7 i o.b) (vHp C.G H).length 13) (B7 i o.b) (Y6 t .move s') (vHp C.G H)=((List.range 13).map (o.b+·)).foldl (fun H j=>H.set j none) ((vHp C.G H).set i (some ⟨1,t.tb (B3 H.length s') s'⟩)):=by
   show lay _ (i::(List.range 13).map (o.b+·)) (some ⟨1,t.tb (B3 14 s') s'⟩::(List.replicate 13 none++L7 t s')) _=_;simp only [lay,K7,Option.map_some,F9];rw [X4 ht (b:=14) (b':=(vHp C.G H).length) fun n hn=>Ia hn,hlen];rw [lay_more _ _ (List.replicate 13 none) (L7 t s') _ (by simp)];exact Uj _ ((List.range 13).map (o.b+·)) _
  rw [e2];unfold Ys tM;simp only [List.map_cons,acts,G2,Hop.act,aR hx hs]
  have e3:((((List.range 13).map (o.b+·)).zip (Ax tg t x')).map (fun p=>DHop.app p.1 p.2)).map (G2 C.G)=(((List.range 13).map (o.b+·)).zip ((Ax tg t x').map (C9 C.G))).map fun p=>Hop.app p.1 p.2:=by
   rw [List.zip_map_right,List.map_map,List.map_map];exact List.map_congr_left fun p _=>rfl
  rw [e3,Tm hx hs]
  have:=Ri ((List.range 13).map (o.b+·)) ((List.range 13).map fun n=>(⟨1,I4 t.enc (s'.sg n)⟩:Blk)) ((vHp C.G H).set i (some ⟨1,t.tb (B3 H.length s') s'⟩)) [] (by simp) (fun j hj=>by
   rw [List.length_set]
   exact vQ (C:=C) ho j (by unfold B7;exact List.mem_cons_of_mem _ hj))
  rw [List.append_nil,List.nil_append] at this
  have e4:∀ θ,(L7 t s').map (K7 θ)=((List.range 13).map fun n=>(⟨1,I4 t.enc (s'.sg n)⟩:Blk)).map some:=fun θ=>by
   unfold L7;rw [List.map_map,List.map_map];refine List.map_congr_left fun n _=>?_;simp only [Function.comp,K7,Option.map_some,F9,E0 _ _ (X1 ht (s'.sg n) 0)]
  rw [this,e4]
where
 lay_self (θ':List Nat):∀ (js:List Nat) (bs:List (Option Blk)) (H:Hp),(∀ (k:Nat) b,bs[k]?=some b→H[js.getD k 0]?=some (K7 θ' b))→lay θ' js bs H=H
  | [],bs,H,h=>by cases bs<;>simp [lay]
  | j::js,[],H,h=>by simp [lay]
  | j::js,b::bs,H,h=>by
   simp only [lay];have h0:=h 0 b rfl
   have e:H.set j (K7 θ' b)=H:=by
    have hj:H[j]?=some (K7 θ' b):=h0;obtain ⟨hlt,e⟩:=List.getElem?_eq_some_iff.1 hj;rw [←e];exact List.set_getElem_self hlt
   rw [e];exact lay_self θ' js bs H fun k b hk=>h (k+1) b hk
 lay_more (θ':List Nat):∀ (js:List Nat) (bs cs:List (Option Blk)) (H:Hp),js.length=bs.length→lay θ' js (bs++cs) H=lay θ' js bs H
  | [],[],cs,H,_=>by cases cs<;>simp [lay]
  | [],b::bs,cs,H,h=>by simp at h
  | j::js,[],cs,H,h=>by simp at h
  | j::js,b::bs,cs,H,h=>by
   simp only [List.cons_append,lay];exact lay_more θ' js bs cs _ (by simpa using h)
theorem objS_ok {tg:Nat} {t:TS} (ht:O7 t) {m:Th} {f:FuncId} {k:EL→List EV→Option (EV×EL)}
  (h:∀ x rest v x' s,k x rest=some (v,x')→vL C.G x=encX s→Wf s→A8 0 (vVs C.G rest)=true∧bnd 0 (vV C.G v)=true∧∃ s',vL C.G x'=encX s'∧U7 s'∧(m=.same→s'=s)∧
   ACalls C f (.ptr (.rw 0) 0::vVs C.G rest) (B0 t s) fun v' H'=>v'=vV C.G v∧H'=Y6 t m s'):G0 C f (mU tg t m k):=by
 intro args H o ho;unfold mU Y5 at ho;split at ho
 ·rename_i i rest;split at ho
  ·rename_i oa hoa;split at ho
   ·rename_i v x' hk;simp only [Option.some.injEq] at ho;subst ho;intro h1;have h1:F6 t [.int .i64 (oa.b:Int),.agg (vL C.G oa.x),.tup (vVs C.G (.agg oa.c0::oa.cs.map EV.agg))]=true:=h1;obtain ⟨s,hw,hx,hc⟩:=Q9.1 h1;rw [Int.toNat_natCast] at hc;obtain ⟨q1,q2,s',q3,q4,q5,q6⟩:=h oa.x rest v x' s hk hx hw;refine E1.fr (θ:=B7 i oa.b) (H0:=B0 t s) (H1:=Y6 t m s') (Fa (Fp hoa).1) (by rw [B5,A9]) (Gq ht hoa hc) ?_ ?_ q6 ?_ ?_ ?_ ?_ (Ih ht hoa hc m q3 q4 q5)
    ·simp only [A8,bnd,B5,Bool.and_eq_true];exact ⟨rfl,C6 (Nat.zero_le _) _ q1⟩
    ·simp only [vVs,vV,vR,vN,rens,ren,E0 _ _ q1];rfl
    ·cases m<;>simp [Y6,A9,Bg]
    ·exact O0 (Nat.zero_le _) _ q2
    ·cases m with
     | move=>show D7 (V2 t s').length (V2 t s')=true;rw [Bg];exact rB ht s'
     | stay=>show D7 (B0 t s').length (B0 t s')=true;rw [A9];exact Bi ht s'
     | same=>show D7 (B0 t s').length (B0 t s')=true;rw [A9];exact Bi ht s'
    ·exact (U2 _ _ q2).symm
   ·simp at ho
  ·simp at ho
 ·simp at ho
end Go.Am
namespace Go.Am
open Crc
variable {C:A3}
def fP (X:EL):DHp:=[some ⟨1,.row X (.lit 0)⟩,some ⟨1,.row X (.lit 1)⟩,some ⟨1,.row X (.lit 2)⟩,some ⟨1,.row X (.lit 3)⟩,some ⟨1,.row X (.lit 4)⟩,some ⟨1,.row X (.lit 5)⟩,some ⟨1,.row X (.lit 6)⟩,some ⟨1,.row X (.lit 7)⟩,some ⟨1,.row X (.lit 8)⟩,some ⟨1,.row X (.lit 9)⟩,some ⟨1,.row X (.lit 10)⟩,some ⟨1,.row X (.lit 11)⟩,some ⟨1,.row X (.lit 12)⟩]
def hp3 (a:DHp) (X:EL) (b:DHp):DHp:=a++(fP X++b)
def Ez (a:List AV) (l:List AV) (b:List AV):List AV:=a++(((List.range 13).map fun n=>.tup [.int .i64 1,.agg (A1 l n)])++b)
def Ff (x:List AV):Hp:=(List.range 13).map fun n=>some ⟨1,A7 tsP n [.agg x]⟩
def D2 (b:Int) (x:List AV):Hp:=some ⟨1,I3 tsP [.int .i64 b,.agg x]⟩::Ff x
def Id (x:List AV):Hp:=(List.range 13).map fun n=>some ⟨1,A7 tsR n [.agg x]⟩
def D1 (b:Int) (x:List AV):Hp:=some ⟨1,I3 tsR [.int .i64 b,.agg x]⟩::Id x
def rp (k:Nat) (l:List AV):List AV:=List.replicate k (.agg l)
def A2 (sl:List AV):Hp:=(List.range 13).map fun n=>some ⟨1,A1 sl n⟩
def isP (s:Ptb) (n:Int):Bool:=decide (1≤n)&&(decide (n≤12)&&(s.at_ n.toNat).num==n)
def live (s:Ptb) (n:Int):Bool:=isP s n&&!(s.at_ n.toNat).en
theorem I0 {s:Ptb} {n:Int}:isP s n=true↔1≤n∧n≤12∧(s.at_ n.toNat).num=n:=by
 simp only [isP,Bool.and_eq_true,decide_eq_true_eq,beq_iff_eq]
theorem H6 {s:Ptb} {n:Int}:live s n=true↔1≤n∧n≤12∧(s.at_ n.toNat).num=n∧(s.at_ n.toNat).en=false:=by
 simp only [live,Bool.and_eq_true,I0,Bool.not_eq_true'];exact ⟨fun ⟨⟨a,b,c⟩,d⟩=>⟨a,b,c,d⟩,fun ⟨a,b,c,d⟩=>⟨⟨a,b,c⟩,d⟩⟩
theorem Wf.there {s:Ptb} (h:Wf s) {n:Nat} (hn:(s.at_ n).num≠0):(s.at_ n).num=(n:Int)∧1≤n∧n≤12∧∃ p,s.sg n=some p:=by
 rcases h.p n with ⟨e,_⟩ | ⟨a,b,c,d,_⟩
 ·rw [e] at hn;exact absurd rfl hn
 ·exact ⟨a,b,c,Option.isSome_iff_exists.1 d⟩
theorem Wf.isP {s:Ptb} (h:Wf s) (n:Nat):Go.Am.isP s (n:Int)=true↔(s.at_ n).num≠0:=by
 rw [I0,Int.toNat_natCast];constructor
 ·rintro ⟨a,b,c⟩ e;omega
 ·intro e;obtain ⟨a,b,c,_⟩:=h.there e;exact ⟨by omega,by omega,a⟩
theorem Wf.live_sg {s:Ptb} (h:Wf s) {n:Int} (hl:Go.Am.isP s n=true):∃ p,s.sg n.toNat=some p:=by
 have:=I0.1 hl
 exact (h.there (n:=n.toNat) (by omega)).2.2.2
theorem Wf.upd {s:Ptb} (h:Wf s) {c:Nat} {x:Pc} (hc:(s.at_ c).num≠0) (h1:x.num=(s.at_ c).num) (h2:1≤x.grp∧x.grp≤12) (h3:c=1→x.par=0):Wf (V7 s c x):=by
 obtain ⟨a1,a2,a3,p,a4⟩:=h.there hc;refine ⟨fun n hn=>?_,fun n=>?_,?_⟩
 ·obtain ⟨b1,b2⟩:=h.z n hn;refine ⟨?_,b2⟩;show (if n=c then x else s.at_ n)=zc;rw [if_neg (by omega)];exact b1
 ·show ((if n=c then x else s.at_ n)=zc∧s.sg n=none)∨((if n=c then x else s.at_ n).num=(n:Int)∧1≤n∧n≤12∧(s.sg n).isSome=true∧1≤(if n=c then x else s.at_ n).grp∧(if n=c then x else s.at_ n).grp≤12);by_cases e:n=c
  ·subst e;rw [if_pos rfl];exact .inr ⟨by rw [h1,a1],a2,a3,by rw [a4];rfl,h2.1,h2.2⟩
  ·rw [if_neg e];exact h.p n
 ·show (if 1=c then x else s.at_ 1).num=1∧(if 1=c then x else s.at_ 1).par=0;by_cases e:1=c
  ·subst e;rw [if_pos rfl];exact ⟨by rw [h1,h.one.1],h3 rfl⟩
  ·rw [if_neg e];exact h.one
theorem Wf.updS {s:Ptb} (h:Wf s) {c:Nat} {p:Sg} (hc:(s.at_ c).num≠0):Wf (R7 s c (some p)):=by
 obtain ⟨a1,a2,a3,p0,a4⟩:=h.there hc;refine ⟨fun n hn=>?_,fun n=>?_,h.one⟩
 ·obtain ⟨b1,b2⟩:=h.z n hn;refine ⟨b1,?_⟩;show (if n=c then some p else s.sg n)=none;rw [if_neg (by omega)];exact b2
 ·show (s.at_ n=zc∧(if n=c then some p else s.sg n)=none)∨((s.at_ n).num=(n:Int)∧1≤n∧n≤12∧(if n=c then some p else s.sg n).isSome=true∧1≤(s.at_ n).grp∧(s.at_ n).grp≤12);by_cases e:n=c
  ·subst e;rw [if_pos rfl];rcases h.p n with ⟨e2,_⟩ | ⟨b1,b2,b3,_,b5⟩
   ·rw [e2] at hc;exact absurd rfl hc
   ·exact .inr ⟨b1,b2,b3,rfl,b5⟩
  ·rw [if_neg e];exact h.p n
def J2 (s:Ptb) (c:Nat):Ptb:=⟨fun j=>if j=c then zc else s.at_ j,fun j=>if j=c then none else s.sg j⟩
theorem Wf.free {s:Ptb} (h:Wf s) {c:Nat} (hc:c≠1):Wf (J2 s c):=by
 refine ⟨fun n hn=>?_,fun n=>?_,?_⟩
 ·obtain ⟨b1,b2⟩:=h.z n hn;show (if n=c then zc else s.at_ n)=zc∧(if n=c then none else s.sg n)=none;by_cases e:n=c
  ·rw [if_pos e,if_pos e];exact ⟨rfl,rfl⟩
  ·rw [if_neg e,if_neg e];exact ⟨b1,b2⟩
 ·show ((if n=c then zc else s.at_ n)=zc∧(if n=c then none else s.sg n)=none)∨((if n=c then zc else s.at_ n).num=(n:Int)∧1≤n∧n≤12∧(if n=c then none else s.sg n).isSome=true∧1≤(if n=c then zc else s.at_ n).grp∧(if n=c then zc else s.at_ n).grp≤12);by_cases e:n=c
  ·rw [if_pos e,if_pos e];exact .inl ⟨rfl,rfl⟩
  ·rw [if_neg e,if_neg e];exact h.p n
 ·show (if 1=c then zc else s.at_ 1).num=1∧(if 1=c then zc else s.at_ 1).par=0;rw [if_neg (fun e=>hc e.symm)];exact h.one
def C1 (s:Ptb) (n:Nat):Sg:=(s.sg n).getD Yb
def Bt (s:Ptb) (n g:Int):Int:=if live s n then (if g<1∨12<g then 2 else 0) else 6
def V5 (s:Ptb) (n g:Int):Ptb:=if live s n then (if g<1∨12<g then s else V7 s n.toNat { s.at_ n.toNat with grp:=g }) else s
def Cz (s:Ptb) (n a:Int):Int:=if live s n then (if a<0∨65535<a then 2 else if (s.at_ n.toNat).usr=0 then 0 else 8) else 6
def Y7 (s:Ptb) (n a:Int):Ptb:=if live s n then (if a<0∨65535<a then s else if (s.at_ n.toNat).usr=0 then V7 s n.toNat { s.at_ n.toNat with usr:=a } else s) else s
def Lu (s:Ptb) (n:Int):Int:=if live s n then u (C1 s n.toNat).hd else 0
def Rt (s:Ptb) (n:Int):Int:=if live s n then 0 else 6
def Ee (s:Ptb) (n:Int):Pc:=if isP s n then s.at_ n.toNat else zc
def Em (s:Ptb) (n a:Int):Ptb:=if live s n then R7 s n.toNat (some (Po (C1 s n.toNat) a)) else s
def Ep (s:Ptb) (n i a:Int):Int:=if live s n then (if i<0∨15<i then 0 else Sv (C1 s n.toNat) i a) else 0
def Er (s:Ptb) (n i a:Int):Int:=if live s n then (if i<0∨15<i then 2 else if Ix i a then 2 else 0) else 6
def Az (s:Ptb) (n i a:Int):Ptb:=if live s n then (if i<0∨15<i then s else R7 s n.toNat (some (Oq (C1 s n.toNat) i a))) else s
theorem Wf.groupX {s:Ptb} (h:Wf s) (n g:Int):Wf (V5 s n g):=by
 unfold Go.Am.V5;split
 ·rename_i hl;have hl:=H6.1 hl;split
  ·exact h
  ·have hne:(s.at_ n.toNat).num≠0:=by omega
   exact h.upd hne rfl ⟨by show 1≤g;omega,by show g≤12;omega⟩ fun e=>by
    show (s.at_ n.toNat).par=0;rw [e];exact h.one.2
 ·exact h
theorem Wf.grp {s:Ptb} (h:Wf s) {n:Nat} (hn:(s.at_ n).num≠0):1≤(s.at_ n).grp∧(s.at_ n).grp≤12:=by
 rcases h.p n with ⟨e,_⟩ | ⟨_,_,_,_,e,f⟩
 ·rw [e] at hn;exact absurd rfl hn
 ·exact ⟨e,f⟩
theorem Wf.userX {s:Ptb} (h:Wf s) (n g:Int):Wf (Y7 s n g):=by
 unfold Go.Am.Y7;split
 ·rename_i hl;have hl:=H6.1 hl;have hne:(s.at_ n.toNat).num≠0:=by omega
  split
  ·exact h
  ·split
   ·exact h.upd hne rfl (h.grp hne) fun e=>by
     show (s.at_ n.toNat).par=0;rw [e];exact h.one.2
   ·exact h
 ·exact h
theorem Wf.maskX {s:Ptb} (h:Wf s) (n g:Int):Wf (Em s n g):=by
 unfold Go.Am.Em;split
 ·rename_i hl;have hl:=H6.1 hl;exact h.updS (by omega)
 ·exact h
theorem Wf.handX {s:Ptb} (h:Wf s) (n i g:Int):Wf (Az s n i g):=by
 unfold Go.Am.Az;split
 ·rename_i hl;have hl:=H6.1 hl;split
  ·exact h
  ·exact h.updS (by omega)
 ·exact h
theorem seen_rows {t:TS} {s':Ptb} {l:List AV} {sl:List AV} (hT:l=t.tb (B3 1 s') s') (ht:O7 t) (hS:∀ n,n<13→∀ p,s'.sg n=some p→A1 sl n=t.enc p):H7 t s' 13 (some ⟨1,l⟩::(List.range 13).map fun n=>some ⟨1,A1 sl n⟩):=by
 refine ⟨by simp,?_,fun n hn=>⟨A1 sl n,?_,hS n hn⟩⟩
 ·rw [List.getElem?_cons_zero,hT];congr 3;refine ht.congr _ _ _ fun n hn=>?_;unfold B3 H5;split
  ·rename_i e;rw [e]
  ·rename_i e;rw [e];simp only;rw [if_neg (by omega)]
 ·rw [if_neg (by omega),Nat.add_comm,List.getElem?_cons_succ,List.getElem?_map,List.getElem?_range hn];rfl
theorem H7.more {t:TS} {s:Ptb} {c:Nat} {H:Hp} {k:Nat} (h:H7 t s c (H.take k)):H7 t s c H:=by
 have g:∀ {i:Nat} {b},(H.take k)[i]?=some b→H[i]?=some b:=fun {i b} hb=>by
  rw [List.getElem?_take] at hb;split at hb
  ·exact hb
  ·cases hb
 refine ⟨?_,g h.tab,fun n hn=>?_⟩
 ·have:=h.len
  rw [List.length_take] at this;omega
 ·obtain ⟨cs,q1,q2⟩:=h.sets n hn;exact ⟨cs,g q1,q2⟩
theorem Og {t:TS} (ht:O7 t) {f:FuncId} {args:List AV} {s s':Ptb} {v:AV} {k:Nat} (h:ACalls C f args (B0 t s) fun v' H'=>v'=v∧H7 t s' 13 (H'.take k)) (hv:bnd 0 v=true):ACalls C f args (B0 t s) fun v' H'=>v'=v∧H'=B0 t s':=
 h.view fun v' H' ⟨e,q⟩=>⟨v,B0 t s',⟨rfl,rfl⟩,by subst e;rw [A9];exact q.more.stay ht hv⟩
theorem Z3.more {t:TS} {s:Ptb} {c q:Nat} {H:Hp} {k:Nat} (h:Z3 t s c q (H.take k)):Z3 t s c q H:=by
 have g:∀ {i:Nat} {b},(H.take k)[i]?=some b→H[i]?=some b:=fun {i b} hb=>by
  rw [List.getElem?_take] at hb;split at hb
  ·exact hb
  ·cases hb
 refine ⟨?_,g h.tab,fun n hn=>?_⟩
 ·have:=h.len
  rw [List.length_take] at this;omega
 ·obtain ⟨cs,q1,q2⟩:=h.sets n hn;exact ⟨cs,g q1,q2⟩
theorem H7.q {t:TS} (ht:O7 t) {s:Ptb} {H:Hp} (h:H7 t s 13 H) (q:Nat):Z3 t s 13 q H:=by
 refine ⟨h.len,?_,fun n hn=>?_⟩
 ·rw [h.tab];congr 3;refine ht.congr _ _ _ fun n hn=>?_;cases s.sg n with
  | none=>rfl
  | some p=>simp only;rw [if_neg (by omega),if_neg (by omega)]
 ·have:=h.sets n hn
  rw [if_neg (by omega)] at this;rw [if_neg (by omega)];exact this
theorem Yo {t:TS} (ht:O7 t) {f:FuncId} {args:List AV} {s s':Ptb} {v:AV} {k q:Nat} (hq:14≤q) (h:ACalls C f args (B0 t s) fun v' H'=>v'=v∧(H7 t s' 13 (H'.take k)∨∃ c,Z3 t s' c q (H'.take k)∧q<(H'.take k).length)) (hv:bnd 0 v=true):ACalls C f args (B0 t s) fun v' H'=>v'=v∧H'=V2 t s':=
 h.view fun v' H' ⟨e,h2⟩=>⟨v,V2 t s',⟨rfl,rfl⟩,by
  subst e;rw [A9];rcases h2 with h2 | ⟨c,h2,h3⟩
  ·exact (h2.more.q ht q).move ht hq (fun h=>absurd rfl h) hv
  ·refine h2.more.move ht hq (fun _=>?_) hv;rw [List.length_take] at h3
   omega⟩
theorem V3 {t:TS} {s:Ptb}:(some ⟨1,t.tb (B3 1 s) s⟩::(List.range 13).map fun n=>some (⟨1,A1 (setsL t.enc s) n⟩:Blk))=B0 t s:=by
 unfold B0 L7;refine congrArg (List.cons _) (List.map_congr_left fun n hn=>?_);rw [K9 (List.mem_range.1 hn)]
theorem Fd {t:TS} {s s':Ptb} (h:∀ n p,s'.sg n=some p→s.sg n=some p):∀ n,n<13→∀ p,s'.sg n=some p→A1 (setsL t.enc s) n=t.enc p:=fun n hn p hp=>by
 rw [K9 hn,h n p hp];rfl
theorem lY {t:TS} {s:Ptb} {c:Nat} {q:Sg}:∀ n,n<13→∀ p,(R7 s c (some q)).sg n=some p→A1 (D5 (setsL t.enc s) c (t.enc q)) n=t.enc p:=fun n hn p hp=>by
 have hp:(if n=c then some q else s.sg n)=some p:=hp;unfold A1 D5;rw [List.getElem?_set];by_cases e:c=n
 ·subst e;rw [if_pos rfl,F8,if_pos hn];rw [if_pos rfl] at hp;simp only [Option.some.injEq] at hp;rw [hp]
 ·rw [if_neg e];rw [if_neg (fun h=>e h.symm)] at hp
  have:=K9 (enc:=t.enc) (s:=s) hn
  unfold A1 at this;rw [this,hp];rfl
theorem Z9 {b:Nat} {s:Ptb} {c:Nat} {q p:Sg} (h:s.sg c=some p):B3 b (R7 s c (some q))=B3 b s:=by
 funext n;show H5 b n (if n=c then some q else s.sg n)=H5 b n (s.sg n);by_cases e:n=c
 ·subst e;rw [if_pos rfl,h];rfl
 ·rw [if_neg e]
theorem Gk {l:List AV} {o b n:Nat} {x:Option Sg} (h:l[o]?=some (H5 b n x)):B4 l o=x.isNone:=by
 unfold B4;rw [h];cases x<;>rfl
theorem Yn {l:List AV} {o b n:Nat} {x:Option Sg} (hn:n<13) (h:l[o]?=some (H5 b n x)) (hx:x.isSome=true):J4 b 13 l o=true∧A4 b l o=n∧K4 l o=0:=by
 obtain ⟨p,rfl⟩:=Option.isSome_iff_exists.1 hx;refine ⟨?_,?_,?_⟩
 ·unfold J4;rw [h];simp only [H5,Bool.and_eq_true];exact ⟨Nat.ble_eq_true_of_le (by omega),Nat.ble_eq_true_of_le (by omega)⟩
 ·unfold A4;rw [h];simp only [H5];omega
 ·unfold K4;rw [h];rfl
theorem D6 (l:List AV) (k:Nat):rowsA l (List.replicate k (.agg l))=true:=by
 unfold rowsA;simp only [decide_eq_true_eq];exact fun v hv=>(List.mem_replicate.1 hv).2
theorem oO {b c:Nat} {s:Ptb} (hc:c<13):setPart (encT b s) (c*7+1) (.agg (P5 zc .nilp))=encT b (J2 s c):=by
 rw [Ta,uU hc,Ta];unfold encV;congr 1;refine O1 fun a j _ _=>?_;show fcell (if a=c then zc else s.at_ a) (if a=c then .nilp else H5 b a (s.sg a)) j=fcell (if a=c then zc else s.at_ a) (H5 b a (if a=c then none else s.sg a)) j;by_cases e:a=c
 ·rw [if_pos e,if_pos e,if_pos e];rfl
 ·rw [if_neg e,if_neg e,if_neg e]
def L0 (w:Int) (c:Nat):Bool:=w==-1||w==(c:Int)
def E4 (s:Ptb) (w:Int) (c:Nat):Bool:=L0 w c&&(s.at_ c).en
theorem nl_at {l:List Nat} {i:Nat} (h:i<l.length):(nl l)[i]?=some (.int .i64 (l[i]:Int)):=by
 unfold nl;rw [List.getElem?_map,List.getElem?_eq_getElem h];rfl
theorem Yt {l:List Nat} {i:Nat} (h:i<l.length):isI .i64 (nl l) i=true∧A0 (nl l) i=(l[i]:Int):=by simp [isI,A0,nl_at h]
end Go.Am
namespace Go.Am
open Crc
variable {C:A3}
theorem oQ {p q:Sg} (h:encP p=encP q):p=q:=by rw [←E8 p,h,E8]
structure fC (t:TS):Prop where
 enc:∀ p q,t.enc p=t.enc q→p=q
 at_:∀ p q s s',t.tb p s=t.tb q s'→∀ n,n<13→s.at_ n=s'.at_ n∧p n=q n
theorem Pc.eta {x y:Pc} (h0:x.num=y.num) (h1:x.par=y.par) (h2:x.grp=y.grp) (h3:x.usr=y.usr) (h4:x.en=y.en) (h5:x.st=y.st):x=y:=by
 cases x;cases y;simp only at *;subst h0 h1 h2 h3 h4 h5;rfl
theorem jE {x y:Pc} {v w:AV} (h:∀ k,k<6→fcell x v k=fcell y w k):x=y:=by
 have h0:=h 0 (by omega);have h1:=h 1 (by omega);have h2:=h 2 (by omega);have h3:=h 3 (by omega);have h4:=h 4 (by omega);have h5:=h 5 (by omega);simp only [fcell,AV.int.injEq,AV.bool.injEq,true_and] at h0 h1 h2 h3 h4 h5;exact Pc.eta h0 h1 h2 h3 h4 h5
theorem qG:fC tsP:=by
 refine ⟨fun p q h=>oQ h,fun p q s s' h n hn=>?_⟩
 have g:∀ k,k<7→fcell (s.at_ n) (p n) k=fcell (s'.at_ n) (q n) k:=fun k hk=>by
  have h:encV p s=encV q s':=h
  have a:(encV p s)[n*7+(k+1)]?=some (fcell (s.at_ n) (p n) k):=by
   unfold encV;rw [show n*7+(k+1)=(n*7+k)+1 by omega,List.getElem?_cons_succ,R8 hn hk]
  have b:(encV q s')[n*7+(k+1)]?=some (fcell (s'.at_ n) (q n) k):=by
   unfold encV;rw [show n*7+(k+1)=(n*7+k)+1 by omega,List.getElem?_cons_succ,R8 hn hk]
  rw [h,b] at a;exact (Option.some.inj a).symm
 exact ⟨jE fun k hk=>g k (by omega),g 6 (by omega)⟩
theorem Yf:fC tsR:=by
 refine ⟨fun p q h=>oP h,fun p q s s' h n hn=>?_⟩;have h:C3 p s=C3 q s':=h;unfold C3 at h;obtain ⟨h1,h2⟩:=List.append_inj h (by simp [I2])
 have g:∀ k,k<6→fcell (s.at_ n) .undef k=fcell (s'.at_ n) .undef k:=fun k hk=>by
  have a:=R8 (f:=fun n=>fcell (s.at_ n) .undef) hn hk;have b:=R8 (f:=fun n=>fcell (s'.at_ n) .undef) hn hk;rw [h1,b] at a;exact (Option.some.inj a).symm
 refine ⟨jE g,?_⟩
 have:=congrArg (fun l:List AV=>l[n]?) h2
 simpa [List.getElem?_map,List.getElem?_range hn] using this
theorem aU1 {t:TS} (ht:fC t) {s s':Ptb} (h1:U7 s) (h2:U7 s') (h3:t.tb (B3 1 s) s=t.tb (B3 1 s') s') (h4:setsL t.enc s=setsL t.enc s'):s=s':=by
 refine Ptb.ext' (fun n=>?_) fun n=>?_
 ·by_cases hn:n<13
  ·exact (ht.at_ _ _ _ _ h3 n hn).1
  ·rw [(h1 n (by omega)).1,(h2 n (by omega)).1]
 ·by_cases hn:n<13
  ·have a:=(ht.at_ _ _ _ _ h3 n hn).2;have b:=congrArg (fun l=>A1 l n) h4;simp only [K9 hn] at b;unfold B3 H5 at a;cases e:s.sg n with
   | none=>
    rw [e] at a;cases e':s'.sg n with
    | none=>rfl
    | some q=>rw [e'] at a;cases a
   | some p=>
    rw [e] at a;cases e':s'.sg n with
    | none=>rw [e'] at a;cases a
    | some q=>
     rw [e,e'] at b;rw [ht.enc p q b]
  ·rw [(h1 n (by omega)).2,(h2 n (by omega)).2]
open Classical in
noncomputable def Ke (t:TS):List AV→List AV:=fun vs=>match vs with
 | [.agg l,.agg L]=>if h:∃ s,Wf s∧l=t.tb (B3 1 s) s∧L=setsL t.enc s then encX (Classical.choose h) else []
 | _=>[]
open Classical in
noncomputable def Ne (t:TS):List AV→Bool:=fun vs=>match vs with
 | [.agg l,.agg L]=>decide (∃ s,Wf s∧l=t.tb (B3 1 s) s∧L=setsL t.enc s)
 | _=>false
theorem Pj {t:TS} {l L:List AV}:Ne t [.agg l,.agg L]=true↔∃ s,Wf s∧l=t.tb (B3 1 s) s∧L=setsL t.enc s:=by
 unfold Ne;simp only [decide_eq_true_eq]
theorem Rw {t:TS} (ht:fC t) {s:Ptb} (hw:Wf s):Ke t [.agg (t.tb (B3 1 s) s),.agg (setsL t.enc s)]=encX s:=by
 have h:∃ s',Wf s'∧t.tb (B3 1 s) s=t.tb (B3 1 s') s'∧setsL t.enc s=setsL t.enc s':=⟨s,hw,rfl,rfl⟩;unfold Ke;simp only;rw [dif_pos h];obtain ⟨a,b,c⟩:=Classical.choose_spec h;exact congrArg encX (aU1 ht hw.thin a.thin b c).symm
def Ws (tg:Nat) (ok:List AV→Bool) (xo:List AV→List AV) (t:TS) (m:Th) (k:EL→List EV→Option (EV×EL)):DSum:=fun (args:List EV) (H:List (Option DBlk))=>match args with
 | .ptr (.rw 0) (.lit 0)::rest=>match H[(0:Nat)]? with
  | some (some ⟨1,l⟩)=>match Gu H 1 13 with
   | some (z1,L,ls)=>match Nat.beq z1 1 with
    | true=>match k (.uf (tg+5) xo [.agg l,.agg L]) rest with
     | some (v,x')=>some (.chk (.rows L ls) (.chk (.uf (tg+6) ok [.agg l,.agg L]) (.one v (Ys tg t m 0 1 H.length x'))))
     | none=>none
    | false=>none
   | none=>none
  | _=>none
 | _=>none
theorem yD {G:Nat→List AV} {H:DHp} {l L:EL} {ls:List EV} (h0:H[0]?=some (some ⟨1,l⟩)) (hf:Gu H 1 13=some (1,L,ls)) (hr:rowsA (vL G L) (vVs G ls)=true):(vHp G H).take 14=some ⟨1,vL G l⟩::(List.range 13).map fun n=>some ⟨1,A1 (vL G L) n⟩:=by
 have a0:=M0 (G:=G) h0;refine List.ext_getElem? fun i=>?_;by_cases hi:i<14
 ·rw [List.getElem?_take,if_pos hi];cases i with
  | zero=>rw [a0];rfl
  | succ n=>
   have:=Mu hf hr (i:=n) (by omega)
   rw [Nat.add_comm 1 n] at this;rw [this,List.getElem?_cons_succ,List.getElem?_map,List.getElem?_range (by omega)];rfl
 ·rw [List.getElem?_eq_none (by rw [List.length_take];omega),List.getElem?_eq_none (by simp;omega)]
theorem aM2 {H:Hp} {k:Nat} {K:Hp} (h:H.take k=K) {i:Nat} {b:Option Blk} (hb:K[i]?=some b):H[i]?=some b:=by
 rw [←h,List.getElem?_take] at hb;split at hb
 ·exact hb
 ·cases hb
theorem xE {tg:Nat} {t:TS} (ht:O7 t) {H:DHp} {i b:Nat} {s s':Ptb} {x':EL} (hib:i<b∨b+13≤i)
  (live:∀ (k:Nat) bb,(B0 t s)[k]?=some bb→∃ b0,bb=some b0∧A8 (B7 i b).length b0.cells=true∧(vHp C.G H)[(B7 i b).getD k 0]?=some (some (F9 (B7 i b) b0)))
  (m:Th) (hx:vL C.G x'=encX s') (hs:U7 s') (hsame:m=.same→s'=s):acts (vHp C.G H) ((Ys tg t m i b H.length x').map (G2 C.G))=L4 (B7 i b) (vHp C.G H) (Y6 t m s'):=by
 have hlen:(vHp C.G H).length=H.length:=C0 H
 have lt:∀ j∈B7 i b,j<(vHp C.G H).length:=fun j hj=>by
  obtain ⟨k,hk,e⟩:=List.getElem_of_mem hj;rw [B5] at hk;have hk2:k<(B0 t s).length:=by rw [A9];exact hk
  obtain ⟨b0,_,_,q⟩:=live k _ (List.getElem?_eq_getElem hk2)
  have:=(List.getElem?_eq_some_iff.1 q).1
  have e2:(B7 i b).getD k 0=j:=by simp [List.getD,e,B5,hk]
  rwa [e2] at this
 cases m with
 | stay=>
  unfold L4;show acts (vHp C.G H) ((cH tg t i b x').map (G2 C.G))=lay (J0 (B7 i b) (vHp C.G H).length ((B0 t s').length - (B7 i b).length)) (B7 i b) (B0 t s') (vHp C.G H)++((B0 t s').drop (B7 i b).length).map _;rw [show (B0 t s').length - (B7 i b).length=0 by rw [A9,B5],show (B0 t s').drop (B7 i b).length=[] from List.drop_of_length_le (by rw [A9,B5];omega),List.map_nil,List.append_nil];have e0:B0 t s'=((⟨1,t.tb (B3 1 s') s'⟩:Blk)::(List.range 13).map fun n=>⟨1,I4 t.enc (s'.sg n)⟩).map some:=by simp [B0,L7]
  rw [e0,bF _ _ _ _ (by simp [B7])];congr 1;have et:=X4 ht (s:=s') (θ:=J0 (B7 i b) (vHp C.G H).length 0) (b:=1) (b':=b) fun n hn=>iB hn;unfold cH;unfold B7 at et ⊢;rw [List.map_cons,List.zip_cons_cons,List.map_cons];congr 1
  ·simp only [G2,aR hx hs,F9];rw [et]
  ·rw [←Tm (tg:=tg) hx hs,List.zip_map_right,List.map_map,List.map_map];refine List.map_congr_left fun p hp=>?_;simp only [Function.comp,G2,Prod.map,id];congr 1
   have:∃ n,p.2=⟨1,.uf (tg+10+n) (A7 t n) [.agg x']⟩:=by
    have:=(List.of_mem_zip hp).2
    unfold Ax at this;obtain ⟨n,_,e⟩:=List.mem_map.1 this;exact ⟨n,e.symm⟩
   obtain ⟨n,e⟩:=this;rw [e];simp only [C9,F9,vL,vVs,vV,A7];rw [E0 _ _ (X1 ht _ 0)]
 | same=>
  have e:=hsame rfl;subst e;show acts (vHp C.G H) []=L4 (B7 i b) (vHp C.G H) (B0 t s');unfold L4;rw [show (B0 t s').length - (B7 i b).length=0 by rw [A9,B5],show (B0 t s').drop (B7 i b).length=[] from List.drop_of_length_le (by rw [A9,B5];omega),List.map_nil,List.append_nil];have ew:J0 (B7 i b) (vHp C.G H).length 0=B7 i b:=by simp [J0]
  rw [ew]
  exact (Ih.lay_self _ _ _ _ fun k bb hk=>by
   obtain ⟨b0,rfl,_,q⟩:=live k bb hk
   exact q).symm
 | move=>
  unfold L4;rw [show (Y6 t .move s').length - (B7 i b).length=13 by show (V2 t s').length - _=_;rw [Bg,B5]]
  have e1:(Y6 t .move s').drop (B7 i b).length=L7 t s':=by
   rw [B5];show (V2 t s').drop 14=_;unfold V2;rw [List.drop_succ_cons,List.drop_left' (by simp)]
  rw [e1]
  have e2:lay (J0 (B7 i b) (vHp C.G H).length 13) (B7 i b) (Y6 t .move s') (vHp C.G H)=((List.range 13).map (b+·)).foldl (fun H j=>H.set j none) ((vHp C.G H).set i (some ⟨1,t.tb (B3 H.length s') s'⟩)):=by
   show lay _ (i::(List.range 13).map (b+·)) (some ⟨1,t.tb (B3 14 s') s'⟩::(List.replicate 13 none++L7 t s')) _=_;simp only [lay,K7,Option.map_some,F9];rw [X4 ht (b:=14) (b':=(vHp C.G H).length) fun n hn=>Ia hn,hlen];rw [Ih.lay_more _ _ (List.replicate 13 none) (L7 t s') _ (by simp)];exact Uj _ ((List.range 13).map (b+·)) _
  rw [e2];unfold Ys tM;simp only [List.map_cons,acts,G2,Hop.act,aR hx hs]
  have e3:((((List.range 13).map (b+·)).zip (Ax tg t x')).map (fun p=>DHop.app p.1 p.2)).map (G2 C.G)=(((List.range 13).map (b+·)).zip ((Ax tg t x').map (C9 C.G))).map fun p=>Hop.app p.1 p.2:=by
   rw [List.zip_map_right,List.map_map,List.map_map];exact List.map_congr_left fun p _=>rfl
  rw [e3,Tm hx hs]
  have:=Ri ((List.range 13).map (b+·)) ((List.range 13).map fun n=>(⟨1,I4 t.enc (s'.sg n)⟩:Blk)) ((vHp C.G H).set i (some ⟨1,t.tb (B3 H.length s') s'⟩)) [] (by simp) (fun j hj=>by
   rw [List.length_set]
   exact lt j (by unfold B7;exact List.mem_cons_of_mem _ hj))
  rw [List.append_nil,List.nil_append] at this
  have e4:∀ θ,(L7 t s').map (K7 θ)=((List.range 13).map fun n=>(⟨1,I4 t.enc (s'.sg n)⟩:Blk)).map some:=fun θ=>by
   unfold L7;rw [List.map_map,List.map_map];refine List.map_congr_left fun n _=>?_;simp only [Function.comp,K7,Option.map_some,F9,E0 _ _ (X1 ht (s'.sg n) 0)]
  rw [this,e4]
theorem qY {tg:Nat} {t:TS} (ht:O7 t) (hi:fC t) {m:Th} {f:FuncId} {k:EL→List EV→Option (EV×EL)}
  (h:∀ x rest v x' s,k x rest=some (v,x')→vL C.G x=encX s→Wf s→A8 0 (vVs C.G rest)=true∧bnd 0 (vV C.G v)=true∧∃ s',vL C.G x'=encX s'∧U7 s'∧(m=.same→s'=s)∧
   ACalls C f (.ptr (.rw 0) 0::vVs C.G rest) (B0 t s) fun v' H'=>v'=vV C.G v∧H'=Y6 t m s'):G0 C f (Ws tg (Ne t) (Ke t) t m k):=by
 intro args H o ho;unfold Ws at ho;split at ho
 ·rename_i rest;split at ho
  ·rename_i l h0;split at ho
   ·rename_i z1 L ls hf;split at ho
    ·rename_i hz;have hz:=Nat.eq_of_beq_eq_true hz;subst hz;split at ho
     ·rename_i v x' hk;simp only [Option.some.injEq] at ho;subst ho;intro hr h1;have hr:rowsA (vL C.G L) (vVs C.G ls)=true:=hr;have h1:Ne t [.agg (vL C.G l),.agg (vL C.G L)]=true:=h1;obtain ⟨s,hw,hl,hL⟩:=Pj.1 h1
      have hx:vL C.G (.uf (tg+5) (Ke t) [.agg l,.agg L])=encX s:=by
       simp only [vL,vVs,vV,hl,hL];exact Rw hi hw
      have t14:=yD (G:=C.G) h0 hf hr;rw [hl,hL,V3] at t14;have fx:∀ i,i<14→(B7 0 1).getD i 0=i:=(by decide:∀ i,i<14→(B7 0 1).getD i 0=i)
      have live:∀ (k:Nat) b,(B0 t s)[k]?=some b→∃ b0,b=some b0∧A8 (B7 0 1).length b0.cells=true∧(vHp C.G H)[(B7 0 1).getD k 0]?=some (some (F9 (B7 0 1) b0)):=fun k b hb=>by
       have hlt:=(List.getElem?_eq_some_iff.1 hb).1;rw [A9] at hlt;rw [fx k hlt,aM2 t14 hb];by_cases hk0:k=0
       ·subst hk0;simp only [B0,List.getElem?_cons_zero,Option.some.injEq] at hb;subst hb;refine ⟨_,rfl,by rw [B5];exact ht.bnd 14 (B3 1 s) s fun n hn=>Ge (by omega) n hn,?_⟩;simp only [F9,X4 ht (θ:=B7 0 1) (b:=1) (b':=1) fun n hn=>Dy hn]
       ·obtain ⟨n,rfl⟩:∃ n,k=1+n:=⟨k - 1,by omega⟩;rw [Zp (by omega)] at hb;simp only [Option.some.injEq] at hb;subst hb;exact ⟨_,rfl,X1 ht _ _,by simp only [F9,E0 _ _ (X1 ht _ 0)]⟩
      obtain ⟨q1,q2,s',q3,q4,q5,q6⟩:=h _ rest v x' s hk hx hw;refine E1.fr (θ:=B7 0 1) (H0:=B0 t s) (H1:=Y6 t m s') (Fa (.inl (by omega))) (by rw [B5,A9]) live ?_ ?_ q6 ?_ ?_ ?_ ?_ (xE ht (.inl (by omega)) live m q3 q4 q5)
      ·simp only [A8,bnd,B5,Bool.and_eq_true];exact ⟨rfl,C6 (Nat.zero_le _) _ q1⟩
      ·simp only [vVs,vV,vR,vN,rens,ren,E0 _ _ q1];rfl
      ·cases m<;>simp [Y6,A9,Bg]
      ·exact O0 (Nat.zero_le _) _ q2
      ·cases m with
       | move=>show D7 (V2 t s').length (V2 t s')=true;rw [Bg];exact rB ht s'
       | stay=>show D7 (B0 t s').length (B0 t s')=true;rw [A9];exact Bi ht s'
       | same=>show D7 (B0 t s').length (B0 t s')=true;rw [A9];exact Bi ht s'
      ·exact (U2 _ _ q2).symm
     ·simp at ho
    ·simp at ho
   ·simp at ho
  ·simp at ho
 ·simp at ho
structure Nz (t:TS) (s:Ptb) (b:Nat) (H:Hp):Prop where
 tab:H[0]?=some (some ⟨1,t.tb (B3 b s) s⟩)
 sets:∀ n,n<13→∃ cs,H[b+n]?=some (some ⟨1,cs⟩)∧∀ p,s.sg n=some p→cs=t.enc p
theorem Nz.move {t:TS} (ht:O7 t) {s:Ptb} {b:Nat} {H:Hp} {v:AV} (h:Nz t s b H) (hb14:14≤b) (hv:bnd 0 v=true):C8 14 [v] (V2 t s) [v] H:=by
 let θ:List Nat:=List.range 14++(List.range 13).map (b+·)
 have lθ:θ.length=27:=by simp [θ]
 have hlen:b+13≤H.length:=by
  obtain ⟨cs,q,_⟩:=h.sets 12 (by omega)
  have:=(List.getElem?_eq_some_iff.1 q).1
  omega
 have g:∀ i,i<14→θ.getD i 0=i:=fun i hi=>by
  simp only [θ,List.getD];rw [List.getElem?_append_left (by simpa using hi)];simp [hi]
 have g2:∀ n,n<13→θ.getD (14+n) 0=b+n:=fun n hn=>by
  simp only [θ,List.getD];rw [List.getElem?_append_right (by simp),List.length_range,Nat.add_sub_cancel_left,List.getElem?_map,List.getElem?_range hn];rfl
 have live:∀ (i:Nat) b,(V2 t s)[i]?=some (some b)→i=0∨∃ n,n<13∧i=14+n:=fun i b hb=>by
  have hi:=(List.getElem?_eq_some_iff.1 hb).1;rw [Bg] at hi;by_cases h0:i=0
  ·exact .inl h0
  ·by_cases h1:i<14
   ·obtain ⟨n,rfl⟩:∃ n,i=1+n:=⟨i - 1,by omega⟩;rw [mZ (by omega)] at hb;cases hb
   ·exact .inr ⟨i - 14,by omega,by omega⟩
 refine ⟨θ,by rw [Bg,lθ],by rw [Bg];omega,g,fun i hi=>?_,fun i j b b' h1 h2 he=>?_,fun i bb hb=>?_,rfl,fun k w hk=>?_⟩
 ·rw [lθ] at hi;by_cases h1:i<14
  ·rw [g i h1];omega
  ·obtain ⟨n,rfl⟩:∃ n,i=14+n:=⟨i - 14,by omega⟩;rw [g2 n (by omega)];omega
 ·rcases live i b h1 with rfl | ⟨n,hn,rfl⟩
  ·rcases live j b' h2 with rfl | ⟨m,hm,rfl⟩
   ·rfl
   ·rw [g 0 (by omega),g2 m hm] at he;omega
  ·rcases live j b' h2 with rfl | ⟨m,hm,rfl⟩
   ·rw [g 0 (by omega),g2 n hn] at he;omega
   ·rw [g2 n hn,g2 m hm] at he;omega
 ·rcases live i bb hb with rfl | ⟨n,hn,rfl⟩
  ·rw [g 0 (by omega)];simp only [V2,List.getElem?_cons_zero,Option.some.injEq] at hb;subst hb;have er:rens θ (t.tb (B3 14 s) s)=t.tb (B3 b s) s:=X4 ht g2;refine ⟨_,h.tab,?_,Cv rfl rfl fun k w hk=>?_⟩
   ·show (t.tb _ s).length≤(t.tb _ s).length;rw [←er,G6];simp
   ·have hb:=ht.bnd 27 (B3 14 s) s fun n hn=>Ge (by omega) n hn;rw [I1,List.all_eq_true] at hb;have hk:(t.tb (B3 14 s) s)[k]?=some w:=hk;refine ⟨by rw [lθ];exact hb w (List.mem_of_getElem? hk),?_⟩;show (t.tb _ s)[k]?=_;rw [←er,G6,List.getElem?_map,hk];rfl
  ·rw [g2 n hn];rw [rC hn] at hb;simp only [Option.some.injEq] at hb;subst hb;obtain ⟨cs,q1,q2⟩:=h.sets n hn;cases e:s.sg n with
   | none=>exact ⟨_,q1,Nat.zero_le _,Cv rfl rfl fun k w hk=>by simp [I4] at hk⟩
   | some p=>
    have:=q2 p e
    subst this;refine ⟨_,q1,Nat.le_refl _,Cv rfl rfl fun k w hk=>?_⟩;have hk:(t.enc p)[k]?=some w:=hk;obtain ⟨a1,a2⟩:=Nv (ht.flatE p 0) θ hk;exact ⟨a1,by rw [a2];exact hk⟩
 ·cases k with
  | zero=>simp at hk;subst hk;exact ⟨O0 (Nat.zero_le _) _ hv,.inr (by rw [U2 _ _ hv];rfl)⟩
  | succ k=>simp at hk
end Go.Am
namespace Go.Am
open Crc
theorem fB {p:Nat→AV} {n:Nat} {s:Ptb} {x:Pc} (hn:n<13):setPart (C3 p s) (n*6) (.agg (M3 x))=C3 p (V7 s n x):=by
 show Hk (C3 p s) (n*6) (M3 x)=_;have hl:(U0 13 6 fun n=>fcell (s.at_ n) .undef).length=78:=by rw [I2]
 have e:Hk (C3 p s) (n*6) (M3 x)=Hk (U0 13 6 fun n=>fcell (s.at_ n) .undef) (n*6) (M3 x)++(List.range 13).map p:=by
  have hr:(M3 x).length=6:=rfl;unfold Hk C3;rw [List.take_append_of_le_length (by rw [hl];omega),List.drop_append_of_le_length (by rw [hl,hr];omega)];simp only [List.append_assoc]
 rw [e,lQ (z:=6) hn rfl];unfold C3;congr 1;refine O1 fun a j _ hj=>?_;show _=fcell (if a=n then x else s.at_ a) .undef j;by_cases c:a=n
 ·rw [if_pos c,if_pos c]
  match j,hj with
  | 0,_ | 1,_ | 2,_ | 3,_ | 4,_ | 5,_=>rfl
 ·rw [if_neg c,if_neg c]
theorem kY {p:Nat→AV} {n:Nat} {s:Ptb} {v:AV} (hn:n<13) (hv:∀ l,v≠.agg l):setPart (C3 p s) (n+78) v=C3 (fun j=>if j=n then v else p j) s:=by
 rw [N6 hv];unfold C3;have hl:(U0 13 6 fun n=>fcell (s.at_ n) .undef).length=78:=by rw [I2]
 rw [List.set_append_right _ _ (by rw [hl];omega),hl,Nat.add_sub_cancel];congr 1;refine List.ext_getElem? fun j=>?_;rw [List.getElem?_set];simp only [List.length_map,List.length_range,List.getElem?_map];by_cases c:n=j
 ·subst c;rw [if_pos rfl,if_pos hn,List.getElem?_range hn];simp
 ·rw [if_neg c];by_cases d:j<13
  ·rw [List.getElem?_range d];simp only [Option.map_some];rw [if_neg (fun h=>c h.symm)]
  ·rw [List.getElem?_eq_none (by simpa using d)];rfl
theorem W_free {b c:Nat} {s:Ptb} (hc:c<13):setPart (setPart (B2 b s) (c*6) (.agg (M3 zc))) (c+78) .nilp=B2 b (J2 s c):=by
 rw [eG,fB hc,kY hc (by intro l h;cases h),eG];unfold C3;congr 1;refine List.map_congr_left fun a _=>?_;show (if a=c then AV.nilp else H5 b a (s.sg a))=H5 b a (if a=c then none else s.sg a);by_cases e:a=c
 ·rw [if_pos e,if_pos e];rfl
 ·rw [if_neg e,if_neg e]
end Go.Am
