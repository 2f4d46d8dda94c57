/-
  Tables of processes as objects: what calls on them come to, in written Tables of processes: what the calls do.
-/
import Derived.Test.YtkabjomhnddnoaaPrO
namespace Go.Am
open Crc
variable {C:Ctx}
def encX (s:Ptb):List AV:=((List.range 13).map fun n=>.agg (rowU (s.at_ n)))++(List.range 13).map fun n=>match s.sg n with | none=>.nilp | some p=>.agg (encP p)
def pcOf (cs:List AV):Pc:=⟨getI cs 0,getI cs 1,getI cs 2,getI cs 3,getB cs 4,getI cs 5⟩
def decX (l:List AV):Ptb:=
 ⟨fun n=>if n<13 then (match l[n]? with | some (.agg cs)=>pcOf cs | _=>zc) else zc,fun n=>match l[13+n]? with | some (.agg cs)=>some (decP cs) | _=>none⟩
def thin (s:Ptb):Prop:=∀ n,13≤n→s.at_ n=zc∧s.sg n=none
theorem decX_enc {s:Ptb} (h:thin s):decX (encX s)=s:=by
 refine Ptb.ext' (fun n=>?_) fun n=>?_
 ·simp only [decX]
  by_cases hn:n<13
  ·rw [if_pos hn]
   unfold encX
   rw [List.getElem?_append_left (by simpa using hn),List.getElem?_map,List.getElem?_range hn]
   rfl
  ·rw [if_neg hn,(h n (by omega)).1]
 ·simp only [decX]
  unfold encX
  rw [List.getElem?_append_right (by simp),List.length_map,List.length_range,Nat.add_sub_cancel_left,List.getElem?_map]
  by_cases hn:n<13
  ·rw [List.getElem?_range hn]
   cases e:s.sg n with
   | none=>simp [e]
   | some p=>simp only [Option.map_some,e,decP_enc]
  ·rw [List.getElem?_eq_none (by simpa using hn),(h n (by omega)).2]
   rfl
structure Wf (s:Ptb):Prop where
 z:∀ n,n=0∨13≤n→s.at_ n=zc∧s.sg n=none
 p:∀ n,(s.at_ n=zc∧s.sg n=none)∨((s.at_ n).num=(n:Int)∧1≤n∧n≤12∧(s.sg n).isSome=true∧1≤(s.at_ n).grp∧(s.at_ n).grp≤12)
 one:(s.at_ 1).num=1∧(s.at_ 1).par=0
theorem Wf.thin {s:Ptb} (h:Wf s):thin s:=fun n hn=>h.z n (.inr hn)
def tabF (t:TS):List AV→List AV:=fun as=>match as with
 | [.int _ b,.agg x]=>t.tb (ptrs b.toNat (decX x)) (decX x)
 | _=>[]
def setF (t:TS) (n:Nat):List AV→List AV:=fun as=>match as with
 | [.agg x]=>blkO t.enc ((decX x).sg n)
 | _=>[]
open Classical in
noncomputable def okObj (t:TS):List AV→Bool:=fun as=>match as with
 | [.int _ b,.agg x,.tup cs]=>decide (∃ s,Wf s∧x=encX s∧cs=.agg (t.tb (ptrs b.toNat s) s)::(List.range 13).map fun n=>.agg (blkO t.enc (s.sg n)))
 | _=>false
theorem okObj_iff {t:TS} {k:IntKind} {b:Int} {x cs:List AV}:okObj t [.int k b,.agg x,.tup cs]=true↔∃ s,Wf s∧x=encX s∧cs=.agg (t.tb (ptrs b.toNat s) s)::(List.range 13).map fun n=>.agg (blkO t.enc (s.sg n)):=by
 unfold okObj;simp only [decide_eq_true_eq]
def setsE (tg:Nat) (t:TS) (x:EL):List DBlk:=(List.range 13).map fun n=>⟨1,.uf (tg+10+n) (setF t n) [.agg x]⟩
def tabE (tg:Nat) (t:TS) (b:Nat) (x:EL):DBlk:=⟨1,.uf tg (tabF t) [.int .i64 (.lit b),.agg x]⟩
def cellsE (H:DHp):Nat→Nat→Option (List EL)
 | _,0=>some []
 | b,n+1=>match H[b]? with
  | some (some ⟨1,c⟩)=>match cellsE H (b+1) n with
   | some cs=>some (c::cs)
   | none=>none
  | _=>none
structure OA where
 b:Nat
 x:EL
 c0:EL
 cs:List EL
def objAt (tg:Nat) (H:DHp) (i:Nat):Option OA:=
 match H[i]? with
 | some (some ⟨1,.uf j f [.int .i64 (.lit b),.agg x]⟩)=>match Nat.beq j tg&&(Nat.blt i b.toNat||Nat.ble (b.toNat+13) i) with
  | true=>match cellsE H b.toNat 13 with
   | some cs=>some ⟨b.toNat,x,.uf j f [.int .i64 (.lit b),.agg x],cs⟩
   | none=>none
  | false=>none
 | _=>none
def oaChk (tg:Nat) (ok:List AV→Bool) (o:OA):EB:=.uf (tg+1) ok [.int .i64 (.lit o.b),.agg o.x,.tup (.agg o.c0::o.cs.map .agg)]
def stayH (tg:Nat) (t:TS) (i b:Nat) (x:EL):List DHop:=.set i (tabE tg t b x)::(((List.range 13).map (b+·)).zip (setsE tg t x)).map fun p=>.set p.1 p.2
def moveH (tg:Nat) (t:TS) (i b L:Nat) (x:EL):List DHop:=.set i (tabE tg t L x)::(((List.range 13).map (b+·)).zip (setsE tg t x)).map fun p=>.app p.1 p.2
inductive Md2 where
 | same
 | stay
 | move
def objHs (tg:Nat) (t:TS) (m:Md2) (i b L:Nat) (x:EL):List DHop:=match m with
 | .same=>[]
 | .stay=>stayH tg t i b x
 | .move=>moveH tg t i b L x
def objQ (tg:Nat) (ok:List AV→Bool) (t:TS) (m:Md2) (k:EL→List EV→Option (EV×EL)):DSum:=fun args H=>match args with
 | .ptr (.rw i) (.lit 0)::rest=>match objAt tg H i with
  | some o=>match k o.x rest with
   | some (v,x')=>some (.chk (oaChk tg ok o) (.one v (objHs tg t m i o.b H.length x')))
   | none=>none
  | none=>none
 | _=>none
noncomputable def objS (tg:Nat) (t:TS) (m:Md2) (k:EL→List EV→Option (EV×EL)):DSum:=objQ tg (okObj t) t m k
theorem cellsE_get {H:DHp}:∀ {n b:Nat} {cs:List EL},cellsE H b n=some cs→cs.length=n∧∀ j,j<n→∃ c,cs[j]?=some c∧H[b+j]?=some (some ⟨1,c⟩)
 | 0,b,cs,h=>by simp [cellsE] at h;subst h;exact ⟨rfl,fun j hj=>by omega⟩
 | n+1,b,cs,h=>by
  unfold cellsE at h
  split at h
  ·rename_i c hc
   split at h
   ·rename_i cs' hcs
    simp at h;subst h
    obtain ⟨h1,h2⟩:=cellsE_get hcs
    refine ⟨by simp [h1],fun j hj=>?_⟩
    cases j with
    | zero=>exact ⟨c,rfl,hc⟩
    | succ j=>
     obtain ⟨c',q1,q2⟩:=h2 j (by omega)
     exact ⟨c',by simpa using q1,by rw [show b+(j+1)=b+1+j by omega];exact q2⟩
   ·simp at h
  ·simp at h
def thO (i b:Nat):List Nat:=i::(List.range 13).map (b+·)
theorem thO_len {i b:Nat}:(thO i b).length=14:=by simp [thO]
theorem thO_get {i b n:Nat} (h:n<13):(thO i b).getD (1+n) 0=b+n:=by
 rw [Nat.add_comm]
 simp [thO,List.getD,h]
theorem thO_wide {i b L k n:Nat} (h:n<k):(wide (thO i b) L k).getD (14+n) 0=L+n:=by
 unfold wide
 simp only [List.getD]
 rw [List.getElem?_append_right (by rw [thO_len];omega),thO_len,Nat.add_sub_cancel_left,List.getElem?_map,List.getElem?_range h];rfl
theorem thO_wide1 {i b L k n:Nat} (h:n<13):(wide (thO i b) L k).getD (1+n) 0=b+n:=by
 unfold wide
 simp only [List.getD]
 rw [List.getElem?_append_left (by rw [thO_len];omega)]
 exact thO_get h
theorem thO_nodup {i b:Nat} (h:i<b∨b+13≤i):(thO i b).Nodup:=by
 unfold thO
 rw [List.nodup_cons]
 refine ⟨fun hm=>?_,?_⟩
 ·obtain ⟨j,hj,e⟩:=List.mem_map.1 hm
  have:=List.mem_range.1 hj
  omega
 ·exact List.pairwise_map.2 (List.Pairwise.imp (fun h e=>h (by omega)) (List.nodup_range (n:=13)))
theorem lay_sets (θ':List Nat):∀ (js:List Nat) (bs:List Blk) (H:Hp),js.length=bs.length→lay θ' js (bs.map some) H=acts H ((js.zip bs).map fun p=>.set p.1 (renB θ' p.2))
 | [],bs,H,h=>by cases bs<;>simp [lay,acts]
 | j::js,[],H,h=>by simp at h
 | j::js,b::bs,H,h=>by
  simp only [List.map_cons,lay,List.zip_cons_cons,acts,Hop.act,renO,Option.map_some]
  exact lay_sets θ' js bs _ (by simpa using h)
theorem lay_none (θ':List Nat):∀ (js:List Nat) (H:Hp),lay θ' js (List.replicate js.length none) H=js.foldl (fun H j=>H.set j none) H
 | [],H=>by simp [lay]
 | j::js,H=>by
  simp only [List.length_cons,List.replicate_succ,lay,renO,Option.map_none,List.foldl_cons]
  exact lay_none θ' js _
theorem acts_apps:∀ (js:List Nat) (bs:List Blk) (H E:Hp),js.length=bs.length→(∀ j∈js,j<H.length)→acts (H++E) ((js.zip bs).map fun p=>.app p.1 p.2)=js.foldl (fun H j=>H.set j none) H++(E++bs.map some)
 | [],[],H,E,_,_=>by simp [acts]
 | [],b::bs,H,E,h,_=>by simp at h
 | j::js,[],H,E,h,_=>by simp at h
 | j::js,b::bs,H,E,h,hj=>by
  simp only [List.zip_cons_cons,List.map_cons,acts,Hop.act,List.foldl_cons]
  rw [List.set_append_left _ _ (hj j (by simp)),List.append_assoc,acts_apps js bs (H.set j none) (E++[some b]) (by simpa using h) fun x hx=>by rw [List.length_set];exact hj x (by simp [hx])]
  simp
theorem can_hpB {t:TS} (ht:TSOk t) (s:Ptb):hpB 14 (can t s)=true:=by
 have h1:=ht.bnd 14 (ptrs 1 s) s fun n hn=>bnd_ptrs (by omega) n hn
 have h2:∀ (l:List Nat),hpB 14 (l.map fun n=>some (⟨1,blkO t.enc (s.sg n)⟩:Blk))=true:=fun l=>by
  induction l with
  | nil=>rfl
  | cons x l ih=>simp only [List.map_cons,hpB,blkO_flat ht,ih,Bool.and_self]
 simp only [can,hpB,h1,Bool.true_and]
 exact h2 _
theorem mov_hpB {t:TS} (ht:TSOk t) (s:Ptb):hpB 27 (mov t s)=true:=by
 have h1:=ht.bnd 27 (ptrs 14 s) s fun n hn=>bnd_ptrs (by omega) n hn
 have h2:∀ (l:List Nat),hpB 27 (l.map fun n=>some (⟨1,blkO t.enc (s.sg n)⟩:Blk))=true:=fun l=>by
  induction l with
  | nil=>rfl
  | cons x l ih=>simp only [List.map_cons,hpB,blkO_flat ht,ih,Bool.and_self]
 have h3:∀ k,hpB 27 (List.replicate k none++setsB t s)=true:=fun k=>by
  induction k with
  | zero=>exact h2 _
  | succ k ih=>simp only [List.replicate_succ,List.cons_append,hpB];exact ih
 simp only [mov,hpB,h1,Bool.true_and]
 exact h3 13
theorem ren_tab {t:TS} (ht:TSOk t) {s:Ptb} {θ:List Nat} {b b':Nat} (h:∀ n,n<13→θ.getD (b+n) 0=b'+n):rens θ (t.tb (ptrs b s) s)=t.tb (ptrs b' s) s:=by
 rw [ht.ren]
 refine ht.congr _ _ _ fun n hn=>?_
 unfold ptrs ptrO
 split
 ·rfl
 ·simp only [ren,h n hn]
theorem vSets {G:Nat→List AV} {tg:Nat} {t:TS} {x:EL} {s:Ptb} (hx:vL G x=encX s) (hs:thin s):(setsE tg t x).map (vBlk G)=(List.range 13).map fun n=>⟨1,blkO t.enc (s.sg n)⟩:=by
 unfold setsE
 rw [List.map_map]
 refine List.map_congr_left fun n _=>?_
 simp only [Function.comp,vBlk,vL,vVs,vV,setF,hx,decX_enc hs]
theorem vTab {G:Nat→List AV} {tg:Nat} {t:TS} {x:EL} {s:Ptb} {b:Nat} (hx:vL G x=encX s) (hs:thin s):vBlk G (tabE tg t b x)=⟨1,t.tb (ptrs b s) s⟩:=by
 simp only [tabE,vBlk,vL,vVs,vV,vI,tabF,hx,decX_enc hs,Int.toNat_natCast]
theorem objAt_ok {tg:Nat} {H:DHp} {i:Nat} {o:OA} (h:objAt tg H i=some o):(i<o.b∨o.b+13≤i)∧H[i]?=some (some ⟨1,o.c0⟩)∧o.cs.length=13∧∀ j,j<13→∃ c,o.cs[j]?=some c∧H[o.b+j]?=some (some ⟨1,c⟩):=by
 unfold objAt at h
 split at h
 ·rename_i j f b x hi
  split at h
  ·rename_i hb
   simp only [Bool.and_eq_true,Bool.or_eq_true,Nat.blt] at hb
   split at h
   ·rename_i cs hcs
    simp only [Option.some.injEq] at h
    subst h
    obtain ⟨h1,h2⟩:=cellsE_get hcs
    refine ⟨?_,hi,h1,h2⟩
    rcases hb.2 with h | h
    ·exact .inl (Nat.le_of_ble_eq_true h)
    ·exact .inr (Nat.le_of_ble_eq_true h)
   ·simp at h
  ·simp at h
 ·simp at h
theorem oa_live {tg:Nat} {t:TS} (ht:TSOk t) {H:DHp} {i:Nat} {o:OA} {s:Ptb} (ho:objAt tg H i=some o) (hc:vVs C.G (.agg o.c0::o.cs.map EV.agg)=.agg (t.tb (ptrs o.b s) s)::(List.range 13).map fun n=>.agg (blkO t.enc (s.sg n))) :
  ∀ (k:Nat) b,(can t s)[k]?=some b→∃ b0,b=some b0∧bnds (thO i o.b).length b0.cells=true∧(vHp C.G H)[(thO i o.b).getD k 0]?=some (some (renB (thO i o.b) b0)):=by
 obtain ⟨_,h0,hl,hj⟩:=objAt_ok ho
 simp only [vVs,vV,List.cons.injEq,AV.agg.injEq] at hc
 obtain ⟨e0,e1⟩:=hc
 intro k b hk
 have hlt:=(List.getElem?_eq_some_iff.1 hk).1
 rw [can_len] at hlt
 by_cases hk0:k=0
 ·subst hk0
  simp only [can,List.getElem?_cons_zero,Option.some.injEq] at hk
  subst hk
  refine ⟨_,rfl,by rw [thO_len];exact ht.bnd 14 (ptrs 1 s) s fun n hn=>bnd_ptrs (by omega) n hn,?_⟩
  have:=vHp_some (G:=C.G) h0
  simp only [renB,ren_tab ht (θ:=thO i o.b) (b:=1) (b':=o.b) fun n hn=>thO_get hn]
  rw [show (thO i o.b).getD 0 0=i from rfl,this]
  simp only [vBlk,e0]
 ·obtain ⟨n,rfl⟩:∃ n,k=1+n:=⟨k - 1,by omega⟩
  have hn:n<13:=by omega
  rw [can_get hn] at hk
  simp only [Option.some.injEq] at hk
  subst hk
  refine ⟨_,rfl,blkO_flat ht _ _,?_⟩
  rw [thO_get hn]
  obtain ⟨c,q1,q2⟩:=hj n hn
  rw [vHp_some (G:=C.G) q2]
  have e2:vL C.G c=blkO t.enc (s.sg n):=by
   have:=congrArg (fun l:List AV=>l[n]?) e1
   simp only [vVs_map,List.map_map,List.getElem?_map,q1,List.getElem?_range hn,Option.map_some,Function.comp,vV,Option.some.injEq,AV.agg.injEq] at this
   exact this
  simp only [vBlk,renB,e2,rens_flat _ _ (blkO_flat ht (s.sg n) 0)]
theorem thO_lt {tg:Nat} {H:DHp} {i:Nat} {o:OA} (ho:objAt tg H i=some o):∀ j∈thO i o.b,j<(vHp C.G H).length:=by
 obtain ⟨_,h0,_,hj⟩:=objAt_ok ho
 intro j hm
 rw [vHp_length]
 unfold thO at hm
 rcases List.mem_cons.1 hm with rfl | hm
 ·exact (List.getElem?_eq_some_iff.1 h0).1
 ·obtain ⟨n,hn,rfl⟩:=List.mem_map.1 hm
  obtain ⟨c,_,q⟩:=hj n (List.mem_range.1 hn)
  exact (List.getElem?_eq_some_iff.1 q).1
def mdHp (t:TS) (m:Md2) (s:Ptb):Hp:=match m with
 | .move=>mov t s
 | _=>can t s
theorem objHs_ok {tg:Nat} {t:TS} (ht:TSOk t) {H:DHp} {i:Nat} {o:OA} {s s':Ptb} {x':EL} (ho:objAt tg H i=some o) (hc:vVs C.G (.agg o.c0::o.cs.map EV.agg)=.agg (t.tb (ptrs o.b s) s)::(List.range 13).map fun n=>.agg (blkO t.enc (s.sg n)))
  (m:Md2) (hx:vL C.G x'=encX s') (hs:thin s') (hsame:m=.same→s'=s):acts (vHp C.G H) ((objHs tg t m i o.b H.length x').map (vHop C.G))=merge (thO i o.b) (vHp C.G H) (mdHp t m s'):=by
 have hlen:(vHp C.G H).length=H.length:=vHp_length H
 have zipE:((List.range 13).map (o.b+·)).length=(setsE tg t x').length:=by simp [setsE]
 have stay:acts (vHp C.G H) ((stayH tg t i o.b x').map (vHop C.G))=merge (thO i o.b) (vHp C.G H) (can t s'):=by
  unfold merge
  rw [show (can t s').length - (thO i o.b).length=0 by rw [can_len,thO_len],show (can t s').drop (thO i o.b).length=[] from List.drop_of_length_le (by rw [can_len,thO_len];omega),List.map_nil,List.append_nil]
  have e0:can t s'=((⟨1,t.tb (ptrs 1 s') s'⟩:Blk)::(List.range 13).map fun n=>⟨1,blkO t.enc (s'.sg n)⟩).map some:=by simp [can,setsB]
  rw [e0,lay_sets _ _ _ _ (by simp [thO])]
  congr 1
  have et:=ren_tab ht (s:=s') (θ:=wide (thO i o.b) (vHp C.G H).length 0) (b:=1) (b':=o.b) fun n hn=>thO_wide1 hn
  unfold stayH
  unfold thO at et ⊢
  rw [List.map_cons,List.zip_cons_cons,List.map_cons]
  congr 1
  ·simp only [vHop,vTab hx hs,renB]
   rw [et]
  ·rw [←vSets (tg:=tg) hx hs,List.zip_map_right,List.map_map,List.map_map]
   refine List.map_congr_left fun p hp=>?_
   simp only [Function.comp,vHop,Prod.map,id]
   congr 1
   have:∃ n,p.2=⟨1,.uf (tg+10+n) (setF t n) [.agg x']⟩:=by
    have:=(List.of_mem_zip hp).2
    unfold setsE at this
    obtain ⟨n,_,e⟩:=List.mem_map.1 this
    exact ⟨n,e.symm⟩
   obtain ⟨n,e⟩:=this
   rw [e]
   simp only [vBlk,renB,vL,vVs,vV,setF]
   rw [rens_flat _ _ (blkO_flat ht _ 0)]
 cases m with
 | stay=>exact stay
 | same=>
  have e:=hsame rfl
  subst e
  show acts (vHp C.G H) []=merge (thO i o.b) (vHp C.G H) (can t s')
  have live:=oa_live (C:=C) ht ho hc
  have nd:=thO_nodup (objAt_ok ho).1
  have lt:=thO_lt (C:=C) ho
  unfold merge
  rw [show (can t s').length - (thO i o.b).length=0 by rw [can_len,thO_len],show (can t s').drop (thO i o.b).length=[] from List.drop_of_length_le (by rw [can_len,thO_len];omega),List.map_nil,List.append_nil]
  have ew:wide (thO i o.b) (vHp C.G H).length 0=thO i o.b:=by simp [wide]
  rw [ew]
  exact (lay_self _ _ _ _ fun k b hk=>by
   obtain ⟨b0,rfl,_,q⟩:=live k b hk
   exact q).symm
 | move=>
  unfold merge
  rw [show (mdHp t .move s').length - (thO i o.b).length=13 by show (mov t s').length - _=_;rw [mov_len,thO_len]]
  have e1:(mdHp t .move s').drop (thO i o.b).length=setsB t s':=by
   rw [thO_len]
   show (mov t s').drop 14=_
   unfold mov
   rw [List.drop_succ_cons,List.drop_left' (by simp)]
  rw [e1]
  have e2:lay (wide (thO i o.b) (vHp C.G H).length 13) (thO i o.b) (mdHp t .move s') (vHp C.G H)=((List.range 13).map (o.b+·)).foldl (fun H j=>H.set j none) ((vHp C.G H).set i (some ⟨1,t.tb (ptrs H.length s') s'⟩)):=by
   show lay _ (i::(List.range 13).map (o.b+·)) (some ⟨1,t.tb (ptrs 14 s') s'⟩::(List.replicate 13 none++setsB t s')) _=_
   simp only [lay,renO,Option.map_some,renB]
   rw [ren_tab ht (b:=14) (b':=(vHp C.G H).length) fun n hn=>thO_wide hn,hlen]
   rw [lay_more _ _ (List.replicate 13 none) (setsB t s') _ (by simp)]
   exact lay_none _ ((List.range 13).map (o.b+·)) _
  rw [e2]
  unfold objHs moveH
  simp only [List.map_cons,acts,vHop,Hop.act,vTab hx hs]
  have e3:((((List.range 13).map (o.b+·)).zip (setsE tg t x')).map (fun p=>DHop.app p.1 p.2)).map (vHop C.G)=(((List.range 13).map (o.b+·)).zip ((setsE tg t x').map (vBlk C.G))).map fun p=>Hop.app p.1 p.2:=by
   rw [List.zip_map_right,List.map_map,List.map_map]
   exact List.map_congr_left fun p _=>rfl
  rw [e3,vSets hx hs]
  have:=acts_apps ((List.range 13).map (o.b+·)) ((List.range 13).map fun n=>(⟨1,blkO t.enc (s'.sg n)⟩:Blk)) ((vHp C.G H).set i (some ⟨1,t.tb (ptrs H.length s') s'⟩)) [] (by simp) (fun j hj=>by
   rw [List.length_set]
   exact thO_lt (C:=C) ho j (by unfold thO;exact List.mem_cons_of_mem _ hj))
  rw [List.append_nil,List.nil_append] at this
  have e4:∀ θ,(setsB t s').map (renO θ)=((List.range 13).map fun n=>(⟨1,blkO t.enc (s'.sg n)⟩:Blk)).map some:=fun θ=>by
   unfold setsB
   rw [List.map_map,List.map_map]
   refine List.map_congr_left fun n _=>?_
   simp only [Function.comp,renO,Option.map_some,renB,rens_flat _ _ (blkO_flat ht (s'.sg n) 0)]
  rw [this,e4]
where
 lay_self (θ':List Nat):∀ (js:List Nat) (bs:List (Option Blk)) (H:Hp),(∀ (k:Nat) b,bs[k]?=some b→H[js.getD k 0]?=some (renO θ' b))→lay θ' js bs H=H
  | [],bs,H,h=>by cases bs<;>simp [lay]
  | j::js,[],H,h=>by simp [lay]
  | j::js,b::bs,H,h=>by
   simp only [lay]
   have h0:=h 0 b rfl
   have e:H.set j (renO θ' b)=H:=by
    have hj:H[j]?=some (renO θ' b):=h0
    obtain ⟨hlt,e⟩:=List.getElem?_eq_some_iff.1 hj
    rw [←e];exact List.set_getElem_self hlt
   rw [e]
   exact lay_self θ' js bs H fun k b hk=>h (k+1) b hk
 lay_more (θ':List Nat):∀ (js:List Nat) (bs cs:List (Option Blk)) (H:Hp),js.length=bs.length→lay θ' js (bs++cs) H=lay θ' js bs H
  | [],[],cs,H,_=>by cases cs<;>simp [lay]
  | [],b::bs,cs,H,h=>by simp at h
  | j::js,[],cs,H,h=>by simp at h
  | j::js,b::bs,cs,H,h=>by
   simp only [List.cons_append,lay]
   exact lay_more θ' js bs cs _ (by simpa using h)
theorem objS_ok {tg:Nat} {t:TS} (ht:TSOk t) {m:Md2} {f:FuncId} {k:EL→List EV→Option (EV×EL)}
  (h:∀ x rest v x' s,k x rest=some (v,x')→vL C.G x=encX s→Wf s→bnds 0 (vVs C.G rest)=true∧bnd 0 (vV C.G v)=true∧∃ s',vL C.G x'=encX s'∧thin s'∧(m=.same→s'=s)∧
   ACalls C f (.ptr (.rw 0) 0::vVs C.G rest) (can t s) fun v' H'=>v'=vV C.G v∧H'=mdHp t m s'):DSumOk C f (objS tg t m k):=by
 intro args H o ho
 unfold objS objQ at ho
 split at ho
 ·rename_i i rest
  split at ho
  ·rename_i oa hoa
   split at ho
   ·rename_i v x' hk
    simp only [Option.some.injEq] at ho
    subst ho
    intro h1
    have h1:okObj t [.int .i64 (oa.b:Int),.agg (vL C.G oa.x),.tup (vVs C.G (.agg oa.c0::oa.cs.map EV.agg))]=true:=h1
    obtain ⟨s,hw,hx,hc⟩:=okObj_iff.1 h1
    rw [Int.toNat_natCast] at hc
    obtain ⟨q1,q2,s',q3,q4,q5,q6⟩:=h oa.x rest v x' s hk hx hw
    refine DOut.fr (θ:=thO i oa.b) (H0:=can t s) (H1:=mdHp t m s') (thO_nodup (objAt_ok hoa).1) (by rw [thO_len,can_len]) (oa_live ht hoa hc) ?_ ?_ q6 ?_ ?_ ?_ ?_ (objHs_ok ht hoa hc m q3 q4 q5)
    ·simp only [bnds,bnd,thO_len,Bool.and_eq_true]
     exact ⟨rfl,bnds_mono (Nat.zero_le _) _ q1⟩
    ·simp only [vVs,vV,vR,vN,rens,ren,rens_flat _ _ q1];rfl
    ·cases m<;>simp [mdHp,can_len,mov_len]
    ·exact bnd_mono (Nat.zero_le _) _ q2
    ·cases m with
     | move=>show hpB (mov t s').length (mov t s')=true;rw [mov_len];exact mov_hpB ht s'
     | stay=>show hpB (can t s').length (can t s')=true;rw [can_len];exact can_hpB ht s'
     | same=>show hpB (can t s').length (can t s')=true;rw [can_len];exact can_hpB ht s'
    ·exact (ren_flat _ _ q2).symm
   ·simp at ho
  ·simp at ho
 ·simp at ho
end Go.Am
namespace Go.Am
open Crc
variable {C:Ctx}
def rw13 (X:EL):DHp:=[some ⟨1,.row X (.lit 0)⟩,some ⟨1,.row X (.lit 1)⟩,some ⟨1,.row X (.lit 2)⟩,some ⟨1,.row X (.lit 3)⟩,some ⟨1,.row X (.lit 4)⟩,some ⟨1,.row X (.lit 5)⟩,some ⟨1,.row X (.lit 6)⟩,some ⟨1,.row X (.lit 7)⟩,some ⟨1,.row X (.lit 8)⟩,some ⟨1,.row X (.lit 9)⟩,some ⟨1,.row X (.lit 10)⟩,some ⟨1,.row X (.lit 11)⟩,some ⟨1,.row X (.lit 12)⟩]
def hp3 (a:DHp) (X:EL) (b:DHp):DHp:=a++(rw13 X++b)
def tp3 (a:List AV) (l:List AV) (b:List AV):List AV:=a++(((List.range 13).map fun n=>.tup [.int .i64 1,.agg (rowA l n)])++b)
def setL (x:List AV):Hp:=(List.range 13).map fun n=>some ⟨1,setF tsP n [.agg x]⟩
def objL (b:Int) (x:List AV):Hp:=some ⟨1,tabF tsP [.int .i64 b,.agg x]⟩::setL x
def setU (x:List AV):Hp:=(List.range 13).map fun n=>some ⟨1,setF tsR n [.agg x]⟩
def objU (b:Int) (x:List AV):Hp:=some ⟨1,tabF tsR [.int .i64 b,.agg x]⟩::setU x
def rp (k:Nat) (l:List AV):List AV:=List.replicate k (.agg l)
def rows13 (sl:List AV):Hp:=(List.range 13).map fun n=>some ⟨1,rowA sl n⟩
def isP (s:Ptb) (n:Int):Bool:=decide (1≤n)&&(decide (n≤12)&&(s.at_ n.toNat).num==n)
def live (s:Ptb) (n:Int):Bool:=isP s n&&!(s.at_ n.toNat).en
theorem isP_iff {s:Ptb} {n:Int}:isP s n=true↔1≤n∧n≤12∧(s.at_ n.toNat).num=n:=by
 simp only [isP,Bool.and_eq_true,decide_eq_true_eq,beq_iff_eq]
theorem live_iff {s:Ptb} {n:Int}:live s n=true↔1≤n∧n≤12∧(s.at_ n.toNat).num=n∧(s.at_ n.toNat).en=false:=by
 simp only [live,Bool.and_eq_true,isP_iff,Bool.not_eq_true']
 exact ⟨fun ⟨⟨a,b,c⟩,d⟩=>⟨a,b,c,d⟩,fun ⟨a,b,c,d⟩=>⟨⟨a,b,c⟩,d⟩⟩
theorem Wf.there {s:Ptb} (h:Wf s) {n:Nat} (hn:(s.at_ n).num≠0):(s.at_ n).num=(n:Int)∧1≤n∧n≤12∧∃ p,s.sg n=some p:=by
 rcases h.p n with ⟨e,_⟩ | ⟨a,b,c,d,_⟩
 ·rw [e] at hn;exact absurd rfl hn
 ·exact ⟨a,b,c,Option.isSome_iff_exists.1 d⟩
theorem Wf.isP {s:Ptb} (h:Wf s) (n:Nat):Go.Am.isP s (n:Int)=true↔(s.at_ n).num≠0:=by
 rw [isP_iff,Int.toNat_natCast]
 constructor
 ·rintro ⟨a,b,c⟩ e;omega
 ·intro e
  obtain ⟨a,b,c,_⟩:=h.there e
  exact ⟨by omega,by omega,a⟩
theorem Wf.live_sg {s:Ptb} (h:Wf s) {n:Int} (hl:Go.Am.isP s n=true):∃ p,s.sg n.toNat=some p:=by
 have:=isP_iff.1 hl
 exact (h.there (n:=n.toNat) (by omega)).2.2.2
theorem Wf.upd {s:Ptb} (h:Wf s) {c:Nat} {x:Pc} (hc:(s.at_ c).num≠0) (h1:x.num=(s.at_ c).num) (h2:1≤x.grp∧x.grp≤12) (h3:c=1→x.par=0):Wf (updC s c x):=by
 obtain ⟨a1,a2,a3,p,a4⟩:=h.there hc
 refine ⟨fun n hn=>?_,fun n=>?_,?_⟩
 ·obtain ⟨b1,b2⟩:=h.z n hn
  refine ⟨?_,b2⟩
  show (if n=c then x else s.at_ n)=zc
  rw [if_neg (by omega)];exact b1
 ·show ((if n=c then x else s.at_ n)=zc∧s.sg n=none)∨((if n=c then x else s.at_ n).num=(n:Int)∧1≤n∧n≤12∧(s.sg n).isSome=true∧1≤(if n=c then x else s.at_ n).grp∧(if n=c then x else s.at_ n).grp≤12)
  by_cases e:n=c
  ·subst e
   rw [if_pos rfl]
   exact .inr ⟨by rw [h1,a1],a2,a3,by rw [a4];rfl,h2.1,h2.2⟩
  ·rw [if_neg e];exact h.p n
 ·show (if 1=c then x else s.at_ 1).num=1∧(if 1=c then x else s.at_ 1).par=0
  by_cases e:1=c
  ·subst e
   rw [if_pos rfl]
   exact ⟨by rw [h1,h.one.1],h3 rfl⟩
  ·rw [if_neg e];exact h.one
theorem Wf.updS {s:Ptb} (h:Wf s) {c:Nat} {p:Sg} (hc:(s.at_ c).num≠0):Wf (updS s c (some p)):=by
 obtain ⟨a1,a2,a3,p0,a4⟩:=h.there hc
 refine ⟨fun n hn=>?_,fun n=>?_,h.one⟩
 ·obtain ⟨b1,b2⟩:=h.z n hn
  refine ⟨b1,?_⟩
  show (if n=c then some p else s.sg n)=none
  rw [if_neg (by omega)];exact b2
 ·show (s.at_ n=zc∧(if n=c then some p else s.sg n)=none)∨((s.at_ n).num=(n:Int)∧1≤n∧n≤12∧(if n=c then some p else s.sg n).isSome=true∧1≤(s.at_ n).grp∧(s.at_ n).grp≤12)
  by_cases e:n=c
  ·subst e
   rw [if_pos rfl]
   rcases h.p n with ⟨e2,_⟩ | ⟨b1,b2,b3,_,b5⟩
   ·rw [e2] at hc;exact absurd rfl hc
   ·exact .inr ⟨b1,b2,b3,rfl,b5⟩
  ·rw [if_neg e];exact h.p n
def freeX (s:Ptb) (c:Nat):Ptb:=⟨fun j=>if j=c then zc else s.at_ j,fun j=>if j=c then none else s.sg j⟩
theorem Wf.free {s:Ptb} (h:Wf s) {c:Nat} (hc:c≠1):Wf (freeX s c):=by
 refine ⟨fun n hn=>?_,fun n=>?_,?_⟩
 ·obtain ⟨b1,b2⟩:=h.z n hn
  show (if n=c then zc else s.at_ n)=zc∧(if n=c then none else s.sg n)=none
  by_cases e:n=c
  ·rw [if_pos e,if_pos e];exact ⟨rfl,rfl⟩
  ·rw [if_neg e,if_neg e];exact ⟨b1,b2⟩
 ·show ((if n=c then zc else s.at_ n)=zc∧(if n=c then none else s.sg n)=none)∨((if n=c then zc else s.at_ n).num=(n:Int)∧1≤n∧n≤12∧(if n=c then none else s.sg n).isSome=true∧1≤(if n=c then zc else s.at_ n).grp∧(if n=c then zc else s.at_ n).grp≤12)
  by_cases e:n=c
  ·rw [if_pos e,if_pos e];exact .inl ⟨rfl,rfl⟩
  ·rw [if_neg e,if_neg e];exact h.p n
 ·show (if 1=c then zc else s.at_ 1).num=1∧(if 1=c then zc else s.at_ 1).par=0
  rw [if_neg (fun e=>hc e.symm)];exact h.one
def sgD (s:Ptb) (n:Nat):Sg:=(s.sg n).getD zeroP
def groupE (s:Ptb) (n g:Int):Int:=if live s n then (if g<1∨12<g then 2 else 0) else 6
def groupX (s:Ptb) (n g:Int):Ptb:=if live s n then (if g<1∨12<g then s else updC s n.toNat { s.at_ n.toNat with grp:=g }) else s
def userE (s:Ptb) (n a:Int):Int:=if live s n then (if a<0∨65535<a then 2 else if (s.at_ n.toNat).usr=0 then 0 else 8) else 6
def userX (s:Ptb) (n a:Int):Ptb:=if live s n then (if a<0∨65535<a then s else if (s.at_ n.toNat).usr=0 then updC s n.toNat { s.at_ n.toNat with usr:=a } else s) else s
def maskV (s:Ptb) (n:Int):Int:=if live s n then u (sgD s n.toNat).hd else 0
def askE (s:Ptb) (n:Int):Int:=if live s n then 0 else 6
def tellX (s:Ptb) (n:Int):Pc:=if isP s n then s.at_ n.toNat else zc
def maskX (s:Ptb) (n a:Int):Ptb:=if live s n then updS s n.toNat (some (mask (sgD s n.toNat) a)) else s
def handV (s:Ptb) (n i a:Int):Int:=if live s n then (if i<0∨15<i then 0 else handleV (sgD s n.toNat) i a) else 0
def handE (s:Ptb) (n i a:Int):Int:=if live s n then (if i<0∨15<i then 2 else if handleE i a then 2 else 0) else 6
def handX (s:Ptb) (n i a:Int):Ptb:=if live s n then (if i<0∨15<i then s else updS s n.toNat (some (handleX (sgD s n.toNat) i a))) else s
theorem Wf.groupX {s:Ptb} (h:Wf s) (n g:Int):Wf (groupX s n g):=by
 unfold Go.Am.groupX
 split
 ·rename_i hl
  have hl:=live_iff.1 hl
  split
  ·exact h
  ·have hne:(s.at_ n.toNat).num≠0:=by omega
   exact h.upd hne rfl ⟨by show 1≤g;omega,by show g≤12;omega⟩ fun e=>by
    show (s.at_ n.toNat).par=0
    rw [e];exact h.one.2
 ·exact h
theorem Wf.grp {s:Ptb} (h:Wf s) {n:Nat} (hn:(s.at_ n).num≠0):1≤(s.at_ n).grp∧(s.at_ n).grp≤12:=by
 rcases h.p n with ⟨e,_⟩ | ⟨_,_,_,_,e,f⟩
 ·rw [e] at hn;exact absurd rfl hn
 ·exact ⟨e,f⟩
theorem Wf.userX {s:Ptb} (h:Wf s) (n g:Int):Wf (userX s n g):=by
 unfold Go.Am.userX
 split
 ·rename_i hl
  have hl:=live_iff.1 hl
  have hne:(s.at_ n.toNat).num≠0:=by omega
  split
  ·exact h
  ·split
   ·exact h.upd hne rfl (h.grp hne) fun e=>by
     show (s.at_ n.toNat).par=0
     rw [e];exact h.one.2
   ·exact h
 ·exact h
theorem Wf.maskX {s:Ptb} (h:Wf s) (n g:Int):Wf (maskX s n g):=by
 unfold Go.Am.maskX
 split
 ·rename_i hl
  have hl:=live_iff.1 hl
  exact h.updS (by omega)
 ·exact h
theorem Wf.handX {s:Ptb} (h:Wf s) (n i g:Int):Wf (handX s n i g):=by
 unfold Go.Am.handX
 split
 ·rename_i hl
  have hl:=live_iff.1 hl
  split
  ·exact h
  ·exact h.updS (by omega)
 ·exact h
theorem seen_rows {t:TS} {s':Ptb} {l:List AV} {sl:List AV} (hT:l=t.tb (ptrs 1 s') s') (ht:TSOk t) (hS:∀ n,n<13→∀ p,s'.sg n=some p→rowA sl n=t.enc p):Seen t s' 13 (some ⟨1,l⟩::(List.range 13).map fun n=>some ⟨1,rowA sl n⟩):=by
 refine ⟨by simp,?_,fun n hn=>⟨rowA sl n,?_,hS n hn⟩⟩
 ·rw [List.getElem?_cons_zero,hT]
  congr 3
  refine ht.congr _ _ _ fun n hn=>?_
  unfold ptrs ptrO
  split
  ·rename_i e;rw [e]
  ·rename_i e;rw [e];simp only;rw [if_neg (by omega)]
 ·rw [if_neg (by omega),Nat.add_comm,List.getElem?_cons_succ,List.getElem?_map,List.getElem?_range hn];rfl
theorem Seen.more {t:TS} {s:Ptb} {c:Nat} {H:Hp} {k:Nat} (h:Seen t s c (H.take k)):Seen t s c H:=by
 have g:∀ {i:Nat} {b},(H.take k)[i]?=some b→H[i]?=some b:=fun {i b} hb=>by
  rw [List.getElem?_take] at hb
  split at hb
  ·exact hb
  ·cases hb
 refine ⟨?_,g h.tab,fun n hn=>?_⟩
 ·have:=h.len
  rw [List.length_take] at this
  omega
 ·obtain ⟨cs,q1,q2⟩:=h.sets n hn
  exact ⟨cs,g q1,q2⟩
theorem pm_stay {t:TS} (ht:TSOk t) {f:FuncId} {args:List AV} {s s':Ptb} {v:AV} {k:Nat} (h:ACalls C f args (can t s) fun v' H'=>v'=v∧Seen t s' 13 (H'.take k)) (hv:bnd 0 v=true):ACalls C f args (can t s) fun v' H'=>v'=v∧H'=can t s':=
 h.view fun v' H' ⟨e,q⟩=>⟨v,can t s',⟨rfl,rfl⟩,by subst e;rw [can_len];exact q.more.stay ht hv⟩
theorem SeenQ.more {t:TS} {s:Ptb} {c q:Nat} {H:Hp} {k:Nat} (h:SeenQ t s c q (H.take k)):SeenQ t s c q H:=by
 have g:∀ {i:Nat} {b},(H.take k)[i]?=some b→H[i]?=some b:=fun {i b} hb=>by
  rw [List.getElem?_take] at hb
  split at hb
  ·exact hb
  ·cases hb
 refine ⟨?_,g h.tab,fun n hn=>?_⟩
 ·have:=h.len
  rw [List.length_take] at this
  omega
 ·obtain ⟨cs,q1,q2⟩:=h.sets n hn
  exact ⟨cs,g q1,q2⟩
theorem Seen.q {t:TS} (ht:TSOk t) {s:Ptb} {H:Hp} (h:Seen t s 13 H) (q:Nat):SeenQ t s 13 q H:=by
 refine ⟨h.len,?_,fun n hn=>?_⟩
 ·rw [h.tab]
  congr 3
  refine ht.congr _ _ _ fun n hn=>?_
  cases s.sg n with
  | none=>rfl
  | some p=>simp only;rw [if_neg (by omega),if_neg (by omega)]
 ·have:=h.sets n hn
  rw [if_neg (by omega)] at this
  rw [if_neg (by omega)];exact this
theorem pm_move {t:TS} (ht:TSOk t) {f:FuncId} {args:List AV} {s s':Ptb} {v:AV} {k q:Nat} (hq:14≤q) (h:ACalls C f args (can t s) fun v' H'=>v'=v∧(Seen t s' 13 (H'.take k)∨∃ c,SeenQ t s' c q (H'.take k)∧q<(H'.take k).length)) (hv:bnd 0 v=true):ACalls C f args (can t s) fun v' H'=>v'=v∧H'=mov t s':=
 h.view fun v' H' ⟨e,h2⟩=>⟨v,mov t s',⟨rfl,rfl⟩,by
  subst e;rw [can_len]
  rcases h2 with h2 | ⟨c,h2,h3⟩
  ·exact (h2.more.q ht q).move ht hq (fun h=>absurd rfl h) hv
  ·refine h2.more.move ht hq (fun _=>?_) hv
   rw [List.length_take] at h3
   omega⟩
theorem hp_can {t:TS} {s:Ptb}:(some ⟨1,t.tb (ptrs 1 s) s⟩::(List.range 13).map fun n=>some (⟨1,rowA (setsL t.enc s) n⟩:Blk))=can t s:=by
 unfold can setsB
 refine congrArg (List.cons _) (List.map_congr_left fun n hn=>?_)
 rw [rowA_sets (List.mem_range.1 hn)]
theorem sets_same {t:TS} {s s':Ptb} (h:∀ n p,s'.sg n=some p→s.sg n=some p):∀ n,n<13→∀ p,s'.sg n=some p→rowA (setsL t.enc s) n=t.enc p:=fun n hn p hp=>by
 rw [rowA_sets hn,h n p hp];rfl
theorem sets_put {t:TS} {s:Ptb} {c:Nat} {q:Sg}:∀ n,n<13→∀ p,(updS s c (some q)).sg n=some p→rowA (putA (setsL t.enc s) c (t.enc q)) n=t.enc p:=fun n hn p hp=>by
 have hp:(if n=c then some q else s.sg n)=some p:=hp
 unfold rowA putA
 rw [List.getElem?_set]
 by_cases e:c=n
 ·subst e
  rw [if_pos rfl,setsL_len,if_pos hn]
  rw [if_pos rfl] at hp
  simp only [Option.some.injEq] at hp
  rw [hp]
 ·rw [if_neg e]
  rw [if_neg (fun h=>e h.symm)] at hp
  have:=rowA_sets (enc:=t.enc) (s:=s) hn
  unfold rowA at this
  rw [this,hp];rfl
theorem ptrs_updS {b:Nat} {s:Ptb} {c:Nat} {q p:Sg} (h:s.sg c=some p):ptrs b (updS s c (some q))=ptrs b s:=by
 funext n
 show ptrO b n (if n=c then some q else s.sg n)=ptrO b n (s.sg n)
 by_cases e:n=c
 ·subst e;rw [if_pos rfl,h];rfl
 ·rw [if_neg e]
theorem ptr_nil {l:List AV} {o b n:Nat} {x:Option Sg} (h:l[o]?=some (ptrO b n x)):isNilA l o=x.isNone:=by
 unfold isNilA
 rw [h]
 cases x<;>rfl
theorem ptr_fam {l:List AV} {o b n:Nat} {x:Option Sg} (hn:n<13) (h:l[o]?=some (ptrO b n x)) (hx:x.isSome=true):isPA b 13 l o=true∧fkA b l o=n∧foA l o=0:=by
 obtain ⟨p,rfl⟩:=Option.isSome_iff_exists.1 hx
 refine ⟨?_,?_,?_⟩
 ·unfold isPA
  rw [h]
  simp only [ptrO,Bool.and_eq_true]
  exact ⟨Nat.ble_eq_true_of_le (by omega),Nat.ble_eq_true_of_le (by omega)⟩
 ·unfold fkA
  rw [h]
  simp only [ptrO];omega
 ·unfold foA
  rw [h];rfl
theorem rowsA_same (l:List AV) (k:Nat):rowsA l (List.replicate k (.agg l))=true:=by
 unfold rowsA
 simp only [decide_eq_true_eq]
 exact fun v hv=>(List.mem_replicate.1 hv).2
theorem enc_free {b c:Nat} {s:Ptb} (hc:c<13):setPart (encT b s) (c*7+1) (.agg (rowT zc .nilp))=encT b (freeX s c):=by
 rw [encT_V,V_row hc,encT_V]
 unfold encV
 congr 1
 refine tabL_congr fun a j _ _=>?_
 show fcell (if a=c then zc else s.at_ a) (if a=c then .nilp else ptrO b a (s.sg a)) j=fcell (if a=c then zc else s.at_ a) (ptrO b a (if a=c then none else s.sg a)) j
 by_cases e:a=c
 ·rw [if_pos e,if_pos e,if_pos e];rfl
 ·rw [if_neg e,if_neg e,if_neg e]
def wMat (w:Int) (c:Nat):Bool:=w==-1||w==(c:Int)
def wHit (s:Ptb) (w:Int) (c:Nat):Bool:=wMat w c&&(s.at_ c).en
theorem nl_at {l:List Nat} {i:Nat} (h:i<l.length):(nl l)[i]?=some (.int .i64 (l[i]:Int)):=by
 unfold nl
 rw [List.getElem?_map,List.getElem?_eq_getElem h];rfl
theorem nl_getI {l:List Nat} {i:Nat} (h:i<l.length):isI .i64 (nl l) i=true∧getI (nl l) i=(l[i]:Int):=by simp [isI,getI,nl_at h]
end Go.Am
namespace Go.Am
open Crc
variable {C:Ctx}
theorem encP_inj {p q:Sg} (h:encP p=encP q):p=q:=by rw [←decP_enc p,h,decP_enc]
structure TSInj (t:TS):Prop where
 enc:∀ p q,t.enc p=t.enc q→p=q
 at_:∀ p q s s',t.tb p s=t.tb q s'→∀ n,n<13→s.at_ n=s'.at_ n∧p n=q n
theorem Pc.eta {x y:Pc} (h0:x.num=y.num) (h1:x.par=y.par) (h2:x.grp=y.grp) (h3:x.usr=y.usr) (h4:x.en=y.en) (h5:x.st=y.st):x=y:=by
 cases x;cases y;simp only at *;subst h0 h1 h2 h3 h4 h5;rfl
theorem fcell_inj {x y:Pc} {v w:AV} (h:∀ k,k<6→fcell x v k=fcell y w k):x=y:=by
 have h0:=h 0 (by omega)
 have h1:=h 1 (by omega)
 have h2:=h 2 (by omega)
 have h3:=h 3 (by omega)
 have h4:=h 4 (by omega)
 have h5:=h 5 (by omega)
 simp only [fcell,AV.int.injEq,AV.bool.injEq,true_and] at h0 h1 h2 h3 h4 h5
 exact Pc.eta h0 h1 h2 h3 h4 h5
theorem tsP_inj:TSInj tsP:=by
 refine ⟨fun p q h=>encP_inj h,fun p q s s' h n hn=>?_⟩
 have g:∀ k,k<7→fcell (s.at_ n) (p n) k=fcell (s'.at_ n) (q n) k:=fun k hk=>by
  have h:encV p s=encV q s':=h
  have a:(encV p s)[n*7+(k+1)]?=some (fcell (s.at_ n) (p n) k):=by
   unfold encV
   rw [show n*7+(k+1)=(n*7+k)+1 by omega,List.getElem?_cons_succ,tabL_get hn hk]
  have b:(encV q s')[n*7+(k+1)]?=some (fcell (s'.at_ n) (q n) k):=by
   unfold encV
   rw [show n*7+(k+1)=(n*7+k)+1 by omega,List.getElem?_cons_succ,tabL_get hn hk]
  rw [h,b] at a
  exact (Option.some.inj a).symm
 exact ⟨fcell_inj fun k hk=>g k (by omega),g 6 (by omega)⟩
theorem tsR_inj:TSInj tsR:=by
 refine ⟨fun p q h=>encR_inj h,fun p q s s' h n hn=>?_⟩
 have h:encW p s=encW q s':=h
 unfold encW at h
 obtain ⟨h1,h2⟩:=List.append_inj h (by simp [tabL_len])
 have g:∀ k,k<6→fcell (s.at_ n) .undef k=fcell (s'.at_ n) .undef k:=fun k hk=>by
  have a:=tabL_get (f:=fun n=>fcell (s.at_ n) .undef) hn hk
  have b:=tabL_get (f:=fun n=>fcell (s'.at_ n) .undef) hn hk
  rw [h1,b] at a
  exact (Option.some.inj a).symm
 refine ⟨fcell_inj g,?_⟩
 have:=congrArg (fun l:List AV=>l[n]?) h2
 simpa [List.getElem?_map,List.getElem?_range hn] using this
theorem can_inj {t:TS} (ht:TSInj t) {s s':Ptb} (h1:thin s) (h2:thin s') (h3:t.tb (ptrs 1 s) s=t.tb (ptrs 1 s') s') (h4:setsL t.enc s=setsL t.enc s'):s=s':=by
 refine Ptb.ext' (fun n=>?_) fun n=>?_
 ·by_cases hn:n<13
  ·exact (ht.at_ _ _ _ _ h3 n hn).1
  ·rw [(h1 n (by omega)).1,(h2 n (by omega)).1]
 ·by_cases hn:n<13
  ·have a:=(ht.at_ _ _ _ _ h3 n hn).2
   have b:=congrArg (fun l=>rowA l n) h4
   simp only [rowA_sets hn] at b
   unfold ptrs ptrO at a
   cases e:s.sg n with
   | none=>
    rw [e] at a
    cases e':s'.sg n with
    | none=>rfl
    | some q=>rw [e'] at a;cases a
   | some p=>
    rw [e] at a
    cases e':s'.sg n with
    | none=>rw [e'] at a;cases a
    | some q=>
     rw [e,e'] at b
     rw [ht.enc p q b]
  ·rw [(h1 n (by omega)).2,(h2 n (by omega)).2]
open Classical in
noncomputable def xOf (t:TS):List AV→List AV:=fun vs=>match vs with
 | [.agg l,.agg L]=>if h:∃ s,Wf s∧l=t.tb (ptrs 1 s) s∧L=setsL t.enc s then encX (Classical.choose h) else []
 | _=>[]
open Classical in
noncomputable def okTF (t:TS):List AV→Bool:=fun vs=>match vs with
 | [.agg l,.agg L]=>decide (∃ s,Wf s∧l=t.tb (ptrs 1 s) s∧L=setsL t.enc s)
 | _=>false
theorem okTF_iff {t:TS} {l L:List AV}:okTF t [.agg l,.agg L]=true↔∃ s,Wf s∧l=t.tb (ptrs 1 s) s∧L=setsL t.enc s:=by
 unfold okTF;simp only [decide_eq_true_eq]
theorem xOf_enc {t:TS} (ht:TSInj t) {s:Ptb} (hw:Wf s):xOf t [.agg (t.tb (ptrs 1 s) s),.agg (setsL t.enc s)]=encX s:=by
 have h:∃ s',Wf s'∧t.tb (ptrs 1 s) s=t.tb (ptrs 1 s') s'∧setsL t.enc s=setsL t.enc s':=⟨s,hw,rfl,rfl⟩
 unfold xOf
 simp only
 rw [dif_pos h]
 obtain ⟨a,b,c⟩:=Classical.choose_spec h
 exact congrArg encX (can_inj ht hw.thin a.thin b c).symm
def objF (tg:Nat) (ok:List AV→Bool) (xo:List AV→List AV) (t:TS) (m:Md2) (k:EL→List EV→Option (EV×EL)):DSum:=fun (args:List EV) (H:List (Option DBlk))=>match args with
 | .ptr (.rw 0) (.lit 0)::rest=>match H[(0:Nat)]? with
  | some (some ⟨1,l⟩)=>match famAt H 1 13 with
   | some (z1,L,ls)=>match Nat.beq z1 1 with
    | true=>match k (.uf (tg+5) xo [.agg l,.agg L]) rest with
     | some (v,x')=>some (.chk (.rows L ls) (.chk (.uf (tg+6) ok [.agg l,.agg L]) (.one v (objHs tg t m 0 1 H.length x'))))
     | none=>none
    | false=>none
   | none=>none
  | _=>none
 | _=>none
theorem fam14' {G:Nat→List AV} {H:DHp} {l L:EL} {ls:List EV} (h0:H[0]?=some (some ⟨1,l⟩)) (hf:famAt H 1 13=some (1,L,ls)) (hr:rowsA (vL G L) (vVs G ls)=true):(vHp G H).take 14=some ⟨1,vL G l⟩::(List.range 13).map fun n=>some ⟨1,rowA (vL G L) n⟩:=by
 have a0:=vHp_some (G:=G) h0
 refine List.ext_getElem? fun i=>?_
 by_cases hi:i<14
 ·rw [List.getElem?_take,if_pos hi]
  cases i with
  | zero=>rw [a0];rfl
  | succ n=>
   have:=fam_at hf hr (i:=n) (by omega)
   rw [Nat.add_comm 1 n] at this
   rw [this,List.getElem?_cons_succ,List.getElem?_map,List.getElem?_range (by omega)];rfl
 ·rw [List.getElem?_eq_none (by rw [List.length_take];omega),List.getElem?_eq_none (by simp;omega)]
theorem take_at {H:Hp} {k:Nat} {K:Hp} (h:H.take k=K) {i:Nat} {b:Option Blk} (hb:K[i]?=some b):H[i]?=some b:=by
 rw [←h,List.getElem?_take] at hb
 split at hb
 ·exact hb
 ·cases hb
theorem objHs_gen {tg:Nat} {t:TS} (ht:TSOk t) {H:DHp} {i b:Nat} {s s':Ptb} {x':EL} (hib:i<b∨b+13≤i)
  (live:∀ (k:Nat) bb,(can t s)[k]?=some bb→∃ b0,bb=some b0∧bnds (thO i b).length b0.cells=true∧(vHp C.G H)[(thO i b).getD k 0]?=some (some (renB (thO i b) b0)))
  (m:Md2) (hx:vL C.G x'=encX s') (hs:thin s') (hsame:m=.same→s'=s):acts (vHp C.G H) ((objHs tg t m i b H.length x').map (vHop C.G))=merge (thO i b) (vHp C.G H) (mdHp t m s'):=by
 have hlen:(vHp C.G H).length=H.length:=vHp_length H
 have lt:∀ j∈thO i b,j<(vHp C.G H).length:=fun j hj=>by
  obtain ⟨k,hk,e⟩:=List.getElem_of_mem hj
  rw [thO_len] at hk
  have hk2:k<(can t s).length:=by rw [can_len];exact hk
  obtain ⟨b0,_,_,q⟩:=live k _ (List.getElem?_eq_getElem hk2)
  have:=(List.getElem?_eq_some_iff.1 q).1
  have e2:(thO i b).getD k 0=j:=by simp [List.getD,e,thO_len,hk]
  rwa [e2] at this
 cases m with
 | stay=>
  unfold merge
  show acts (vHp C.G H) ((stayH tg t i b x').map (vHop C.G))=lay (wide (thO i b) (vHp C.G H).length ((can t s').length - (thO i b).length)) (thO i b) (can t s') (vHp C.G H)++((can t s').drop (thO i b).length).map _
  rw [show (can t s').length - (thO i b).length=0 by rw [can_len,thO_len],show (can t s').drop (thO i b).length=[] from List.drop_of_length_le (by rw [can_len,thO_len];omega),List.map_nil,List.append_nil]
  have e0:can t s'=((⟨1,t.tb (ptrs 1 s') s'⟩:Blk)::(List.range 13).map fun n=>⟨1,blkO t.enc (s'.sg n)⟩).map some:=by simp [can,setsB]
  rw [e0,lay_sets _ _ _ _ (by simp [thO])]
  congr 1
  have et:=ren_tab ht (s:=s') (θ:=wide (thO i b) (vHp C.G H).length 0) (b:=1) (b':=b) fun n hn=>thO_wide1 hn
  unfold stayH
  unfold thO at et ⊢
  rw [List.map_cons,List.zip_cons_cons,List.map_cons]
  congr 1
  ·simp only [vHop,vTab hx hs,renB]
   rw [et]
  ·rw [←vSets (tg:=tg) hx hs,List.zip_map_right,List.map_map,List.map_map]
   refine List.map_congr_left fun p hp=>?_
   simp only [Function.comp,vHop,Prod.map,id]
   congr 1
   have:∃ n,p.2=⟨1,.uf (tg+10+n) (setF t n) [.agg x']⟩:=by
    have:=(List.of_mem_zip hp).2
    unfold setsE at this
    obtain ⟨n,_,e⟩:=List.mem_map.1 this
    exact ⟨n,e.symm⟩
   obtain ⟨n,e⟩:=this
   rw [e]
   simp only [vBlk,renB,vL,vVs,vV,setF]
   rw [rens_flat _ _ (blkO_flat ht _ 0)]
 | same=>
  have e:=hsame rfl
  subst e
  show acts (vHp C.G H) []=merge (thO i b) (vHp C.G H) (can t s')
  unfold merge
  rw [show (can t s').length - (thO i b).length=0 by rw [can_len,thO_len],show (can t s').drop (thO i b).length=[] from List.drop_of_length_le (by rw [can_len,thO_len];omega),List.map_nil,List.append_nil]
  have ew:wide (thO i b) (vHp C.G H).length 0=thO i b:=by simp [wide]
  rw [ew]
  exact (objHs_ok.lay_self _ _ _ _ fun k bb hk=>by
   obtain ⟨b0,rfl,_,q⟩:=live k bb hk
   exact q).symm
 | move=>
  unfold merge
  rw [show (mdHp t .move s').length - (thO i b).length=13 by show (mov t s').length - _=_;rw [mov_len,thO_len]]
  have e1:(mdHp t .move s').drop (thO i b).length=setsB t s':=by
   rw [thO_len]
   show (mov t s').drop 14=_
   unfold mov
   rw [List.drop_succ_cons,List.drop_left' (by simp)]
  rw [e1]
  have e2:lay (wide (thO i b) (vHp C.G H).length 13) (thO i b) (mdHp t .move s') (vHp C.G H)=((List.range 13).map (b+·)).foldl (fun H j=>H.set j none) ((vHp C.G H).set i (some ⟨1,t.tb (ptrs H.length s') s'⟩)):=by
   show lay _ (i::(List.range 13).map (b+·)) (some ⟨1,t.tb (ptrs 14 s') s'⟩::(List.replicate 13 none++setsB t s')) _=_
   simp only [lay,renO,Option.map_some,renB]
   rw [ren_tab ht (b:=14) (b':=(vHp C.G H).length) fun n hn=>thO_wide hn,hlen]
   rw [objHs_ok.lay_more _ _ (List.replicate 13 none) (setsB t s') _ (by simp)]
   exact lay_none _ ((List.range 13).map (b+·)) _
  rw [e2]
  unfold objHs moveH
  simp only [List.map_cons,acts,vHop,Hop.act,vTab hx hs]
  have e3:((((List.range 13).map (b+·)).zip (setsE tg t x')).map (fun p=>DHop.app p.1 p.2)).map (vHop C.G)=(((List.range 13).map (b+·)).zip ((setsE tg t x').map (vBlk C.G))).map fun p=>Hop.app p.1 p.2:=by
   rw [List.zip_map_right,List.map_map,List.map_map]
   exact List.map_congr_left fun p _=>rfl
  rw [e3,vSets hx hs]
  have:=acts_apps ((List.range 13).map (b+·)) ((List.range 13).map fun n=>(⟨1,blkO t.enc (s'.sg n)⟩:Blk)) ((vHp C.G H).set i (some ⟨1,t.tb (ptrs H.length s') s'⟩)) [] (by simp) (fun j hj=>by
   rw [List.length_set]
   exact lt j (by unfold thO;exact List.mem_cons_of_mem _ hj))
  rw [List.append_nil,List.nil_append] at this
  have e4:∀ θ,(setsB t s').map (renO θ)=((List.range 13).map fun n=>(⟨1,blkO t.enc (s'.sg n)⟩:Blk)).map some:=fun θ=>by
   unfold setsB
   rw [List.map_map,List.map_map]
   refine List.map_congr_left fun n _=>?_
   simp only [Function.comp,renO,Option.map_some,renB,rens_flat _ _ (blkO_flat ht (s'.sg n) 0)]
  rw [this,e4]
theorem objF_ok {tg:Nat} {t:TS} (ht:TSOk t) (hi:TSInj t) {m:Md2} {f:FuncId} {k:EL→List EV→Option (EV×EL)}
  (h:∀ x rest v x' s,k x rest=some (v,x')→vL C.G x=encX s→Wf s→bnds 0 (vVs C.G rest)=true∧bnd 0 (vV C.G v)=true∧∃ s',vL C.G x'=encX s'∧thin s'∧(m=.same→s'=s)∧
   ACalls C f (.ptr (.rw 0) 0::vVs C.G rest) (can t s) fun v' H'=>v'=vV C.G v∧H'=mdHp t m s'):DSumOk C f (objF tg (okTF t) (xOf t) t m k):=by
 intro args H o ho
 unfold objF at ho
 split at ho
 ·rename_i rest
  split at ho
  ·rename_i l h0
   split at ho
   ·rename_i z1 L ls hf
    split at ho
    ·rename_i hz
     have hz:=Nat.eq_of_beq_eq_true hz
     subst hz
     split at ho
     ·rename_i v x' hk
      simp only [Option.some.injEq] at ho
      subst ho
      intro hr h1
      have hr:rowsA (vL C.G L) (vVs C.G ls)=true:=hr
      have h1:okTF t [.agg (vL C.G l),.agg (vL C.G L)]=true:=h1
      obtain ⟨s,hw,hl,hL⟩:=okTF_iff.1 h1
      have hx:vL C.G (.uf (tg+5) (xOf t) [.agg l,.agg L])=encX s:=by
       simp only [vL,vVs,vV,hl,hL]
       exact xOf_enc hi hw
      have t14:=fam14' (G:=C.G) h0 hf hr
      rw [hl,hL,hp_can] at t14
      have fx:∀ i,i<14→(thO 0 1).getD i 0=i:=(by decide:∀ i,i<14→(thO 0 1).getD i 0=i)
      have live:∀ (k:Nat) b,(can t s)[k]?=some b→∃ b0,b=some b0∧bnds (thO 0 1).length b0.cells=true∧(vHp C.G H)[(thO 0 1).getD k 0]?=some (some (renB (thO 0 1) b0)):=fun k b hb=>by
       have hlt:=(List.getElem?_eq_some_iff.1 hb).1
       rw [can_len] at hlt
       rw [fx k hlt,take_at t14 hb]
       by_cases hk0:k=0
       ·subst hk0
        simp only [can,List.getElem?_cons_zero,Option.some.injEq] at hb
        subst hb
        refine ⟨_,rfl,by rw [thO_len];exact ht.bnd 14 (ptrs 1 s) s fun n hn=>bnd_ptrs (by omega) n hn,?_⟩
        simp only [renB,ren_tab ht (θ:=thO 0 1) (b:=1) (b':=1) fun n hn=>thO_get hn]
       ·obtain ⟨n,rfl⟩:∃ n,k=1+n:=⟨k - 1,by omega⟩
        rw [can_get (by omega)] at hb
        simp only [Option.some.injEq] at hb
        subst hb
        exact ⟨_,rfl,blkO_flat ht _ _,by simp only [renB,rens_flat _ _ (blkO_flat ht _ 0)]⟩
      obtain ⟨q1,q2,s',q3,q4,q5,q6⟩:=h _ rest v x' s hk hx hw
      refine DOut.fr (θ:=thO 0 1) (H0:=can t s) (H1:=mdHp t m s') (thO_nodup (.inl (by omega))) (by rw [thO_len,can_len]) live ?_ ?_ q6 ?_ ?_ ?_ ?_ (objHs_gen ht (.inl (by omega)) live m q3 q4 q5)
      ·simp only [bnds,bnd,thO_len,Bool.and_eq_true]
       exact ⟨rfl,bnds_mono (Nat.zero_le _) _ q1⟩
      ·simp only [vVs,vV,vR,vN,rens,ren,rens_flat _ _ q1];rfl
      ·cases m<;>simp [mdHp,can_len,mov_len]
      ·exact bnd_mono (Nat.zero_le _) _ q2
      ·cases m with
       | move=>show hpB (mov t s').length (mov t s')=true;rw [mov_len];exact mov_hpB ht s'
       | stay=>show hpB (can t s').length (can t s')=true;rw [can_len];exact can_hpB ht s'
       | same=>show hpB (can t s').length (can t s')=true;rw [can_len];exact can_hpB ht s'
      ·exact (ren_flat _ _ q2).symm
     ·simp at ho
    ·simp at ho
   ·simp at ho
  ·simp at ho
 ·simp at ho
structure SeenB (t:TS) (s:Ptb) (b:Nat) (H:Hp):Prop where
 tab:H[0]?=some (some ⟨1,t.tb (ptrs b s) s⟩)
 sets:∀ n,n<13→∃ cs,H[b+n]?=some (some ⟨1,cs⟩)∧∀ p,s.sg n=some p→cs=t.enc p
theorem SeenB.move {t:TS} (ht:TSOk t) {s:Ptb} {b:Nat} {H:Hp} {v:AV} (h:SeenB t s b H) (hb14:14≤b) (hv:bnd 0 v=true):View 14 [v] (mov t s) [v] H:=by
 let θ:List Nat:=List.range 14++(List.range 13).map (b+·)
 have lθ:θ.length=27:=by simp [θ]
 have hlen:b+13≤H.length:=by
  obtain ⟨cs,q,_⟩:=h.sets 12 (by omega)
  have:=(List.getElem?_eq_some_iff.1 q).1
  omega
 have g:∀ i,i<14→θ.getD i 0=i:=fun i hi=>by
  simp only [θ,List.getD]
  rw [List.getElem?_append_left (by simpa using hi)];simp [hi]
 have g2:∀ n,n<13→θ.getD (14+n) 0=b+n:=fun n hn=>by
  simp only [θ,List.getD]
  rw [List.getElem?_append_right (by simp),List.length_range,Nat.add_sub_cancel_left,List.getElem?_map,List.getElem?_range hn];rfl
 have live:∀ (i:Nat) b,(mov t s)[i]?=some (some b)→i=0∨∃ n,n<13∧i=14+n:=fun i b hb=>by
  have hi:=(List.getElem?_eq_some_iff.1 hb).1
  rw [mov_len] at hi
  by_cases h0:i=0
  ·exact .inl h0
  ·by_cases h1:i<14
   ·obtain ⟨n,rfl⟩:∃ n,i=1+n:=⟨i - 1,by omega⟩
    rw [mov_none (by omega)] at hb;cases hb
   ·exact .inr ⟨i - 14,by omega,by omega⟩
 refine ⟨θ,by rw [mov_len,lθ],by rw [mov_len];omega,g,fun i hi=>?_,fun i j b b' h1 h2 he=>?_,fun i bb hb=>?_,rfl,fun k w hk=>?_⟩
 ·rw [lθ] at hi
  by_cases h1:i<14
  ·rw [g i h1];omega
  ·obtain ⟨n,rfl⟩:∃ n,i=14+n:=⟨i - 14,by omega⟩
   rw [g2 n (by omega)];omega
 ·rcases live i b h1 with rfl | ⟨n,hn,rfl⟩
  ·rcases live j b' h2 with rfl | ⟨m,hm,rfl⟩
   ·rfl
   ·rw [g 0 (by omega),g2 m hm] at he;omega
  ·rcases live j b' h2 with rfl | ⟨m,hm,rfl⟩
   ·rw [g 0 (by omega),g2 n hn] at he;omega
   ·rw [g2 n hn,g2 m hm] at he;omega
 ·rcases live i bb hb with rfl | ⟨n,hn,rfl⟩
  ·rw [g 0 (by omega)]
   simp only [mov,List.getElem?_cons_zero,Option.some.injEq] at hb
   subst hb
   have er:rens θ (t.tb (ptrs 14 s) s)=t.tb (ptrs b s) s:=ren_tab ht g2
   refine ⟨_,h.tab,?_,BlkV_of rfl rfl fun k w hk=>?_⟩
   ·show (t.tb _ s).length≤(t.tb _ s).length
    rw [←er,rens_eq];simp
   ·have hb:=ht.bnd 27 (ptrs 14 s) s fun n hn=>bnd_ptrs (by omega) n hn
    rw [bnds_eq,List.all_eq_true] at hb
    have hk:(t.tb (ptrs 14 s) s)[k]?=some w:=hk
    refine ⟨by rw [lθ];exact hb w (List.mem_of_getElem? hk),?_⟩
    show (t.tb _ s)[k]?=_
    rw [←er,rens_eq,List.getElem?_map,hk];rfl
  ·rw [g2 n hn]
   rw [mov_get hn] at hb
   simp only [Option.some.injEq] at hb
   subst hb
   obtain ⟨cs,q1,q2⟩:=h.sets n hn
   cases e:s.sg n with
   | none=>exact ⟨_,q1,Nat.zero_le _,BlkV_of rfl rfl fun k w hk=>by simp [blkO] at hk⟩
   | some p=>
    have:=q2 p e
    subst this
    refine ⟨_,q1,Nat.le_refl _,BlkV_of rfl rfl fun k w hk=>?_⟩
    have hk:(t.enc p)[k]?=some w:=hk
    obtain ⟨a1,a2⟩:=flat_cells (ht.flatE p 0) θ hk
    exact ⟨a1,by rw [a2];exact hk⟩
 ·cases k with
  | zero=>simp at hk;subst hk;exact ⟨bnd_mono (Nat.zero_le _) _ hv,.inr (by rw [ren_flat _ _ hv];rfl)⟩
  | succ k=>simp at hk
end Go.Am
namespace Go.Am
open Crc
theorem W_row {p:Nat→AV} {n:Nat} {s:Ptb} {x:Pc} (hn:n<13):setPart (encW p s) (n*6) (.agg (rowU x))=encW p (updC s n x):=by
 show spl (encW p s) (n*6) (rowU x)=_
 have hl:(tabL 13 6 fun n=>fcell (s.at_ n) .undef).length=78:=by rw [tabL_len]
 have e:spl (encW p s) (n*6) (rowU x)=spl (tabL 13 6 fun n=>fcell (s.at_ n) .undef) (n*6) (rowU x)++(List.range 13).map p:=by
  have hr:(rowU x).length=6:=rfl
  unfold spl encW
  rw [List.take_append_of_le_length (by rw [hl];omega),List.drop_append_of_le_length (by rw [hl,hr];omega)]
  simp only [List.append_assoc]
 rw [e,tabL_row (z:=6) hn rfl]
 unfold encW
 congr 1
 refine tabL_congr fun a j _ hj=>?_
 show _=fcell (if a=n then x else s.at_ a) .undef j
 by_cases c:a=n
 ·rw [if_pos c,if_pos c]
  match j,hj with
  | 0,_ | 1,_ | 2,_ | 3,_ | 4,_ | 5,_=>rfl
 ·rw [if_neg c,if_neg c]
theorem W_ptr {p:Nat→AV} {n:Nat} {s:Ptb} {v:AV} (hn:n<13) (hv:∀ l,v≠.agg l):setPart (encW p s) (n+78) v=encW (fun j=>if j=n then v else p j) s:=by
 rw [setPart_cell hv]
 unfold encW
 have hl:(tabL 13 6 fun n=>fcell (s.at_ n) .undef).length=78:=by rw [tabL_len]
 rw [List.set_append_right _ _ (by rw [hl];omega),hl,Nat.add_sub_cancel]
 congr 1
 refine List.ext_getElem? fun j=>?_
 rw [List.getElem?_set]
 simp only [List.length_map,List.length_range,List.getElem?_map]
 by_cases c:n=j
 ·subst c
  rw [if_pos rfl,if_pos hn,List.getElem?_range hn];simp
 ·rw [if_neg c]
  by_cases d:j<13
  ·rw [List.getElem?_range d]
   simp only [Option.map_some]
   rw [if_neg (fun h=>c h.symm)]
  ·rw [List.getElem?_eq_none (by simpa using d)];rfl
theorem W_free {b c:Nat} {s:Ptb} (hc:c<13):setPart (setPart (encU b s) (c*6) (.agg (rowU zc))) (c+78) .nilp=encU b (freeX s c):=by
 rw [encU_W,W_row hc,W_ptr hc (by intro l h;cases h),encU_W]
 unfold encW
 congr 1
 refine List.map_congr_left fun a _=>?_
 show (if a=c then AV.nilp else ptrO b a (s.sg a))=ptrO b a (if a=c then none else s.sg a)
 by_cases e:a=c
 ·rw [if_pos e,if_pos e];rfl
 ·rw [if_neg e,if_neg e]
end Go.Am
