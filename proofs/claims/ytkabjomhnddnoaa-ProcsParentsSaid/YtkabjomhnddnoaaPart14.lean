/-
  Processes: the program's Children, as it is told in its other calls. Processes: the program's Wait.
-/
import Derived.Test.YtkabjomhnddnoaaPart13
namespace Go.Am
open Go.Proofs Crc
set_option maxRecDepth 100000
theorem ACalls.pad {C:Ctx} {f:FuncId} {args:List AV} {H:Hp} {K:AV→Hp→Prop} (e:Nat) (h:ACalls C f args (H++[some ⟨e,[]⟩]) K):ACalls C f args H K:=by
 refine ⟨h.1,fun ρ w cargs hH hv=>(h.2 (ρ.push none) w cargs (nil_rel e (nilH_refl H) hH) (VRs.mono (Env.le_push ρ none) _ _ hv)).mono ?_⟩
 rintro ex w' ⟨v,cv,ρ',H',rfl,h2,h3,h4,h5,h6⟩
 have hl:=Env.le_push ρ none
 exact ⟨v,cv,ρ',H',rfl,h2,⟨fun i x hx=>h3.1 i x (hl.1 i x hx),fun i b d h=>h3.2 i b d (hl.2 i b d h),fun D hD=>h3.3 D (hl.3 D hD)⟩,h4,h5,nil_frm.trans h6⟩
def B14 (s:Ptb) (cc:Nat) (sl:List AV):Hp:=some ⟨1,encV (ptC s cc) s⟩::(List.range 13).map (fun n=>some ⟨1,rowA sl n⟩)
theorem B14_len {s:Ptb} {cc:Nat} {sl:List AV}:(B14 s cc sl).length=14:=by simp [B14]
theorem B15_eq (s:Ptb) (cc:Nat) (sl z:List AV):B15 s cc sl z=B14 s cc sl++[some ⟨1,z⟩]:=by simp [B15,B14]
theorem B14_at {s:Ptb} {cc:Nat} {sl:List AV} (hc:13≤cc) (hf:∀ n,n<13→bnds 0 (rowA sl n)=true) {i:Nat} {b:Blk} (hb:(B14 s cc sl)[i]?=some (some b)):bnds 14 b.cells=true:=by
 have hi:=(List.getElem?_eq_some_iff.1 hb).1
 rw [B14_len] at hi
 unfold B14 at hb
 by_cases h0:i=0
 ·subst h0
  simp only [List.getElem?_cons_zero,Option.some.injEq] at hb
  subst hb
  refine tsP_ok.bnd 14 (ptC s cc) s fun n hn=>?_
  unfold ptC
  split
  ·rfl
  ·have:(if n=cc then 14 else 1+n)<14:=by rw [if_neg (by omega)];omega
   simpa [bnd] using this
 ·obtain ⟨n,rfl⟩:∃ n,i=n+1:=⟨i - 1,by omega⟩
  rw [List.getElem?_cons_succ,List.getElem?_map,List.getElem?_range (by omega)] at hb
  simp only [Option.map_some,Option.some.injEq] at hb
  subst hb
  exact bnds_mono (Nat.zero_le _) _ (hf n (by omega))
section
variable {G:Nat→List AV} {B:Nat}
theorem p_kids14 {s:Ptb} {cc:Nat} {sl:List AV} (hc:13≤cc) (hf:∀ n,n<13→bnds 0 (rowA sl n)=true) (hw:Wf s) (n:Int) :
  ACalls (⟨Try.prog,G,B⟩:Ctx) 31 [.ptr (.rw 0) 0,.int .i64 n] (B14 s cc sl) fun v H'=>v=.slice true (.rw 14) 0 (kidT s n 13).length∧H'=B14 s cc sl++[some ⟨1,nl (kidT s n 13)⟩]:=by
 have h:=p_kids G B (s:=s) (cc:=cc) (sl:=sl) (z:=[]) ⟨hf,rfl⟩ hw n
 rw [B15_eq] at h
 have h:=ACalls.pad 1 h
 refine h.view fun v H' ⟨e1,e2⟩=>⟨_,_,⟨rfl,rfl⟩,?_⟩
 subst e1 e2
 have hl:(B14 s cc sl++[some (⟨1,nl (kidT s n 13)⟩:Blk)]).length=15:=by simp [B14_len]
 rw [B14_len]
 let θ:List Nat:=[0,1,2,3,4,5,6,7,8,9,10,11,12,13,15]
 have fx:∀ i,i<14→θ.getD i 0=i:=(by decide:∀ i,i<14→([0,1,2,3,4,5,6,7,8,9,10,11,12,13,15]:List Nat).getD i 0=i)
 refine ⟨θ,by rw [hl];rfl,by rw [hl];omega,fx,fun i hi=>?_,fun i j b b' h1 h2 he=>?_,fun i b hb=>?_,rfl,fun k w hk=>?_⟩
 ·have hi:i<15:=hi
  have:∀ i,i<15→([0,1,2,3,4,5,6,7,8,9,10,11,12,13,15]:List Nat).getD i 0<16:=by decide
  have:=this i hi
  simp only [List.length_append,B14_len,List.length_cons,List.length_nil]
  exact this
 ·have hi:=(List.getElem?_eq_some_iff.1 h1).1
  have hj:=(List.getElem?_eq_some_iff.1 h2).1
  rw [hl] at hi hj
  have:∀ i,i<15→∀ j,j<15→([0,1,2,3,4,5,6,7,8,9,10,11,12,13,15]:List Nat).getD i 0=([0,1,2,3,4,5,6,7,8,9,10,11,12,13,15]:List Nat).getD j 0→i=j:=by decide
  exact this i hi j hj he
 ·have hi:=(List.getElem?_eq_some_iff.1 hb).1
  rw [hl] at hi
  by_cases h14:i<14
  ·rw [List.getElem?_append_left (by rw [B14_len];exact h14)] at hb
   rw [fx i h14]
   have hbn:=B14_at hc hf hb
   refine ⟨b,by rw [List.append_assoc,List.getElem?_append_left (by rw [B14_len];exact h14)];exact hb,Nat.le_refl _,rfl,fun k w hk=>?_,fun _=>⟨rfl,?_⟩⟩
   ·rw [bnds_eq,List.all_eq_true] at hbn
    have:=hbn w (List.mem_of_getElem? hk)
    exact ⟨bnd_mono (by show 14≤15;omega) _ this,.inr (by rw [ren_fix fx w this];exact hk)⟩
   ·cases hc:b.cells with
    | nil=>rfl
    | cons x l=>
     rw [hc] at hbn
     simp only [bnds,Bool.and_eq_true] at hbn
     simp only [List.head?_cons,Option.map_some,ren_fix fx x hbn.1]
  ·have:i=14:=by omega
   subst this
   rw [List.getElem?_append_right (by rw [B14_len];omega),B14_len] at hb
   simp only [Nat.sub_self,List.getElem?_cons_zero,Option.some.injEq] at hb
   subst hb
   refine ⟨⟨1,nl (kidT s n 13)⟩,?_,Nat.le_refl _,BlkV_of rfl rfl fun k w hk=>?_⟩
   ·show (B14 s cc sl++[some ⟨1,[]⟩]++[some ⟨1,nl (kidT s n 13)⟩])[15]?=_
    rw [List.append_assoc,List.getElem?_append_right (by rw [B14_len];omega),B14_len];rfl
   ·obtain ⟨a1,a2⟩:=flat_cells (nl_flat 0 (kidT s n 13)) θ hk
    exact ⟨a1,by rw [a2];exact hk⟩
 ·cases k with
  | zero=>simp at hk;subst hk;exact ⟨rfl,.inr rfl⟩
  | succ k=>simp at hk
end
theorem kidT_mem {s:Ptb} {n:Int} {i c:Nat} (h:c∈kidT s n i):c<i∧0<(s.at_ c).num∧1≤n∧(s.at_ c).par=n:=by
 unfold kidT at h
 rw [List.mem_filter] at h
 obtain ⟨h1,h2⟩:=h
 unfold kidB kidC at h2
 simp only [Bool.and_eq_true,decide_eq_true_eq,beq_iff_eq] at h2
 exact ⟨List.mem_range.1 h1,h2.1,h2.2.1,h2.2.2⟩
theorem kidT_ne1 {s:Ptb} (hw:Wf s) {n:Int} {i c:Nat} (h:c∈kidT s n i):c≠1:=by
 obtain ⟨_,_,h3,h4⟩:=kidT_mem h
 intro e
 subst e
 have:=hw.one.2
 omega
def waitR (s:Ptb) (n w:Int):(Int×Int×Bool×Int)×Ptb:=
 if live s n=true then
  if w≠-1∧(w<1∨12<w) then ((0,0,false,2),s)
  else match (kidT s n 13).find? (wHit s w) with
   | some c=>(((c:Int),(s.at_ c).st,false,0),freeX s c)
   | none=>if (kidT s n 13).any (wMat w)=true then ((0,0,true,0),s) else ((0,0,false,6),s)
 else ((0,0,false,6),s)
theorem Wf.waitX {s:Ptb} (h:Wf s) (n w:Int):Wf (waitR s n w).2:=by
 unfold waitR
 split
 ·split
  ·exact h
  ·split
   ·rename_i c e
    exact h.free (kidT_ne1 h (List.mem_of_find?_eq_some e))
   ·split<;>exact h
 ·exact h
def kidBC (z:Nat) (l:List AV) (n:Int) (c:Nat):Bool:=decide (0<getI l (c*z+1))&&kidC n (getI l (c*z+2))
def kidLC (l:List AV) (n:Int):List Nat:=(List.range 13).filter (kidBC 7 l n)
theorem kidLC_eq {p:Nat→AV} {s:Ptb} {n:Int}:kidLC (encV p s) n=kidT s n 13:=by
 unfold kidLC kidT
 refine List.filter_congr fun c hc=>?_
 have hc:=List.mem_range.1 hc
 have g:∀ k,k<7→(encV p s)[c*7+(k+1)]?=some (fcell (s.at_ c) (p c) k):=fun k hk=>by
  unfold encV
  rw [show c*7+(k+1)=(c*7+k)+1 by omega,List.getElem?_cons_succ,tabL_get hc hk]
 unfold kidBC kidB
 have g0:=g 0 (by omega)
 have g1:=g 1 (by omega)
 simp only [Nat.zero_add,Nat.reduceAdd] at g0 g1
 simp only [getI,g0,g1,fcell]
def kidNU:List AV→Nat:=fun vs=>match vs with
 | [.agg l,.int _ n]=>(kidLC l n).length
 | _=>0
def kidLU:List AV→List AV:=fun vs=>match vs with
 | [.agg l,.int _ n]=>nl (kidLC l n)
 | _=>[]
open Classical in
noncomputable def okK15:List AV→Bool:=fun vs=>match vs with
 | [.agg l,.agg L,.agg z]=>decide (∃ s cc,Wf s∧l=encV (ptC s cc) s∧Flt L z)
 | _=>false
open Classical in
noncomputable def okK14:List AV→Bool:=fun vs=>match vs with
 | [.agg l,.agg L]=>decide (∃ s,Wf s∧l=encV (ptC s 13) s∧∀ n,n<13→bnds 0 (rowA L n)=true)
 | _=>false
def kidsQ (k15 k14:List AV→Bool):DSum:=fun (args:List EV) (H:List (Option DBlk))=>match args with
 | [.ptr (.rw 0) (.lit 0),.int .i64 n]=>match H[(0:Nat)]? with
  | some (some ⟨1,l⟩)=>match famAt H 1 13 with
   | some (z1,L,ls)=>match Nat.beq z1 1 with
    | true=>match H[(14:Nat)]? with
     | some (some ⟨1,z⟩)=>some (.chk (.rows L ls) (.chk (.uf 2310 k15 [.agg l,.agg L,.agg z]) (.one (.slice true (.rw H.length) (.lit 0) (.uf 2311 kidNU [.agg l,.int .i64 n])) [.new ⟨1,.uf 2312 kidLU [.agg l,.int .i64 n]⟩])))
     | none=>some (.chk (.rows L ls) (.chk (.uf 2313 k14 [.agg l,.agg L]) (.one (.slice true (.rw H.length) (.lit 0) (.uf 2311 kidNU [.agg l,.int .i64 n])) [.new ⟨1,.uf 2312 kidLU [.agg l,.int .i64 n]⟩])))
     | _=>none
    | false=>none
   | none=>none
  | _=>none
 | _=>none
noncomputable def kidsS:DSum:=kidsQ okK15 okK14
theorem okK15_iff {l L z:List AV}:okK15 [.agg l,.agg L,.agg z]=true↔∃ s cc,Wf s∧l=encV (ptC s cc) s∧Flt L z:=by
 unfold okK15;simp only [decide_eq_true_eq]
theorem okK14_iff {l L:List AV}:okK14 [.agg l,.agg L]=true↔∃ s,Wf s∧l=encV (ptC s 13) s∧∀ n,n<13→bnds 0 (rowA L n)=true:=by
 unfold okK14;simp only [decide_eq_true_eq]
theorem range_getD {n i:Nat} (h:i<n):(List.range n).getD i 0=i:=by simp [List.getD,h]
theorem DOut.readN {C:Ctx} {f:FuncId} {args0:List AV} {args:List EV} {H:DHp} {k:Nat} {H0:Hp} {v0:AV} {v:EV} {b:DBlk} (hk:H0.length=k) (hH:(vHp C.G H).take k=H0) (hlv:∀ (i:Nat) b,H0[i]?=some b→∃ b0,b=some b0∧bnds k b0.cells=true)
  (ha:bnds k args0=true) (he:vVs C.G args=args0) (h:ACalls C f args0 H0 fun v' H'=>v'=v0∧H'=H0++[some (vBlk C.G b)]) (hb0:bnds 0 (vBlk C.G b).cells=true) (hv0:bnd (k+1) v0=true) (hv:vV C.G v=ren (wide (List.range k) H.length 1) v0):DOut C f args H v [.new b]:=by
 have fx:∀ i,i<k→(List.range k).getD i 0=i:=fun i hi=>range_getD hi
 have at0:∀ (i:Nat) b,H0[i]?=some b→(vHp C.G H)[i]?=some b:=fun i b hb=>by
  rw [←hH,List.getElem?_take] at hb
  split at hb
  ·exact hb
  ·cases hb
 refine DOut.fr (θ:=List.range k) (H0:=H0) (H1:=H0++[some (vBlk C.G b)]) List.nodup_range (by simp [hk]) (fun i b hb=>?_) (by simpa using ha) (by rw [he,rens_fix fx _ ha]) h (by simp) (by simpa [hk] using hv0) ?_ (by rw [hv];simp [hk]) ?_
 ·obtain ⟨b0,rfl,h1⟩:=hlv i b hb
  have hi:=(List.getElem?_eq_some_iff.1 hb).1
  refine ⟨b0,rfl,by simpa using h1,?_⟩
  rw [fx i (by omega),at0 i _ hb]
  simp only [renB,rens_fix fx _ h1]
 ·refine hpB_app ?_ (by simp only [hpB,bnds_mono (Nat.zero_le _) _ hb0,Bool.and_self])
  have:∀ {H:Hp} {m:Nat},(∀ (i:Nat) b,H[i]?=some b→∃ b0,b=some b0∧bnds m b0.cells=true)→hpB m H=true:=by
   intro H m h
   induction H with
   | nil=>rfl
   | cons b H ih=>
    obtain ⟨b0,rfl,h1⟩:=h 0 b rfl
    simp only [hpB,h1,Bool.true_and]
    exact ih fun i b hb=>h (i+1) b hb
  refine this fun i b hb=>?_
  obtain ⟨b0,e,h1⟩:=hlv i b hb
  exact ⟨b0,e,bnds_mono (by simp [hk]) _ h1⟩
 ·unfold merge
  have e1:(H0++[some (vBlk C.G b)]).length - (List.range k).length=1:=by simp [hk]
  have e2:(H0++[some (vBlk C.G b)]).drop (List.range k).length=[some (vBlk C.G b)]:=by rw [List.length_range,←hk,List.drop_left' rfl]
  rw [e1,e2]
  have fw:∀ i,i<k→(wide (List.range k) (vHp C.G H).length 1).getD i 0=i:=fun i hi=>by
   unfold wide
   simp only [List.getD]
   rw [List.getElem?_append_left (by simpa using hi)]
   simp [hi]
  have e3:lay (wide (List.range k) (vHp C.G H).length 1) (List.range k) (H0++[some (vBlk C.G b)]) (vHp C.G H)=vHp C.G H:=by
   refine lay_self _ _ _ _ fun i b hb hi=>?_
   have hi:i<k:=by simpa using hi
   rw [List.getElem?_append_left (by omega)] at hb
   obtain ⟨b0,rfl,h1⟩:=hlv i b hb
   rw [fx i hi,at0 i _ hb]
   simp only [renO,Option.map_some,renB,rens_fix fw _ h1]
  rw [e3]
  simp only [List.map_cons,List.map_nil,acts,vHop,Hop.act,renO,Option.map_some,renB]
  rw [rens_flat _ _ hb0]
where
 lay_self (θ':List Nat):∀ (js:List Nat) (bs:List (Option Blk)) (H:Hp),(∀ (k:Nat) b,bs[k]?=some b→k<js.length→H[js.getD k 0]?=some (renO θ' b))→lay θ' js bs H=H
  | [],bs,H,h=>by cases bs<;>simp [lay]
  | j::js,[],H,h=>by simp [lay]
  | j::js,b::bs,H,h=>by
   simp only [lay]
   have h0:=h 0 b rfl (by simp)
   have e:H.set j (renO θ' b)=H:=by
    have hj:H[j]?=some (renO θ' b):=h0
    obtain ⟨hlt,e⟩:=List.getElem?_eq_some_iff.1 hj
    rw [←e];exact List.set_getElem_self hlt
   rw [e]
   exact lay_self θ' js bs H fun k b hk hl=>h (k+1) b hk (by simpa using hl)
theorem fam14 {G:Nat→List AV} {H:DHp} {l L:EL} {ls:List EV} (h0:H[0]?=some (some ⟨1,l⟩)) (hf:famAt H 1 13=some (1,L,ls)) (hr:rowsA (vL G L) (vVs G ls)=true):(vHp G H).take 14=some ⟨1,vL G l⟩::(List.range 13).map fun n=>some ⟨1,rowA (vL G L) n⟩:=by
 have a0:=vHp_some (G:=G) h0
 refine List.ext_getElem? fun i=>?_
 by_cases hi:i<14
 ·rw [List.getElem?_take,if_pos hi]
  cases i with
  | zero=>rw [a0];rfl
  | succ n=>
   have:=fam_at hf hr (i:=n) (by omega)
   rw [Nat.add_comm 1 n] at this
   rw [this,List.getElem?_cons_succ,List.getElem?_map,List.getElem?_range (by omega)];rfl
 ·rw [List.getElem?_eq_none (by rw [List.length_take];omega),List.getElem?_eq_none (by simp;omega)]
theorem kidsS_ok (G:Nat→List AV) (B:Nat):DSumOk (⟨Try.prog,G,B⟩:Ctx) 31 kidsS:=by
  intro args H o ho
  unfold kidsS kidsQ at ho
  split at ho
  · rename_i n
    split at ho
    · rename_i l h0
      split at ho
      · rename_i z1 L ls hf
        split at ho
        · rename_i hz
          have hz:=Nat.eq_of_beq_eq_true hz
          subst hz
          split at ho
          · rename_i z h14
            simp only [Option.some.injEq] at ho
            subst ho
            intro hr h1
            have hr:rowsA (vL G L) (vVs G ls)=true:=hr
            have h1:okK15 [.agg (vL G l),.agg (vL G L),.agg (vL G z)]=true:=h1
            obtain ⟨s,cc,hw,e,hfl⟩:=okK15_iff.1 h1
            have t14:=fam14 (G:=G) h0 hf hr
            have t15:(vHp G H).take 15=B15 s cc (vL G L) (vL G z):=by
              have a14:=vHp_some (G:=G) h14
              rw [List.take_add_one,t14,a14,B15_eq]
              unfold B14
              rw [e];rfl
            have key:=p_kids G B (s:=s) (cc:=cc) hfl hw (vI G n)
            rw [← kidLC_eq (p := ptC s cc), ← e] at key
            exact DOut.readN (C:=⟨Try.prog,G,B⟩) (b:=⟨1,.uf 2312 kidLU [.agg l,.int .i64 n]⟩) (v0:=.slice true (.rw 15) 0 (kidLC (vL G l) (vI G n)).length) B15_len t15 (fun i b hb=>by
              have hi:=(List.getElem?_eq_some_iff.1 hb).1
              obtain ⟨b0,rfl⟩:∃ b0,b=some b0:=by
                rw [B15_eq] at hb
                unfold B14 at hb
                cases i with
                | zero=>simp at hb;exact ⟨_,hb.symm⟩
                | succ i=>
                  rw [List.cons_append,List.getElem?_cons_succ] at hb
                  rcases List.mem_append.1 (List.mem_of_getElem? hb) with h | h
                  · obtain ⟨j,_,rfl⟩:=List.mem_map.1 h;exact ⟨_,rfl⟩
                  · simp at h;exact ⟨_,h⟩
              exact ⟨b0,rfl,B15_at hfl hb⟩) rfl rfl key (nl_flat 0 _) (by simp [bnd]) (by simp [vV,vR,vN,ren,wide,List.getD,kidNU,vVs])
          · rename_i h14
            simp only [Option.some.injEq] at ho
            subst ho
            intro hr h1
            have hr:rowsA (vL G L) (vVs G ls)=true:=hr
            have h1:okK14 [.agg (vL G l),.agg (vL G L)]=true:=h1
            obtain ⟨s,hw,e,hfl⟩:=okK14_iff.1 h1
            have t14:=fam14 (G:=G) h0 hf hr
            have t15:(vHp G H).take 14=B14 s 13 (vL G L):=by rw [t14];unfold B14;rw [e]
            have key:=p_kids14 (G:=G) (B:=B) (s:=s) (cc:=13) (Nat.le_refl 13) hfl hw (vI G n)
            rw [← kidLC_eq (p := ptC s 13), ← e] at key
            exact DOut.readN (C:=⟨Try.prog,G,B⟩) (b:=⟨1,.uf 2312 kidLU [.agg l,.int .i64 n]⟩) (v0:=.slice true (.rw 14) 0 (kidLC (vL G l) (vI G n)).length) B14_len t15 (fun i b hb=>by
              obtain ⟨b0,rfl⟩:∃ b0,b=some b0:=by
                unfold B14 at hb
                cases i with
                | zero=>simp at hb;exact ⟨_,hb.symm⟩
                | succ i=>
                  rw [List.getElem?_cons_succ] at hb
                  obtain ⟨j,_,rfl⟩:=List.mem_map.1 (List.mem_of_getElem? hb)
                  exact ⟨_,rfl⟩
              exact ⟨b0,rfl,B14_at (Nat.le_refl 13) hfl hb⟩) rfl rfl key (nl_flat 0 _) (by simp [bnd]) (by simp [vV,vR,vN,ren,wide,List.getD,kidNU,vVs])
          · simp at ho
        · simp at ho
      · simp at ho
    · simp at ho
  · simp at ho
end Go.Am
namespace Go.Am
open Go.Proofs Crc
set_option maxRecDepth 100000
theorem w_b (G:Nat→List AV) (tb sl ks:List AV) (w:Int) (c i:Nat) (wb:Bool) (Q:Ex→List AV→Hp→Prop) (R:AV→Hp→Prop):vT G Q R (dloop (Dc Try.prog [] [] [] 0) 300 40 14 (loopN Try.f13 0) 67 [0,2,6,7,8,9,32,33,34] [.ptr (.rw 0) (.lit 0),.int .i64 (.var 4 w),.int .i64 (.lit 0),.int .i64 (.lit 0),.bool (.var 7 wb),.int .i64 (.lit 0),.slice true (.rw 14) (.lit 0) (.var 6 c),.int .i64 (.ofN (.var 6 c)),.int .i64 (.ofN (.var 8 i))] (hp3 [some ⟨1,.var 1 tb⟩] (.var 2 sl) [some ⟨1,.var 22 ks⟩]))=(
  (decide ((((i:Nat):Int):Int)<((c:Nat):Int))=true→
 decide ((0:Int)≤((i:Nat):Int))=true∧
 decide ((((i:Nat):Int):Int)<((c:Nat):Int))=true∧
 isI .i64 ks (i)=true∧
 (((w:Int)==(-1))=true→
 decide ((0:Int)≤getI ks (i))=true∧
 decide ((getI ks (i):Int)<13)=true∧
 leB ((Int.toNat (getI ks (i)))*7+8) (List.length tb)=true∧
 cellsB (subL tb ((Int.toNat (getI ks (i)))*7+1) (7))=true∧
 Nat.beq (List.length (subL tb ((Int.toNat (getI ks (i)))*7+1) (7))) (7)=true∧
 isB (subL tb ((Int.toNat (getI ks (i)))*7+1) (7)) (4)=true∧
 (getB (subL tb ((Int.toNat (getI ks (i)))*7+1) (7)) (4)=true→
 decide ((0:Int)≤getI ks (i))=true∧
 decide ((getI ks (i):Int)<13)=true∧
 leB ((Int.toNat (getI ks (i)))*7+8) (List.length tb)=true∧
 isI .i64 (subL tb ((Int.toNat (getI ks (i)))*7+1) (7)) (5)=true∧
 Q .ret [.ptr (.rw 0) (0),.int .i64 (w),.int .i64 (getI ks (i)),.int .i64 (getI (subL tb ((Int.toNat (getI ks (i)))*7+1) (7)) (5)),.bool (false),.int .i64 (0),.slice true (.rw 14) (0) (c),.int .i64 (((c:Nat):Int)),.int .i64 (((i:Nat):Int))] ([some ⟨1,(setPart tb ((Int.toNat (getI ks (i)))*7+1) (.agg ([.int .i64 (0),.int .i64 (0),.int .i64 (0),.int .i64 (0),.bool (false),.int .i64 (0),.nilp]:List AV)))⟩]++(rows13 sl++[some ⟨1,ks⟩,some ⟨1,(subL tb ((Int.toNat (getI ks (i)))*7+1) (7))⟩])))∧
 (getB (subL tb ((Int.toNat (getI ks (i)))*7+1) (7)) (4)=false→
 Q .normal [.ptr (.rw 0) (0),.int .i64 (w),.int .i64 (0),.int .i64 (0),.bool (true),.int .i64 (0),.slice true (.rw 14) (0) (c),.int .i64 (((c:Nat):Int)),.int .i64 (IntKind.wrap .i64 (((i:Nat):Int)+1))] ([some ⟨1,tb⟩]++(rows13 sl++[some ⟨1,ks⟩,some ⟨1,(subL tb ((Int.toNat (getI ks (i)))*7+1) (7))⟩]))))∧
 (((w:Int)==(-1))=false→
 (((w:Int)==getI ks (i))=true→
 decide ((0:Int)≤getI ks (i))=true∧
 decide ((getI ks (i):Int)<13)=true∧
 leB ((Int.toNat (getI ks (i)))*7+8) (List.length tb)=true∧
 cellsB (subL tb ((Int.toNat (getI ks (i)))*7+1) (7))=true∧
 Nat.beq (List.length (subL tb ((Int.toNat (getI ks (i)))*7+1) (7))) (7)=true∧
 isB (subL tb ((Int.toNat (getI ks (i)))*7+1) (7)) (4)=true∧
 (getB (subL tb ((Int.toNat (getI ks (i)))*7+1) (7)) (4)=true→
 decide ((0:Int)≤getI ks (i))=true∧
 decide ((getI ks (i):Int)<13)=true∧
 leB ((Int.toNat (getI ks (i)))*7+8) (List.length tb)=true∧
 isI .i64 (subL tb ((Int.toNat (getI ks (i)))*7+1) (7)) (5)=true∧
 Q .ret [.ptr (.rw 0) (0),.int .i64 (w),.int .i64 (getI ks (i)),.int .i64 (getI (subL tb ((Int.toNat (getI ks (i)))*7+1) (7)) (5)),.bool (false),.int .i64 (0),.slice true (.rw 14) (0) (c),.int .i64 (((c:Nat):Int)),.int .i64 (((i:Nat):Int))] ([some ⟨1,(setPart tb ((Int.toNat (getI ks (i)))*7+1) (.agg ([.int .i64 (0),.int .i64 (0),.int .i64 (0),.int .i64 (0),.bool (false),.int .i64 (0),.nilp]:List AV)))⟩]++(rows13 sl++[some ⟨1,ks⟩,some ⟨1,(subL tb ((Int.toNat (getI ks (i)))*7+1) (7))⟩])))∧
 (getB (subL tb ((Int.toNat (getI ks (i)))*7+1) (7)) (4)=false→
 Q .normal [.ptr (.rw 0) (0),.int .i64 (w),.int .i64 (0),.int .i64 (0),.bool (true),.int .i64 (0),.slice true (.rw 14) (0) (c),.int .i64 (((c:Nat):Int)),.int .i64 (IntKind.wrap .i64 (((i:Nat):Int)+1))] ([some ⟨1,tb⟩]++(rows13 sl++[some ⟨1,ks⟩,some ⟨1,(subL tb ((Int.toNat (getI ks (i)))*7+1) (7))⟩]))))∧
 (((w:Int)==getI ks (i))=false→
 Q .normal [.ptr (.rw 0) (0),.int .i64 (w),.int .i64 (0),.int .i64 (0),.bool (wb),.int .i64 (0),.slice true (.rw 14) (0) (c),.int .i64 (((c:Nat):Int)),.int .i64 (IntKind.wrap .i64 (((i:Nat):Int)+1))] ([some ⟨1,tb⟩]++(rows13 sl++[some ⟨1,ks⟩])))))∧
 (decide ((((i:Nat):Int):Int)<((c:Nat):Int))=false→
 Q (.exit 0) [.ptr (.rw 0) (0),.int .i64 (w),.int .i64 (0),.int .i64 (0),.bool (wb),.int .i64 (0),.slice true (.rw 14) (0) (c),.int .i64 (((c:Nat):Int)),.int .i64 (((i:Nat):Int))] ([some ⟨1,tb⟩]++(rows13 sl++[some ⟨1,ks⟩])))):=by kernel_rfl
theorem w_c (G:Nat→List AV) (k15 k14 rl:List AV→Bool) (tb sl ks tf:List AV) (n w fc fs:Int) (c:Nat) (fb wb:Bool) (Q:Ex→List AV→Hp→Prop) (R:AV→Hp→Prop):vT G Q R (dcall (Dc Try.prog [36,38,39,20] [(31,kidsQ k15 k14)] [DLat 2320 (rl) 0 67 [0,2,6,7,8,9,32,33,34] (.tst (.var 9 fb) (.one .ret [.undef,.undef,.int .i64 (.var 10 fc),.int .i64 (.var 11 fs),.bool (.lit false),.int .i64 (.lit 0),.undef,.undef,.undef] (hp3 [some ⟨1,.var 21 tf⟩] (.var 2 sl) [some ⟨1,.var 22 ks⟩])) (.one (.exit 0) [.undef,.undef,.int .i64 (.lit 0),.int .i64 (.lit 0),.bool (.var 7 wb),.int .i64 (.lit 0),.undef,.undef,.undef] (hp3 [some ⟨1,.var 1 tb⟩] (.var 2 sl) [some ⟨1,.var 22 ks⟩])))] 14) 300 40 Try.f13 [.ptr (.rw 0) (.lit 0),.int .i64 (.var 3 n),.int .i64 (.var 4 w)] (hp3 [some ⟨1,.var 1 tb⟩] (.var 2 sl) []) 14)=(
  isB tb (0)=true∧
 (getB tb (0)=true→
 isB tb (0)=true∧
 getB tb (0)=true∧
 (decide ((n:Int)≥1)=true→
 (decide ((n:Int)≤12)=true→
 decide ((0:Int)≤n)=true∧
 decide ((n:Int)<13)=true∧
 isI .i64 tb ((Int.toNat (n))*7+1)=true∧
 (((getI tb ((Int.toNat (n))*7+1):Int)==n)=true→
 decide ((0:Int)≤n)=true∧
 decide ((n:Int)<13)=true∧
 isB tb ((Int.toNat (n))*7+5)=true∧
 (getB tb ((Int.toNat (n))*7+5)=true→
 R (.tup [.int .i64 (0),.int .i64 (0),.bool (false),.int .i64 (6)]) ([some ⟨1,tb⟩]++rows13 sl))∧
 (getB tb ((Int.toNat (n))*7+5)=false→
 (((w:Int)==(-1))=true→
 rowsA sl (rp 13 sl)=true∧
 k14 [.agg tb,.agg sl]=true∧
 (rl) [.agg ([.ptr (.rw 0) (0),.int .i64 (w),.int .i64 (0),.int .i64 (0),.bool (false),.int .i64 (0),.slice true (.rw 14) (0) (kidNU [.agg tb,.int .i64 (n)]),.int .i64 (((kidNU [.agg tb,.int .i64 (n)]:Nat):Int)),.int .i64 (0)]:List AV),.agg ((tp3 [.tup [.int .i64 (1),.agg tb]] sl [.tup [.int .i64 (1),.agg (kidLU [.agg tb,.int .i64 (n)])]]):List AV)]=true∧
 (fb=true→
 R (.tup [.int .i64 (fc),.int .i64 (fs),.bool (false),.int .i64 (0)]) ([some ⟨1,tf⟩]++rows13 sl))∧
 (fb=false→
 (wb=true→
 R (.tup [.int .i64 (0),.int .i64 (0),.bool (true),.int .i64 (0)]) ([some ⟨1,tb⟩]++rows13 sl))∧
 (wb=false→
 R (.tup [.int .i64 (0),.int .i64 (0),.bool (false),.int .i64 (6)]) ([some ⟨1,tb⟩]++rows13 sl))))∧
 (((w:Int)==(-1))=false→
 (decide ((w:Int)<1)=true→
 R (.tup [.int .i64 (0),.int .i64 (0),.bool (false),.int .i64 (2)]) ([some ⟨1,tb⟩]++rows13 sl))∧
 (decide ((w:Int)<1)=false→
 (decide ((w:Int)>12)=true→
 R (.tup [.int .i64 (0),.int .i64 (0),.bool (false),.int .i64 (2)]) ([some ⟨1,tb⟩]++rows13 sl))∧
 (decide ((w:Int)>12)=false→
 rowsA sl (rp 13 sl)=true∧
 k14 [.agg tb,.agg sl]=true∧
 (rl) [.agg ([.ptr (.rw 0) (0),.int .i64 (w),.int .i64 (0),.int .i64 (0),.bool (false),.int .i64 (0),.slice true (.rw 14) (0) (kidNU [.agg tb,.int .i64 (n)]),.int .i64 (((kidNU [.agg tb,.int .i64 (n)]:Nat):Int)),.int .i64 (0)]:List AV),.agg ((tp3 [.tup [.int .i64 (1),.agg tb]] sl [.tup [.int .i64 (1),.agg (kidLU [.agg tb,.int .i64 (n)])]]):List AV)]=true∧
 (fb=true→
 R (.tup [.int .i64 (fc),.int .i64 (fs),.bool (false),.int .i64 (0)]) ([some ⟨1,tf⟩]++rows13 sl))∧
 (fb=false→
 (wb=true→
 R (.tup [.int .i64 (0),.int .i64 (0),.bool (true),.int .i64 (0)]) ([some ⟨1,tb⟩]++rows13 sl))∧
 (wb=false→
 R (.tup [.int .i64 (0),.int .i64 (0),.bool (false),.int .i64 (6)]) ([some ⟨1,tb⟩]++rows13 sl))))))))∧
 (((getI tb ((Int.toNat (n))*7+1):Int)==n)=false→
 R (.tup [.int .i64 (0),.int .i64 (0),.bool (false),.int .i64 (6)]) ([some ⟨1,tb⟩]++rows13 sl)))∧
 (decide ((n:Int)≤12)=false→
 R (.tup [.int .i64 (0),.int .i64 (0),.bool (false),.int .i64 (6)]) ([some ⟨1,tb⟩]++rows13 sl)))∧
 (decide ((n:Int)≥1)=false→
 R (.tup [.int .i64 (0),.int .i64 (0),.bool (false),.int .i64 (6)]) ([some ⟨1,tb⟩]++rows13 sl)))∧
 (getB tb (0)=false→
 R (.tup [.int .i64 (0),.int .i64 (0),.bool (false),.int .i64 (1)]) ([some ⟨1,tb⟩]++rows13 sl))):=by kernel_rfl
theorem hL (G:Nat→List AV) (s:Ptb) (n:Int):vHp G (hp3 [some ⟨1,.var 1 (encT 1 s)⟩] (.var 2 (setsL encP s)) [some ⟨1,.var 22 (nl (kidT s n 13))⟩])=can tsP s++[some ⟨1,nl (kidT s n 13)⟩]:=by
 rw [←hp_can (t:=tsP) (s:=s)];rfl
theorem find_none {l:List Nat} {p:Nat→Bool} (h:∀ j,(hj:j<l.length)→p l[j]=false):l.find? p=none:=by
 rw [List.find?_eq_none]
 intro x hx
 obtain ⟨j,hj,rfl⟩:=List.getElem_of_mem hx
 rw [h j hj];simp
theorem find_at {l:List Nat} {p:Nat→Bool} {i:Nat} (hi:i<l.length) (hp:p l[i]=true) (h:∀ j,(hj:j<l.length)→j<i→p l[j]=false):l.find? p=some l[i]:=by
 rw [List.find?_eq_some_iff_getElem]
 exact ⟨hp,i,hi,rfl,fun j hj=>by rw [h j (by omega) hj];rfl⟩
theorem take_any {l:List Nat} {p:Nat→Bool} {i:Nat} (hi:i<l.length):(l.take (i+1)).any p=((l.take i).any p||p l[i]):=by
 rw [List.take_add_one,List.getElem?_eq_getElem hi]
 simp only [Option.toList,List.any_append,List.any_cons,List.any_nil,Bool.or_false]
theorem w_loop (G:Nat→List AV) (B:Nat) {s:Ptb} (hw:Wf s) (n w:Int):AWp (⟨Try.prog,G,B⟩:Ctx) 14 (.loop (loopN Try.f13 0)) (fl 67 [0,2,6,7,8,9,32,33,34] [.ptr (.rw 0) 0,.int .i64 w,.int .i64 0,.int .i64 0,.bool false,.int .i64 0,.slice true (.rw 14) 0 (kidT s n 13).length,.int .i64 ((kidT s n 13).length:Int),.int .i64 0]) (vHp G (hp3 [some ⟨1,.var 1 (encT 1 s)⟩] (.var 2 (setsL encP s)) [some ⟨1,.var 22 (nl (kidT s n 13))⟩])) (lv 67 [0,2,6,7,8,9,32,33,34] (LOut.post G 14 (.tst (.var 9 (((kidT s n 13).find? (wHit s w)).isSome)) (.one .ret [.undef,.undef,.int .i64 (.var 10 ((((kidT s n 13).find? (wHit s w)).getD 0):Int)),.int .i64 (.var 11 (s.at_ (((kidT s n 13).find? (wHit s w)).getD 0)).st),.bool (.lit false),.int .i64 (.lit 0),.undef,.undef,.undef] (hp3 [some ⟨1,.var 21 (encT 1 (freeX s (((kidT s n 13).find? (wHit s w)).getD 0)))⟩] (.var 2 (setsL encP s)) [some ⟨1,.var 22 (nl (kidT s n 13))⟩])) (.one (.exit 0) [.undef,.undef,.int .i64 (.lit 0),.int .i64 (.lit 0),.bool (.var 7 ((kidT s n 13).any (wMat w))),.int .i64 (.lit 0),.undef,.undef,.undef] (hp3 [some ⟨1,.var 1 (encT 1 s)⟩] (.var 2 (setsL encP s)) [some ⟨1,.var 22 (nl (kidT s n 13))⟩]))))):=by
 refine scanP (fun i=>∀ j,(hj:j<(kidT s n 13).length)→j<i→wHit s w (kidT s n 13)[j]=false) (kidT s n 13).length (fun i=>[.ptr (.rw 0) 0,.int .i64 w,.int .i64 0,.int .i64 0,.bool (((kidT s n 13).take i).any (wMat w)),.int .i64 0,.slice true (.rw 14) 0 (kidT s n 13).length,.int .i64 ((kidT s n 13).length:Int),.int .i64 (i:Int)]) (fun _=>vHp G (hp3 [some ⟨1,.var 1 (encT 1 s)⟩] (.var 2 (setsL encP s)) [some ⟨1,.var 22 (nl (kidT s n 13))⟩])) (fun j hj h=>by omega) fun i hi hP=>?_
 refine dloop_ok (C:=(⟨Try.prog,G,B⟩:Ctx)) (K:=Dc Try.prog [] [] [] 0) (dgood (mix G B) (by kernel_rfl) .nil .nil) (fuel:=300) (n0:=40) (m:=14) (c:=loopN Try.f13 0)
  (vs:=[.ptr (.rw 0) (.lit 0),.int .i64 (.var 4 w),.int .i64 (.lit 0),.int .i64 (.lit 0),.bool (.var 7 (((kidT s n 13).take i).any (wMat w))),.int .i64 (.lit 0),.slice true (.rw 14) (.lit 0) (.var 6 (kidT s n 13).length),.int .i64 (.ofN (.var 6 (kidT s n 13).length)),.int .i64 (.ofN (.var 8 i))]) (H:=(hp3 [some ⟨1,.var 1 (encT 1 s)⟩] (.var 2 (setsL encP s)) [some ⟨1,.var 22 (nl (kidT s n 13))⟩])) (Nat.le_of_ble_eq_true rfl) ?_
 rw [w_b]
 have hle:=kidT_len s n 13
 refine ⟨fun h=>?_,fun h=>?_⟩
 ·have hlt:i<(kidT s n 13).length:=by have:=of_decide_eq_true h;omega
  obtain ⟨k1,k2⟩:=nl_getI (l:=(kidT s n 13)) hlt
  obtain ⟨c1,c2,c3,c4⟩:=kidT_mem (List.getElem_mem hlt)
  have enC:=T_row (b:=1) (s:=s) c1
  have ew:∀ x:Int,IntKind.wrap .i64 ((i:Int)+1)=((i+1:Nat):Int):=fun _=>by rw [i64_in (by omega)];rfl
  have hb20:∀ (E:Hp) (vs:List AV),vs=(fun i:Nat=>([.ptr (.rw 0) 0,.int .i64 w,.int .i64 0,.int .i64 0,.bool (((kidT s n 13).take i).any (wMat w)),.int .i64 0,.slice true (.rw 14) 0 (kidT s n 13).length,.int .i64 ((kidT s n 13).length:Int),.int .i64 (i:Int)]:List AV)) (i+1)→View 14 ((fun i:Nat=>([.ptr (.rw 0) 0,.int .i64 w,.int .i64 0,.int .i64 0,.bool (((kidT s n 13).take i).any (wMat w)),.int .i64 0,.slice true (.rw 14) 0 (kidT s n 13).length,.int .i64 ((kidT s n 13).length:Int),.int .i64 (i:Int)]:List AV)) (i+1)) (vHp G (hp3 [some ⟨1,.var 1 (encT 1 s)⟩] (.var 2 (setsL encP s)) [some ⟨1,.var 22 (nl (kidT s n 13))⟩])) vs (vHp G (hp3 [some ⟨1,.var 1 (encT 1 s)⟩] (.var 2 (setsL encP s)) [some ⟨1,.var 22 (nl (kidT s n 13))⟩])++E):=fun E vs e=>by
   subst e
   have hl:(vHp G (hp3 [some ⟨1,.var 1 (encT 1 s)⟩] (.var 2 (setsL encP s)) [some ⟨1,.var 22 (nl (kidT s n 13))⟩])).length=15:=by rw [vHp_length];rfl
   refine View.same (by rw [hl];omega) ?_ ?_
   ·rw [hl,hL]
    refine hpB_app (m:=15) ?_ (by simp only [hpB,bm (nl_flat 0 (kidT s n 13)),Bool.and_self])
    exact can_b s (by omega)
   ·rw [hl]
    exact ⟨⟨rfl,rfl⟩,⟨rfl,rfl⟩,⟨rfl,rfl⟩,⟨rfl,rfl⟩,⟨rfl,rfl⟩,⟨rfl,rfl⟩,⟨rfl,rfl⟩,⟨rfl,rfl⟩,⟨rfl,rfl⟩,trivial⟩
  have found:wMat w (kidT s n 13)[i]=true→(s.at_ (kidT s n 13)[i]).en=true→(if True then LOut.post G 14 (.tst (.var 9 (((kidT s n 13).find? (wHit s w)).isSome)) (.one .ret [.undef,.undef,.int .i64 (.var 10 ((((kidT s n 13).find? (wHit s w)).getD 0):Int)),.int .i64 (.var 11 (s.at_ (((kidT s n 13).find? (wHit s w)).getD 0)).st),.bool (.lit false),.int .i64 (.lit 0),.undef,.undef,.undef] (hp3 [some ⟨1,.var 21 (encT 1 (freeX s (((kidT s n 13).find? (wHit s w)).getD 0)))⟩] (.var 2 (setsL encP s)) [some ⟨1,.var 22 (nl (kidT s n 13))⟩])) (.one (.exit 0) [.undef,.undef,.int .i64 (.lit 0),.int .i64 (.lit 0),.bool (.var 7 ((kidT s n 13).any (wMat w))),.int .i64 (.lit 0),.undef,.undef,.undef] (hp3 [some ⟨1,.var 1 (encT 1 s)⟩] (.var 2 (setsL encP s)) [some ⟨1,.var 22 (nl (kidT s n 13))⟩]))) .ret [.ptr (.rw 0) 0,.int .i64 w,.int .i64 ((kidT s n 13)[i]:Int),.int .i64 (s.at_ (kidT s n 13)[i]).st,.bool false,.int .i64 0,.slice true (.rw 14) 0 (kidT s n 13).length,.int .i64 ((kidT s n 13).length:Int),.int .i64 (i:Int)] (some ⟨1,encT 1 (freeX s (kidT s n 13)[i])⟩::((List.range 13).map (fun n=>some (⟨1,rowA (setsL encP s) n⟩:Blk))++[some ⟨1,nl (kidT s n 13)⟩,some ⟨1,rowT (s.at_ (kidT s n 13)[i]) (ptrO 1 (kidT s n 13)[i] (s.sg (kidT s n 13)[i]))⟩])) else True):=fun hm he=>by
   rw [if_pos trivial]
   have hf:(kidT s n 13).find? (wHit s w)=some (kidT s n 13)[i]:=find_at hlt (by unfold wHit;rw [hm,he];rfl) hP
   refine .inl ⟨by show Option.isSome _=true;rw [hf];rfl,rfl,.inr ?_⟩
   have e1:(((kidT s n 13).find? (wHit s w)).getD 0)=(kidT s n 13)[i]:=by rw [hf];rfl
   have e2:vHp G (hp3 [some ⟨1,.var 21 (encT 1 (freeX s (((kidT s n 13).find? (wHit s w)).getD 0)))⟩] (.var 2 (setsL encP s)) [some ⟨1,.var 22 (nl (kidT s n 13))⟩])=some ⟨1,encT 1 (freeX s (kidT s n 13)[i])⟩::((List.range 13).map (fun n=>some (⟨1,rowA (setsL encP s) n⟩:Blk))++[some ⟨1,nl (kidT s n 13)⟩]):=by rw [e1];rfl
   rw [e2]
   refine View.same (m:=14) (H:=some ⟨1,encT 1 (freeX s (kidT s n 13)[i])⟩::((List.range 13).map (fun n=>some (⟨1,rowA (setsL encP s) n⟩:Blk))++[some ⟨1,nl (kidT s n 13)⟩])) (G:=[some ⟨1,rowT (s.at_ (kidT s n 13)[i]) (ptrO 1 (kidT s n 13)[i] (s.sg (kidT s n 13)[i]))⟩]) (Nat.le_of_ble_eq_true rfl) ?_ ?_
   ·have hl:(some (⟨1,encT 1 (freeX s (kidT s n 13)[i])⟩:Blk)::((List.range 13).map (fun n=>some (⟨1,rowA (setsL encP s) n⟩:Blk))++[some ⟨1,nl (kidT s n 13)⟩])).length=15:=by simp
    rw [hl]
    have t1:bnds 15 (encT 1 (freeX s (kidT s n 13)[i]))=true:=tsP_ok.bnd 15 (ptrs 1 (freeX s (kidT s n 13)[i])) _ fun n hn=>bnd_ptrs (by omega) n hn
    have r1:=can_b s (m:=15) (by omega)
    rw [←hp_can (t:=tsP) (s:=s)] at r1
    simp only [hpB,Bool.and_eq_true] at r1
    simp only [hpB,t1,Bool.true_and]
    exact hpB_app r1.2 (by simp only [hpB,bm (nl_flat 0 (kidT s n 13)),Bool.and_self])
   ·exact ⟨⟨rfl,by rw [e1];rfl⟩,⟨rfl,by rw [e1];rfl⟩,⟨rfl,rfl⟩,⟨rfl,rfl⟩,trivial⟩
  have nexts:wHit s w (kidT s n 13)[i]=false→∀ j,(hj:j<(kidT s n 13).length)→j<i+1→wHit s w (kidT s n 13)[j]=false:=fun h0 j hj hji=>by
   by_cases e:j=i
   ·subst e;exact h0
   ·exact hP j hj (by omega)
  rw [k2,Int.toNat_natCast,enC]
  have en0:(0:Int)≤((kidT s n 13)[i]:Int):=by omega
  have leT:leB ((kidT s n 13)[i]*7+8) (encT 1 s).length=true:=leB_iff.2 (by rw [encT_len];omega)
  have norm:wMat w (kidT s n 13)[i]=true→(s.at_ (kidT s n 13)[i]).en=false→(i<(kidT s n 13).length∧(∀ j,(hj:j<(kidT s n 13).length)→j<i+1→wHit s w (kidT s n 13)[j]=false)∧(([.ptr (.rw 0) 0,.int .i64 w,.int .i64 0,.int .i64 0,.bool true,.int .i64 0,.slice true (.rw 14) 0 (kidT s n 13).length,.int .i64 ((kidT s n 13).length:Int),.int .i64 (IntKind.wrap .i64 ((i:Int)+1))]=(fun i:Nat=>([.ptr (.rw 0) 0,.int .i64 w,.int .i64 0,.int .i64 0,.bool (((kidT s n 13).take i).any (wMat w)),.int .i64 0,.slice true (.rw 14) 0 (kidT s n 13).length,.int .i64 ((kidT s n 13).length:Int),.int .i64 (i:Int)]:List AV)) (i+1)∧(vHp G (hp3 [some ⟨1,.var 1 (encT 1 s)⟩] (.var 2 (setsL encP s)) [some ⟨1,.var 22 (nl (kidT s n 13))⟩])++[some (⟨1,rowT (s.at_ (kidT s n 13)[i]) (ptrO 1 (kidT s n 13)[i] (s.sg (kidT s n 13)[i]))⟩:Blk)])=vHp G (hp3 [some ⟨1,.var 1 (encT 1 s)⟩] (.var 2 (setsL encP s)) [some ⟨1,.var 22 (nl (kidT s n 13))⟩]))∨View 14 ((fun i:Nat=>([.ptr (.rw 0) 0,.int .i64 w,.int .i64 0,.int .i64 0,.bool (((kidT s n 13).take i).any (wMat w)),.int .i64 0,.slice true (.rw 14) 0 (kidT s n 13).length,.int .i64 ((kidT s n 13).length:Int),.int .i64 (i:Int)]:List AV)) (i+1)) (vHp G (hp3 [some ⟨1,.var 1 (encT 1 s)⟩] (.var 2 (setsL encP s)) [some ⟨1,.var 22 (nl (kidT s n 13))⟩])) [.ptr (.rw 0) 0,.int .i64 w,.int .i64 0,.int .i64 0,.bool true,.int .i64 0,.slice true (.rw 14) 0 (kidT s n 13).length,.int .i64 ((kidT s n 13).length:Int),.int .i64 (IntKind.wrap .i64 ((i:Int)+1))] (vHp G (hp3 [some ⟨1,.var 1 (encT 1 s)⟩] (.var 2 (setsL encP s)) [some ⟨1,.var 22 (nl (kidT s n 13))⟩])++[some (⟨1,rowT (s.at_ (kidT s n 13)[i]) (ptrO 1 (kidT s n 13)[i] (s.sg (kidT s n 13)[i]))⟩:Blk)]))):=fun hm he=>
   ⟨hlt,nexts (by unfold wHit;rw [he,Bool.and_false]),.inr (hb20 _ _ (by show _=[_,_,_,_,_,_,_,_,_];rw [take_any hlt,hm,Bool.or_true,ew 0]))⟩
  have both:wMat w (kidT s n 13)[i]=true→_:=fun hm=>And.intro (found hm) (norm hm)
  refine ⟨decide_eq_true (by omega),h,k1,fun h1=>?_,fun h1=>⟨fun h2=>?_,fun h2=>?_⟩⟩
  ·have hm:wMat w (kidT s n 13)[i]=true:=by unfold wMat;rw [show (w==-1)=true from h1];rfl
   refine ⟨decide_eq_true en0,decide_eq_true (by omega),leT,?_,rfl,rfl,fun he=>⟨decide_eq_true en0,decide_eq_true (by omega),leT,rfl,?_⟩,fun he=>norm hm he⟩
   ·cases s.sg (kidT s n 13)[i]<;>rfl
   ·have f:=found hm he
    rw [if_pos trivial] at f
    have e9:setPart (encT 1 s) ((kidT s n 13)[i]*7+1) (.agg [.int .i64 0,.int .i64 0,.int .i64 0,.int .i64 0,.bool false,.int .i64 0,.nilp])=encT 1 (freeX s (kidT s n 13)[i]):=enc_free (b:=1) (s:=s) c1
    rw [e9]
    exact f
  ·have hm:wMat w (kidT s n 13)[i]=true:=by unfold wMat;rw [show (w==((kidT s n 13)[i]:Int))=true from h2,Bool.or_true]
   refine ⟨decide_eq_true en0,decide_eq_true (by omega),leT,?_,rfl,rfl,fun he=>⟨decide_eq_true en0,decide_eq_true (by omega),leT,rfl,?_⟩,fun he=>norm hm he⟩
   ·cases s.sg (kidT s n 13)[i]<;>rfl
   ·have f:=found hm he
    rw [if_pos trivial] at f
    have e9:setPart (encT 1 s) ((kidT s n 13)[i]*7+1) (.agg [.int .i64 0,.int .i64 0,.int .i64 0,.int .i64 0,.bool false,.int .i64 0,.nilp])=encT 1 (freeX s (kidT s n 13)[i]):=enc_free (b:=1) (s:=s) c1
    rw [e9]
    exact f
  ·have hm:wMat w (kidT s n 13)[i]=false:=by unfold wMat;rw [show (w==((kidT s n 13)[i]:Int))=false from h2,show (w==-1)=false from h1];rfl
   refine ⟨hlt,nexts (by unfold wHit;rw [hm];rfl),.inl ⟨?_,rfl⟩⟩
   show _=[_,_,_,_,_,_,_,_,_]
   rw [take_any hlt,hm,Bool.or_false,ew 0]
 ·have he:i=(kidT s n 13).length:=by have:=of_decide_eq_false h;omega
  have hn:(kidT s n 13).find? (wHit s w)=none:=find_none fun j hj=>hP j hj (by omega)
  refine .inr ⟨by show Option.isSome _=false;rw [hn];rfl,rfl,.inl ⟨?_,rfl⟩⟩
  rw [he,List.take_length]
  simp [wk,vVs,vV,vI,vB]
where
 can_b (s:Ptb) {m:Nat} (hm:14≤m):hpB m (can tsP s)=true:=by
  have h:=hpB_get (can_hpB tsP_ok s)
  exact B15_bnd.hpB_of fun i b hb=>bnds_mono hm _ (h i b hb)
end Go.Am
namespace Go.Am
open Go.Proofs Crc
set_option maxRecDepth 100000
theorem encT_C (s:Ptb):encT 1 s=encV (ptC s 13) s:=by
 show tsP.tb (ptrs 1 s) s=tsP.tb (ptC s 13) s
 refine tsP_ok.congr _ _ _ fun n hn=>?_
 unfold ptrs ptrO ptC
 split
 ·rename_i e;rw [e]
 ·rename_i e;rw [e];simp only;rw [if_neg (by omega)]
theorem kidNU_T {k:IntKind} {s:Ptb} {n:Int}:kidNU [.agg (encT 1 s),.int k n]=(kidT s n 13).length:=by
 unfold kidNU
 rw [encT_V]
 simp only [kidLC_eq]
theorem kidLU_T {k:IntKind} {s:Ptb} {n:Int}:kidLU [.agg (encT 1 s),.int k n]=nl (kidT s n 13):=by
 unfold kidLU
 rw [encT_V]
 simp only [kidLC_eq]
theorem sets_flat {s:Ptb}:∀ n,n<13→bnds 0 (rowA (setsL encP s) n)=true:=fun n hn=>by
 rw [rowA_sets hn];exact blkO_flat tsP_ok _ 0
theorem k14_ok {s:Ptb} (hw:Wf s):okK14 [.agg (encT 1 s),.agg (setsL encP s)]=true:=okK14_iff.2 ⟨s,hw,encT_C s,sets_flat⟩
theorem dgW (G:Nat→List AV) (B:Nat) {s:Ptb} (hw:Wf s) (n w:Int):DGood (⟨Try.prog,G,B⟩:Ctx) (Dc Try.prog [36,38,39,20] [(31,kidsS)] [DLat 0x910 (isSt [.ptr (.rw 0) 0,.int .i64 w,.int .i64 0,.int .i64 0,.bool false,.int .i64 0,.slice true (.rw 14) 0 (kidT s n 13).length,.int .i64 ((kidT s n 13).length:Int),.int .i64 0] (vHp G (hp3 [some ⟨1,.var 1 (encT 1 s)⟩] (.var 2 (setsL encP s)) [some ⟨1,.var 22 (nl (kidT s n 13))⟩]))) 0 67 [0,2,6,7,8,9,32,33,34] (.tst (.var 9 (((kidT s n 13).find? (wHit s w)).isSome)) (.one .ret [.undef,.undef,.int .i64 (.var 10 ((((kidT s n 13).find? (wHit s w)).getD 0):Int)),.int .i64 (.var 11 (s.at_ (((kidT s n 13).find? (wHit s w)).getD 0)).st),.bool (.lit false),.int .i64 (.lit 0),.undef,.undef,.undef] (hp3 [some ⟨1,.var 21 (encT 1 (freeX s (((kidT s n 13).find? (wHit s w)).getD 0)))⟩] (.var 2 (setsL encP s)) [some ⟨1,.var 22 (nl (kidT s n 13))⟩])) (.one (.exit 0) [.undef,.undef,.int .i64 (.lit 0),.int .i64 (.lit 0),.bool (.var 7 ((kidT s n 13).any (wMat w))),.int .i64 (.lit 0),.undef,.undef,.undef] (hp3 [some ⟨1,.var 1 (encT 1 s)⟩] (.var 2 (setsL encP s)) [some ⟨1,.var 22 (nl (kidT s n 13))⟩])))] 14) (loopsOf (bodyOf Try.f13)):=
 dgood (mix G B) (by kernel_rfl) (.cons (kidsS_ok G B) .nil) (.cast (.cons (i:=0) (by kernel_rfl) rfl (DLat_okC rfl (w_loop G B hw n w)) .nil) (by kernel_rfl))
def waitVv (r:Int×Int×Bool×Int):AV:=.tup [.int .i64 r.1,.int .i64 r.2.1,.bool r.2.2.1,.int .i64 r.2.2.2]
theorem seen_free {s:Ptb} {c:Nat}:Seen tsP (freeX s c) 13 (some ⟨1,encT 1 (freeX s c)⟩::(List.range 13).map fun n=>some ⟨1,rowA (setsL encP s) n⟩):=
 seen_rows (t:=tsP) rfl tsP_ok (sets_same (t:=tsP) (s:=s) fun n p h=>by
  have h:(if n=c then none else s.sg n)=some p:=h
  split at h
  ·cases h
  ·exact h)
theorem p_wait (G:Nat→List AV) (B:Nat) {s:Ptb} (hw:Wf s) (n w:Int):ACalls (⟨Try.prog,G,B⟩:Ctx) 13 [.ptr (.rw 0) 0,.int .i64 n,.int .i64 w] (can tsP s) fun v H'=>v=waitVv (waitR s n w).1∧H'=can tsP (waitR s n w).2:=by
 have h:=dcall_ok (C:=(⟨Try.prog,G,B⟩:Ctx)) (K:=Dc Try.prog [36,38,39,20] [(31,kidsS)] [DLat 0x910 (isSt [.ptr (.rw 0) 0,.int .i64 w,.int .i64 0,.int .i64 0,.bool false,.int .i64 0,.slice true (.rw 14) 0 (kidT s n 13).length,.int .i64 ((kidT s n 13).length:Int),.int .i64 0] (vHp G (hp3 [some ⟨1,.var 1 (encT 1 s)⟩] (.var 2 (setsL encP s)) [some ⟨1,.var 22 (nl (kidT s n 13))⟩]))) 0 67 [0,2,6,7,8,9,32,33,34] (.tst (.var 9 (((kidT s n 13).find? (wHit s w)).isSome)) (.one .ret [.undef,.undef,.int .i64 (.var 10 ((((kidT s n 13).find? (wHit s w)).getD 0):Int)),.int .i64 (.var 11 (s.at_ (((kidT s n 13).find? (wHit s w)).getD 0)).st),.bool (.lit false),.int .i64 (.lit 0),.undef,.undef,.undef] (hp3 [some ⟨1,.var 21 (encT 1 (freeX s (((kidT s n 13).find? (wHit s w)).getD 0)))⟩] (.var 2 (setsL encP s)) [some ⟨1,.var 22 (nl (kidT s n 13))⟩])) (.one (.exit 0) [.undef,.undef,.int .i64 (.lit 0),.int .i64 (.lit 0),.bool (.var 7 ((kidT s n 13).any (wMat w))),.int .i64 (.lit 0),.undef,.undef,.undef] (hp3 [some ⟨1,.var 1 (encT 1 s)⟩] (.var 2 (setsL encP s)) [some ⟨1,.var 22 (nl (kidT s n 13))⟩])))] 14) (fuel:=300) (n0:=40) (f:=13) (fn:=Try.f13) (args:=[.ptr (.rw 0) (.lit 0),.int .i64 (.var 3 n),.int .i64 (.var 4 w)]) (H:=(hp3 [some ⟨1,.var 1 (encT 1 s)⟩] (.var 2 (setsL encP s)) [])) (keep:=14)
  (R:=fun v H=>v=waitVv (waitR s n w).1∧Seen tsP (waitR s n w).2 13 H) (dgW G B hw n w) (by kernel_rfl) (by kernel_rfl) (by kernel_rfl) (by
  have:=w_c G okK15 okK14 (isSt [.ptr (.rw 0) 0,.int .i64 w,.int .i64 0,.int .i64 0,.bool false,.int .i64 0,.slice true (.rw 14) 0 (kidT s n 13).length,.int .i64 ((kidT s n 13).length:Int),.int .i64 0] (vHp G (hp3 [some ⟨1,.var 1 (encT 1 s)⟩] (.var 2 (setsL encP s)) [some ⟨1,.var 22 (nl (kidT s n 13))⟩]))) (encT 1 s) (setsL encP s) (nl (kidT s n 13)) (encT 1 (freeX s (((kidT s n 13).find? (wHit s w)).getD 0))) n w ((((kidT s n 13).find? (wHit s w)).getD 0):Int) (s.at_ (((kidT s n 13).find? (wHit s w)).getD 0)).st (kidT s n 13).length (((kidT s n 13).find? (wHit s w)).isSome) ((kidT s n 13).any (wMat w)) (fun _ _ _=>False) (fun v H=>v=waitVv (waitR s n w).1∧Seen tsP (waitR s n w).2 13 H)
  refine Eq.mpr this ?_
  rw [kidNU_T,kidLU_T]
  refine ⟨rfl,fun _=>⟨rfl,rfl,live_tree 1 (fun hl=>?_) fun hl=>?_⟩,fun h=>by cases h⟩
  ·have fin:¬(w≠-1∧(w<1∨12<w))→((((kidT s n 13).find? (wHit s w)).isSome)=true→(waitVv (((((kidT s n 13).find? (wHit s w)).getD 0):Int),(s.at_ (((kidT s n 13).find? (wHit s w)).getD 0)).st,false,0)=waitVv (waitR s n w).1∧Seen tsP (waitR s n w).2 13 (some ⟨1,encT 1 (freeX s (((kidT s n 13).find? (wHit s w)).getD 0))⟩::(List.range 13).map fun n=>some ⟨1,rowA (setsL encP s) n⟩)))∧
     ((((kidT s n 13).find? (wHit s w)).isSome)=false→((kidT s n 13).any (wMat w)=true→(waitVv (0,0,true,0)=waitVv (waitR s n w).1∧Seen tsP (waitR s n w).2 13 (some ⟨1,encT 1 s⟩::(List.range 13).map fun n=>some ⟨1,rowA (setsL encP s) n⟩)))∧((kidT s n 13).any (wMat w)=false→(waitVv (0,0,false,6)=waitVv (waitR s n w).1∧Seen tsP (waitR s n w).2 13 (some ⟨1,encT 1 s⟩::(List.range 13).map fun n=>some ⟨1,rowA (setsL encP s) n⟩)))):=fun hr=>by
    unfold waitR
    rw [if_pos hl,if_neg hr]
    cases hf:(kidT s n 13).find? (wHit s w) with
    | some c=>exact ⟨fun _=>⟨rfl,seen_free⟩,fun h=>by cases h⟩
    | none=>
     refine ⟨(fun h=>by cases h),fun _=>⟨fun ha=>?_,fun ha=>?_⟩⟩
     ·dsimp only;rw [if_pos ha];exact ⟨rfl,seen_same⟩
     ·dsimp only;rw [if_neg (by rw [ha];simp)];exact ⟨rfl,seen_same⟩
   have bad:(w≠-1∧(w<1∨12<w))→(waitVv (0,0,false,2)=waitVv (waitR s n w).1∧Seen tsP (waitR s n w).2 13 (some ⟨1,encT 1 s⟩::(List.range 13).map fun n=>some ⟨1,rowA (setsL encP s) n⟩)):=fun hr=>by
    unfold waitR
    rw [if_pos hl,if_pos hr];exact ⟨rfl,seen_same⟩
   refine ⟨fun h1=>?_,fun h1=>⟨fun h2=>?_,fun h2=>⟨fun h3=>?_,fun h3=>?_⟩⟩⟩
   ·have h1:w=-1:=eq_of_beq h1
    exact ⟨rowsA_same _ 13,k14_ok hw,isSt_refl,(fin (by omega)).1,(fin (by omega)).2⟩
   ·have h1:¬w=-1:=fun e=>by rw [e] at h1;cases h1
    have h2:=of_decide_eq_true h2
    exact bad (by omega)
   ·have h1:¬w=-1:=fun e=>by rw [e] at h1;cases h1
    have h3:=of_decide_eq_true h3
    exact bad (by omega)
   ·have h2:=of_decide_eq_false h2
    have h3:=of_decide_eq_false h3
    exact ⟨rowsA_same _ 13,k14_ok hw,isSt_refl,(fin (by omega)).1,(fin (by omega)).2⟩
  ·unfold waitR
   rw [hl];exact ⟨rfl,seen_same⟩)
 rw [hT] at h
 exact pm_stay tsP_ok h rfl
end Go.Am
