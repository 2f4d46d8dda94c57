/-
  Sets of signals in a family: what the calls on them come to.
-/
import Derived.Test.YtkabjomhnddnoaaPrM
import Derived.Test.YtkabjomhnddnoaaBase5
namespace Go.Am
open Crc
variable {C:Ctx}
open Classical in
noncomputable def toPU:List AV→List AV:=fun as=>match as with
 | [.agg cs]=>if h:∃ p,encR p=cs then encP (Classical.choose h) else []
 | _=>[]
open Classical in
noncomputable def okRd:List AV→Bool:=fun as=>match as with
 | [.agg cs]=>decide (∃ p,encR p=cs)
 | _=>false
theorem encR_inj {p q:Sg} (h:encR p=encR q):p=q:=by
 have k1:∀ j,j<32→16≤j→(65534#32).getLsbD j=false:=by decide
 have k2:∀ j,j<32→16≤j→(65532#32).getLsbD j=false:=by decide
 refine Sg.ext ?_ ?_ fun i=>?_
 ·apply BitVec.eq_of_getLsbD_eq
  intro j hj
  by_cases h2:j<16
  ·have a:=encR_w p h2
   rw [h,encR_w q h2] at a
   simpa using a.symm
  ·rw [←p.hw,←q.hw,BitVec.getLsbD_and,BitVec.getLsbD_and]
   have:(65534#32).getLsbD j=false:=k1 j hj (by omega)
   rw [this,Bool.and_false,Bool.and_false]
 ·apply BitVec.eq_of_getLsbD_eq
  intro j hj
  by_cases h2:j<16
  ·have a:=encR_h p h2
   rw [h,encR_h q h2] at a
   simpa using a.symm
  ·rw [←p.hh,←q.hh,BitVec.getLsbD_and,BitVec.getLsbD_and]
   have:(65532#32).getLsbD j=false:=k2 j hj (by omega)
   rw [this,Bool.and_false,Bool.and_false]
 ·by_cases h2:i<16
  ·have a:=encR_a p h2
   rw [h,encR_a q h2] at a
   simp only [Option.some.injEq,AV.int.injEq,true_and] at a
   have:=congrArg w32 a
   rw [w32_u,w32_u] at this
   exact this.symm
  ·rw [p.ha i (by omega),q.ha i (by omega)]
theorem toPU_enc (p:Sg):toPU [.agg (encR p)]=encP p:=by
 unfold toPU
 have h:∃ q,encR q=encR p:=⟨p,rfl⟩
 simp only
 rw [dif_pos h]
 exact congrArg encP (encR_inj (Classical.choose_spec h))
theorem okRd_iff {cs:List AV}:okRd [.agg cs]=true↔∃ p,encR p=cs:=by
 unfold okRd;simp only [decide_eq_true_eq]
theorem okRd_enc (p:Sg):okRd [.agg (encR p)]=true:=okRd_iff.2 ⟨p,rfl⟩
def sideQ (rd:List AV→Bool) (pu:List AV→List AV):Side:=⟨fun l=>some (.uf 2053 rd [.agg l],.uf 2054 pu [.agg l]),fun l=>.uf 1002 encRU [.agg l]⟩
noncomputable def sideD:Side:=sideQ okRd toPU
theorem sideD_ok (G:Nat→List AV):SideOk G sideD encR:=by
 refine ⟨fun l b d h hb=>?_,fun l p h=>?_,fun p n=>encR_flat n p⟩
 ·simp only [sideD,sideQ,Option.some.injEq,Prod.mk.injEq] at h
  obtain ⟨rfl,rfl⟩:=h
  simp only [vB,vVs,vV] at hb
  obtain ⟨p,hp⟩:=okRd_iff.1 hb
  refine ⟨p,?_,hp.symm⟩
  simp only [vL,vVs,vV,←hp,toPU_enc]
 ·simp only [sideD,sideQ,vL,vVs,vV,h,encRU_enc]
inductive FO where
 | get (v:EV)
 | set (v:EV) (d:EL)
 | new (d:EL)
def foOut (s:Side) (H:DHp) (b c:Nat) (l:EL) (k:EN):FO→Outs
 | .get v=>.one v []
 | .set v d=>.one v (famSets b c 1 (.put l k (s.put d)))
 | .new d=>.one (.ptr (.rw H.length) (.lit 0)) [.new ⟨1,s.put d⟩]
def onFam (s:Side) (k:EL→List EV→Option FO):DSum:=fun args H=>match args with
 | .ptr (.fm b c i) o::rest=>match famAt H b c with
  | some (z,l,ls)=>match Nat.beq z 1,s.get (.row l i) with
   | true,some (bc,d)=>match k d rest with
    | some fo=>some (.chk (.eqN o (.lit 0)) (.chk (mkLe (mkAdd i (.lit 1)) (.lit c)) (.chk (.rows l ls) (.chk (mkLe (mkAdd i (.lit 1)) (.len l)) (.chk bc (foOut s H b c l i fo))))))
    | none=>none
   | _,_=>none
  | none=>none
 | _=>none
def foOk (C:Ctx) (f:FuncId) (enc:Sg→List AV) (p:Sg) (rest:List EV):FO→Prop
 | .get v=>Meth C f enc p (vVs C.G rest) (vV C.G v) p∧bnd 0 (vV C.G v)=true∧vV C.G v≠.undef
 | .set v d=>∃ p',vL C.G d=encP p'∧Meth C f enc p (vVs C.G rest) (vV C.G v) p'∧bnd 0 (vV C.G v)=true∧vV C.G v≠.undef
 | .new d=>rest=[]∧∃ p',vL C.G d=encP p'∧ACalls C f [.ptr (.rw 0) 0] [some ⟨1,enc p⟩] fun v' H'=>v'=.ptr (.rw 1) 0∧H'=[some ⟨1,enc p⟩,some ⟨1,enc p'⟩]
theorem le_mkLe {G:Nat→List AV} {a b:EN} (h:vB G (mkLe a b)=true):vN G a≤vN G b:=by
 rw [Go.Am.vB_mkLe] at h;exact leB_iff.1 h
theorem onFam_ok {s:Side} {enc:Sg→List AV} (hs:SideOk C.G s enc) {f:FuncId} {k:EL→List EV→Option FO}
  (h:∀ d rest fo p,k d rest=some fo→vL C.G d=encP p→bnds 0 (vVs C.G rest)=true∧foOk C f enc p rest fo):DSumOk C f (onFam s k):=by
 intro args H o ho
 unfold onFam at ho
 split at ho
 ·rename_i b c i o0 rest
  split at ho
  ·rename_i z l ls hf
   split at ho
   ·rename_i bc d hz hg
    have hz:=Nat.eq_of_beq_eq_true hz
    subst hz
    split at ho
    ·rename_i fo hk
     simp only [Option.some.injEq] at ho
     subst ho
     intro h1 h2 h3 h4 h5
     have h1:vN C.G o0=0:=Nat.eq_of_beq_eq_true h1
     have h2:=le_mkLe h2
     have h4:=le_mkLe h4
     rw [vN_mkAdd] at h2 h4
     have h2:vN C.G i+1≤c:=h2
     have h4:vN C.G i+1≤(vL C.G l).length:=h4
     have h3:rowsA (vL C.G l) (vVs C.G ls)=true:=h3
     obtain ⟨p,e1,e2⟩:=hs.get _ _ _ hg h5
     have e2:rowA (vL C.G l) (vN C.G i)=enc p:=e2
     have hat:=fam_at hf h3 (i:=vN C.G i) (by omega)
     rw [e2] at hat
     obtain ⟨hr,hfo⟩:=h d rest fo p hk e1
     have args0:vVs C.G (.ptr (.fm b c i) o0::rest)=.ptr (.rw (b+vN C.G i)) 0::vVs C.G rest:=by simp only [vVs,vV,vR,h1]
     have hlt:b+vN C.G i<(vHp C.G H).length:=(List.getElem?_eq_some_iff.1 hat).1
     cases fo with
     | get v=>
      obtain ⟨m,hb,hu⟩:=hfo
      have m:=m.keep (by simp) (by simp [hpB,hs.flat]) (bnd_mono (Nat.zero_le _) _ hb) hu
      have:=meth (news:=[]) m (hs.flat _ _) (hs.flat _ _) hr (bnd_mono (Nat.zero_le _) _ hb) (fun b hb=>by simp at hb) hat
      show DOut C f _ H v []
      unfold DOut
      rw [args0]
      refine this.monoK ?_
      rintro v' H' ⟨rfl,rfl⟩
      refine ⟨ren_flat _ _ hb,?_⟩
      simp only [List.map_nil,List.append_nil,acts,List.foldl]
      have e:(vHp C.G H)[b+vN C.G i]=some ⟨1,enc p⟩:=(List.getElem?_eq_some_iff.1 hat).2
      rw [←e];exact List.set_getElem_self hlt
     | set v d'=>
      obtain ⟨p',e3,m,hb,hu⟩:=hfo
      have m:=m.keep (by simp) (by simp [hpB,hs.flat]) (bnd_mono (Nat.zero_le _) _ hb) hu
      have:=meth (news:=[]) m (hs.flat _ _) (hs.flat _ _) hr (bnd_mono (Nat.zero_le _) _ hb) (fun b hb=>by simp at hb) hat
      show DOut C f _ H v _
      unfold DOut
      rw [args0]
      refine this.monoK ?_
      rintro v' H' ⟨rfl,rfl⟩
      refine ⟨ren_flat _ _ hb,?_⟩
      rw [famSets_ok (N:=enc p') hf h3 (k:=vN C.G i) (by omega) (by omega) (by simp only [vL,hs.put _ p' e3])]
      simp
     | new d'=>
      obtain ⟨rfl,p',e3,m⟩:=hfo
      have:=meth (rest:=[]) (news:=[⟨1,enc p'⟩]) m (hs.flat _ _) (hs.flat _ _) rfl (by simp [bnd]) (fun b hb=>by simp at hb;subst hb;exact hs.flat _ _) hat
      show DOut C f _ H _ _
      unfold DOut
      rw [args0]
      refine this.monoK ?_
      rintro v' H' ⟨rfl,rfl⟩
      refine ⟨by simp [wide,ren,vV,vR,vN,vHp_length],?_⟩
      have e:(vHp C.G H)[b+vN C.G i]=some ⟨1,enc p⟩:=(List.getElem?_eq_some_iff.1 hat).2
      have e5:(vHp C.G H).set (b+vN C.G i) (some ⟨1,enc p⟩)=vHp C.G H:=by rw [←e];exact List.set_getElem_self hlt
      rw [e5]
      simp [acts,Hop.act,vHop,vBlk,hs.put _ p' e3]
    ·simp at ho
   ·simp at ho
  ·simp at ho
 ·simp at ho
def sendE:List AV→Int:=fun as=>match as with
 | [.int _ n]=>if outB n 0 15 then 2 else 0
 | _=>0
def sendX (p:Sg) (n:Int):Sg:=if outB n 0 15 then p else send p n
def sendXU:List AV→List AV:=onPI [] fun p n=>encP (sendX p n)
def handleE (n a:Int):Bool:=outB n 2 15||outB a 0 4294967295
def handleX (p:Sg) (n a:Int):Sg:=if handleE n a then p else handle p n a
def handleV (p:Sg) (n a:Int):Int:=if handleE n a then 0 else u (p.at_ n.toNat)
def handleXU:List AV→List AV:=fun as=>match as with
 | [.agg cs,.int _ n,.int _ a]=>encP (handleX (decP cs) n a)
 | _=>[]
def handleVU:List AV→Int:=fun as=>match as with
 | [.agg cs,.int _ n,.int _ a]=>handleV (decP cs) n a
 | _=>0
def handleEU:List AV→Int:=fun as=>match as with
 | [.int _ n,.int _ a]=>if handleE n a then 2 else 0
 | _=>0
def fSendS (s:Side):DSum:=onFam s fun d rest=>match rest with
 | [.int .i64 n]=>some (.set (.int .i64 (.uf 2060 sendE [.int .i64 n])) (.uf 2061 sendXU [.agg d,.int .i64 n]))
 | _=>none
def fMaskS (s:Side):DSum:=onFam s fun d rest=>match rest with
 | [.int .i64 n]=>some (.set (.tup [.int .i64 (.uf 1012 heldU [.agg d]),eno 0]) (.uf 1011 maskU [.agg d,.int .i64 n]))
 | _=>none
def fHandleS (s:Side):DSum:=onFam s fun d rest=>match rest with
 | [.int .i64 n,.int .i64 a]=>some (.set (.tup [.int .i64 (.uf 2062 handleVU [.agg d,.int .i64 n,.int .i64 a]),.int .i64 (.uf 2063 handleEU [.int .i64 n,.int .i64 a])]) (.uf 2064 handleXU [.agg d,.int .i64 n,.int .i64 a]))
 | _=>none
def fTakeS (s:Side):DSum:=onFam s fun d rest=>match rest with
 | []=>some (.set (.tup [.agg (.of [.int .i64 (.uf 1016 tkSigU [.agg d]),.bool (.uf 1017 tkEndsU [.agg d]),.int .u32 (.uf 1018 tkAtU [.agg d])]),.bool (.uf 1019 tkOkU [.agg d])]) (.uf 1015 tkU [.agg d]))
 | _=>none
def fCopyS (s:Side):DSum:=onFam s fun d rest=>match rest with
 | []=>some (.new d)
 | _=>none
def fChildS (s:Side):DSum:=onFam s fun d rest=>match rest with
 | []=>some (.new (.uf 1023 childU [.agg d]))
 | _=>none
variable {s:Side} {enc:Sg→List AV}
theorem fSendS_ok (hs:SideOk C.G s enc) {f:FuncId} (h:SendOk C f enc):DSumOk C f (fSendS s):=by
 refine onFam_ok hs fun d rest fo p hk hd=>?_
 split at hk
 ·rename_i n
  simp only [Option.some.injEq] at hk;subst hk
  refine ⟨by simp [vVs,vV,bnds,bnd],sendX p (vI C.G n),by simp only [vL,vVs,vV,hd,sendXU,onPI,decP_enc],?_,by simp [vV,bnd],by simp [vV]⟩
  have:=h p (vI C.G n)
  simp only [vV,vI,vVs,sendE]
  exact this
 ·simp at hk
theorem fMaskS_ok (hs:SideOk C.G s enc) {f:FuncId} (h:MaskOk C f enc):DSumOk C f (fMaskS s):=by
 refine onFam_ok hs fun d rest fo p hk hd=>?_
 split at hk
 ·rename_i n
  simp only [Option.some.injEq] at hk;subst hk
  refine ⟨by simp [vVs,vV,bnds,bnd],mask p (vI C.G n),by simp only [vL,vVs,vV,hd,maskU_enc],?_,by simp [vV,vVs,eno,bnd,bnds],by simp [vV]⟩
  have:=h p (vI C.G n)
  simp only [vV,vI,vVs,eno,hd,heldU_enc]
  exact this
 ·simp at hk
theorem fHandleS_ok (hs:SideOk C.G s enc) {f:FuncId} (h:HandleOk C f enc):DSumOk C f (fHandleS s):=by
 refine onFam_ok hs fun d rest fo p hk hd=>?_
 split at hk
 ·rename_i n a
  simp only [Option.some.injEq] at hk;subst hk
  refine ⟨by simp [vVs,vV,bnds,bnd],handleX p (vI C.G n) (vI C.G a),by simp only [vL,vVs,vV,hd,handleXU,decP_enc],?_,by simp [vV,vVs,bnd,bnds],by simp [vV]⟩
  have:=h p (vI C.G n) (vI C.G a)
  have e:(outB (vI C.G n) 2 15||outB (vI C.G a) 0 4294967295)=handleE (vI C.G n) (vI C.G a):=rfl
  rw [e] at this
  cases hb:handleE (vI C.G n) (vI C.G a) with
  | true=>
   rw [hb] at this
   simp only [vV,vI,vVs,hd,handleVU,handleEU,decP_enc,handleV,handleX,hb,if_true]
   exact this
  | false=>
   rw [hb] at this
   simp only [vV,vI,vVs,hd,handleVU,handleEU,decP_enc,handleV,handleX,hb,Bool.false_eq_true,if_false]
   exact this
 ·simp at hk
theorem fTakeS_ok (hs:SideOk C.G s enc) {f:FuncId} (h:TakeOk C f enc):DSumOk C f (fTakeS s):=by
 refine onFam_ok hs fun d rest fo p hk hd=>?_
 split at hk
 ·simp only [Option.some.injEq] at hk;subst hk
  refine ⟨by simp [vVs,bnds],tkP p,by simp only [vL,vVs,vV,hd,tkU_enc],?_,by simp [vV,vVs,vL,bnd,bnds],by simp [vV]⟩
  have:=h p
  simp only [vV,vI,vVs,vB,vL,hd,tkSigU_enc,tkEndsU_enc,tkAtU_enc,tkOkU_enc]
  exact this
 ·simp at hk
theorem fCopyS_ok (hs:SideOk C.G s enc) {f:FuncId} (h:NewOk C f enc (fun _=>.ptr (.rw 1) 0) enc):DSumOk C f (fCopyS s):=by
 refine onFam_ok hs fun d rest fo p hk hd=>?_
 split at hk
 ·simp only [Option.some.injEq] at hk;subst hk
  exact ⟨by simp [vVs,bnds],rfl,p,hd,h p⟩
 ·simp at hk
theorem fChildS_ok (hs:SideOk C.G s enc) {f:FuncId} (h:NewOk C f enc (fun _=>.ptr (.rw 1) 0) fun p=>enc (setW p 0#32)):DSumOk C f (fChildS s):=by
 refine onFam_ok hs fun d rest fo p hk hd=>?_
 split at hk
 ·simp only [Option.some.injEq] at hk;subst hk
  exact ⟨by simp [vVs,bnds],rfl,setW p 0#32,by simp only [vL,vVs,vV,hd,childU_enc],h p⟩
 ·simp at hk
end Go.Am
