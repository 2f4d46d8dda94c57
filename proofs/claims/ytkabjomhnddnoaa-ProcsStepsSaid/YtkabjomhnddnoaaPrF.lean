/-
  Sets of signals in a family: what the calls on them come to.
-/
import Derived.Test.YtkabjomhnddnoaaPrM
import Derived.Test.YtkabjomhnddnoaaBase5
namespace Go.Am
open Crc
variable {C:A3}
open Classical in
noncomputable def zO:List AV→List AV:=fun as=>match as with
 | [.agg cs]=>if h:∃ p,encR p=cs then encP (Classical.choose h) else []
 | _=>[]
open Classical in
noncomputable def tJ:List AV→Bool:=fun as=>match as with
 | [.agg cs]=>decide (∃ p,encR p=cs)
 | _=>false
theorem oP {p q:Sg} (h:encR p=encR q):p=q:=by
 have k1:∀ j,j<32→16≤j→(65534#32).getLsbD j=false:=by decide
 have k2:∀ j,j<32→16≤j→(65532#32).getLsbD j=false:=by decide
 refine Sg.ext ?_ ?_ fun i=>?_
 ·apply BitVec.eq_of_getLsbD_eq;intro j hj;by_cases h2:j<16
  ·have a:=eJ p h2;rw [h,eJ q h2] at a;simpa using a.symm
  ·rw [←p.hw,←q.hw,BitVec.getLsbD_and,BitVec.getLsbD_and]
   have:(65534#32).getLsbD j=false:=k1 j hj (by omega)
   rw [this,Bool.and_false,Bool.and_false]
 ·apply BitVec.eq_of_getLsbD_eq;intro j hj;by_cases h2:j<16
  ·have a:=eK p h2;rw [h,eK q h2] at a;simpa using a.symm
  ·rw [←p.hh,←q.hh,BitVec.getLsbD_and,BitVec.getLsbD_and]
   have:(65532#32).getLsbD j=false:=k2 j hj (by omega)
   rw [this,Bool.and_false,Bool.and_false]
 ·by_cases h2:i<16
  ·have a:=eM p h2;rw [h,eM q h2] at a;simp only [Option.some.injEq,AV.int.injEq,true_and] at a
   have:=congrArg V0 a
   rw [Bl,Bl] at this;exact this.symm
  ·rw [p.ha i (by omega),q.ha i (by omega)]
theorem Ai (p:Sg):zO [.agg (encR p)]=encP p:=by
 unfold zO;have h:∃ q,encR q=encR p:=⟨p,rfl⟩;simp only;rw [dif_pos h];exact congrArg encP (oP (Classical.choose_spec h))
theorem mS {cs:List AV}:tJ [.agg cs]=true↔∃ p,encR p=cs:=by
 unfold tJ;simp only [decide_eq_true_eq]
theorem Cc (p:Sg):tJ [.agg (encR p)]=true:=mS.2 ⟨p,rfl⟩
def Jh (rd:List AV→Bool) (pu:List AV→List AV):Side:=⟨fun l=>some (.uf 2053 rd [.agg l],.uf 2054 pu [.agg l]),fun l=>.uf 1002 B1 [.agg l]⟩
noncomputable def W2:Side:=Jh tJ zO
theorem Fc (G:Nat→List AV):Q5 G W2 encR:=by
 refine ⟨fun l b d h hb=>?_,fun l p h=>?_,fun p n=>U6 n p⟩
 ·simp only [W2,Jh,Option.some.injEq,Prod.mk.injEq] at h;obtain ⟨rfl,rfl⟩:=h;simp only [vB,vVs,vV] at hb;obtain ⟨p,hp⟩:=mS.1 hb;refine ⟨p,?_,hp.symm⟩;simp only [vL,vVs,vV,←hp,Ai]
 ·simp only [W2,Jh,vL,vVs,vV,h,E3]
inductive FO where
 | get (v:EV)
 | set (v:EV) (d:EL)
 | new (d:EL)
def foOut (s:Side) (H:DHp) (b c:Nat) (l:EL) (k:EN):FO→Outs
 | .get v=>.one v []
 | .set v d=>.one v (Sy b c 1 (.put l k (s.put d)))
 | .new d=>.one (.ptr (.rw H.length) (.lit 0)) [.new ⟨1,s.put d⟩]
def Qp (s:Side) (k:EL→List EV→Option FO):DSum:=fun args H=>match args with
 | .ptr (.fm b c i) o::rest=>match Gu H b c with
  | some (z,l,ls)=>match Nat.beq z 1,s.get (.row l i) with
   | true,some (bc,d)=>match k d rest with
    | some fo=>some (.chk (.eqN o (.lit 0)) (.chk (S4 (N1 i (.lit 1)) (.lit c)) (.chk (.rows l ls) (.chk (S4 (N1 i (.lit 1)) (.len l)) (.chk bc (foOut s H b c l i fo))))))
    | none=>none
   | _,_=>none
  | none=>none
 | _=>none
def foOk (C:A3) (f:FuncId) (enc:Sg→List AV) (p:Sg) (rest:List EV):FO→Prop
 | .get v=>Z4 C f enc p (vVs C.G rest) (vV C.G v) p∧bnd 0 (vV C.G v)=true∧vV C.G v≠.undef
 | .set v d=>∃ p',vL C.G d=encP p'∧Z4 C f enc p (vVs C.G rest) (vV C.G v) p'∧bnd 0 (vV C.G v)=true∧vV C.G v≠.undef
 | .new d=>rest=[]∧∃ p',vL C.G d=encP p'∧ACalls C f [.ptr (.rw 0) 0] [some ⟨1,enc p⟩] fun v' H'=>v'=.ptr (.rw 1) 0∧H'=[some ⟨1,enc p⟩,some ⟨1,enc p'⟩]
theorem Yz {G:Nat→List AV} {a b:EN} (h:vB G (S4 a b)=true):vN G a≤vN G b:=by
 rw [Go.Am.R1] at h;exact A6.1 h
theorem Kt {s:Side} {enc:Sg→List AV} (hs:Q5 C.G s enc) {f:FuncId} {k:EL→List EV→Option FO}
  (h:∀ d rest fo p,k d rest=some fo→vL C.G d=encP p→A8 0 (vVs C.G rest)=true∧foOk C f enc p rest fo):G0 C f (Qp s k):=by
 intro args H o ho;unfold Qp at ho;split at ho
 ·rename_i b c i o0 rest;split at ho
  ·rename_i z l ls hf;split at ho
   ·rename_i bc d hz hg;have hz:=Nat.eq_of_beq_eq_true hz;subst hz;split at ho
    ·rename_i fo hk;simp only [Option.some.injEq] at ho;subst ho;intro h1 h2 h3 h4 h5;have h1:vN C.G o0=0:=Nat.eq_of_beq_eq_true h1;have h2:=Yz h2;have h4:=Yz h4;rw [L1] at h2 h4;have h2:vN C.G i+1≤c:=h2;have h4:vN C.G i+1≤(vL C.G l).length:=h4;have h3:rowsA (vL C.G l) (vVs C.G ls)=true:=h3;obtain ⟨p,e1,e2⟩:=hs.get _ _ _ hg h5;have e2:A1 (vL C.G l) (vN C.G i)=enc p:=e2;have hat:=Mu hf h3 (i:=vN C.G i) (by omega);rw [e2] at hat;obtain ⟨hr,hfo⟩:=h d rest fo p hk e1
     have args0:vVs C.G (.ptr (.fm b c i) o0::rest)=.ptr (.rw (b+vN C.G i)) 0::vVs C.G rest:=by simp only [vVs,vV,vR,h1]
     have hlt:b+vN C.G i<(vHp C.G H).length:=(List.getElem?_eq_some_iff.1 hat).1;cases fo with
     | get v=>
      obtain ⟨m,hb,hu⟩:=hfo;have m:=m.keep (by simp) (by simp [D7,hs.flat]) (O0 (Nat.zero_le _) _ hb) hu
      have:=nB (news:=[]) m (hs.flat _ _) (hs.flat _ _) hr (O0 (Nat.zero_le _) _ hb) (fun b hb=>by simp at hb) hat
      show E1 C f _ H v [];unfold E1;rw [args0];refine this.monoK ?_;rintro v' H' ⟨rfl,rfl⟩;refine ⟨U2 _ _ hb,?_⟩;simp only [List.map_nil,List.append_nil,acts,List.foldl];have e:(vHp C.G H)[b+vN C.G i]=some ⟨1,enc p⟩:=(List.getElem?_eq_some_iff.1 hat).2;rw [←e];exact List.set_getElem_self hlt
     | set v d'=>
      obtain ⟨p',e3,m,hb,hu⟩:=hfo;have m:=m.keep (by simp) (by simp [D7,hs.flat]) (O0 (Nat.zero_le _) _ hb) hu
      have:=nB (news:=[]) m (hs.flat _ _) (hs.flat _ _) hr (O0 (Nat.zero_le _) _ hb) (fun b hb=>by simp at hb) hat
      show E1 C f _ H v _;unfold E1;rw [args0];refine this.monoK ?_;rintro v' H' ⟨rfl,rfl⟩;refine ⟨U2 _ _ hb,?_⟩;rw [dX (N:=enc p') hf h3 (k:=vN C.G i) (by omega) (by omega) (by simp only [vL,hs.put _ p' e3])];simp
     | new d'=>
      obtain ⟨rfl,p',e3,m⟩:=hfo
      have:=nB (rest:=[]) (news:=[⟨1,enc p'⟩]) m (hs.flat _ _) (hs.flat _ _) rfl (by simp [bnd]) (fun b hb=>by simp at hb;subst hb;exact hs.flat _ _) hat
      show E1 C f _ H _ _;unfold E1;rw [args0];refine this.monoK ?_;rintro v' H' ⟨rfl,rfl⟩;refine ⟨by simp [J0,ren,vV,vR,vN,C0],?_⟩;have e:(vHp C.G H)[b+vN C.G i]=some ⟨1,enc p⟩:=(List.getElem?_eq_some_iff.1 hat).2;have e5:(vHp C.G H).set (b+vN C.G i) (some ⟨1,enc p⟩)=vHp C.G H:=by rw [←e];exact List.set_getElem_self hlt
      rw [e5];simp [acts,Hop.act,G2,C9,hs.put _ p' e3]
    ·simp at ho
   ·simp at ho
  ·simp at ho
 ·simp at ho
def sendE:List AV→Int:=fun as=>match as with
 | [.int _ n]=>if Y4 n 0 15 then 2 else 0
 | _=>0
def U1 (p:Sg) (n:Int):Sg:=if Y4 n 0 15 then p else send p n
def W6:List AV→List AV:=Tz [] fun p n=>encP (U1 p n)
def Ix (n a:Int):Bool:=Y4 n 2 15||Y4 a 0 4294967295
def Oq (p:Sg) (n a:Int):Sg:=if Ix n a then p else dS p n a
def Sv (p:Sg) (n a:Int):Int:=if Ix n a then 0 else u (p.at_ n.toNat)
def Fx:List AV→List AV:=fun as=>match as with
 | [.agg cs,.int _ n,.int _ a]=>encP (Oq (Hh cs) n a)
 | _=>[]
def Fy:List AV→Int:=fun as=>match as with
 | [.agg cs,.int _ n,.int _ a]=>Sv (Hh cs) n a
 | _=>0
def Fz:List AV→Int:=fun as=>match as with
 | [.int _ n,.int _ a]=>if Ix n a then 2 else 0
 | _=>0
def Gb (s:Side):DSum:=Qp s fun d rest=>match rest with
 | [.int .i64 n]=>some (.set (.int .i64 (.uf 2060 sendE [.int .i64 n])) (.uf 2061 W6 [.agg d,.int .i64 n]))
 | _=>none
def oM (s:Side):DSum:=Qp s fun d rest=>match rest with
 | [.int .i64 n]=>some (.set (.tup [.int .i64 (.uf 1012 Eo [.agg d]),Jv 0]) (.uf 1011 Gs [.agg d,.int .i64 n]))
 | _=>none
def bN (s:Side):DSum:=Qp s fun d rest=>match rest with
 | [.int .i64 n,.int .i64 a]=>some (.set (.tup [.int .i64 (.uf 2062 Fy [.agg d,.int .i64 n,.int .i64 a]),.int .i64 (.uf 2063 Fz [.int .i64 n,.int .i64 a])]) (.uf 2064 Fx [.agg d,.int .i64 n,.int .i64 a]))
 | _=>none
def Pw (s:Side):DSum:=Qp s fun d rest=>match rest with
 | []=>some (.set (.tup [.agg (.of [.int .i64 (.uf 1016 G3 [.agg d]),.bool (.uf 1017 J3 [.agg d]),.int .u32 (.uf 1018 T9 [.agg d])]),.bool (.uf 1019 Db [.agg d])]) (.uf 1015 M1 [.agg d]))
 | _=>none
def Sz (s:Side):DSum:=Qp s fun d rest=>match rest with
 | []=>some (.new d)
 | _=>none
def Bh (s:Side):DSum:=Qp s fun d rest=>match rest with
 | []=>some (.new (.uf 1023 Mv [.agg d]))
 | _=>none
variable {s:Side} {enc:Sg→List AV}
theorem Rb (hs:Q5 C.G s enc) {f:FuncId} (h:Xv C f enc):G0 C f (Gb s):=by
 refine Kt hs fun d rest fo p hk hd=>?_;split at hk
 ·rename_i n;simp only [Option.some.injEq] at hk;subst hk;refine ⟨by simp [vVs,vV,A8,bnd],U1 p (vI C.G n),by simp only [vL,vVs,vV,hd,W6,Tz,E8],?_,by simp [vV,bnd],by simp [vV]⟩
  have:=h p (vI C.G n)
  simp only [vV,vI,vVs,sendE];exact this
 ·simp at hk
theorem jG (hs:Q5 C.G s enc) {f:FuncId} (h:fE C f enc):G0 C f (oM s):=by
 refine Kt hs fun d rest fo p hk hd=>?_;split at hk
 ·rename_i n;simp only [Option.some.injEq] at hk;subst hk;refine ⟨by simp [vVs,vV,A8,bnd],Po p (vI C.G n),by simp only [vL,vVs,vV,hd,It],?_,by simp [vV,vVs,Jv,bnd,A8],by simp [vV]⟩
  have:=h p (vI C.G n)
  simp only [vV,vI,vVs,Jv,hd,Cy];exact this
 ·simp at hk
theorem aL (hs:Q5 C.G s enc) {f:FuncId} (h:bY C f enc):G0 C f (bN s):=by
 refine Kt hs fun d rest fo p hk hd=>?_;split at hk
 ·rename_i n a;simp only [Option.some.injEq] at hk;subst hk;refine ⟨by simp [vVs,vV,A8,bnd],Oq p (vI C.G n) (vI C.G a),by simp only [vL,vVs,vV,hd,Fx,E8],?_,by simp [vV,vVs,bnd,A8],by simp [vV]⟩
  have:=h p (vI C.G n) (vI C.G a)
  have e:(Y4 (vI C.G n) 2 15||Y4 (vI C.G a) 0 4294967295)=Ix (vI C.G n) (vI C.G a):=rfl;rw [e] at this;cases hb:Ix (vI C.G n) (vI C.G a) with
  | true=>
   rw [hb] at this;simp only [vV,vI,vVs,hd,Fy,Fz,E8,Sv,Oq,hb,if_true];exact this
  | false=>
   rw [hb] at this;simp only [vV,vI,vVs,hd,Fy,Fz,E8,Sv,Oq,hb,Bool.false_eq_true,if_false];exact this
 ·simp at hk
theorem jF (hs:Q5 C.G s enc) {f:FuncId} (h:pD C f enc):G0 C f (Pw s):=by
 refine Kt hs fun d rest fo p hk hd=>?_;split at hk
 ·simp only [Option.some.injEq] at hk;subst hk;refine ⟨by simp [vVs,A8],Io p,by simp only [vL,vVs,vV,hd,Se],?_,by simp [vV,vVs,vL,bnd,A8],by simp [vV]⟩
  have:=h p
  simp only [vV,vI,vVs,vB,vL,hd,Jd,Hj,Mi,Mh];exact this
 ·simp at hk
theorem Xk (hs:Q5 C.G s enc) {f:FuncId} (h:Mb C f enc (fun _=>.ptr (.rw 1) 0) enc):G0 C f (Sz s):=by
 refine Kt hs fun d rest fo p hk hd=>?_;split at hk
 ·simp only [Option.some.injEq] at hk;subst hk;exact ⟨by simp [vVs,A8],rfl,p,hd,h p⟩
 ·simp at hk
theorem Nw (hs:Q5 C.G s enc) {f:FuncId} (h:Mb C f enc (fun _=>.ptr (.rw 1) 0) fun p=>enc (Kn p 0#32)):G0 C f (Bh s):=by
 refine Kt hs fun d rest fo p hk hd=>?_;split at hk
 ·simp only [Option.some.injEq] at hk;subst hk;exact ⟨by simp [vVs,A8],rfl,Kn p 0#32,by simp only [vL,vVs,vV,hd,Jx],h p⟩
 ·simp at hk
end Go.Am
