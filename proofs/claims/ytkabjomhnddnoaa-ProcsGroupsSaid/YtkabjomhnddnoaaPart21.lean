/-
  Processes: two sets of a family are the same. Processes: the program's Same: trees.
-/
import Derived.Test.YtkabjomhnddnoaaPart19
import Derived.Test.YtkabjomhnddnoaaPart20
namespace Go.Am
open Go.Proofs Crc
set_option maxRecDepth 100000
theorem s24a (G:Nat→List AV) (tb:List AV) (Q:Ex→List AV→Hp→Prop) (R:AV→Hp→Prop):vT G Q R (dcall (Dc Try.prog [55] [] [] 0) 100 10 Try.f24 [.nilp,.nilp] [] 0)=(
  R (.bool (true)) []):=by kernel_rfl
theorem s24b (G:Nat→List AV) (tb:List AV) (Q:Ex→List AV→Hp→Prop) (R:AV→Hp→Prop):vT G Q R (dcall (Dc Try.prog [55] [] [] 0) 100 10 Try.f24 [.nilp,.ptr (.rw 0) (.lit 0)] [some ⟨1,.var 1 tb⟩] 1)=(
  isB tb (0)=true∧
 R (.bool ((!(getB tb (0))))) [some ⟨1,tb⟩]):=by kernel_rfl
theorem s24c (G:Nat→List AV) (tb:List AV) (Q:Ex→List AV→Hp→Prop) (R:AV→Hp→Prop):vT G Q R (dcall (Dc Try.prog [55] [] [] 0) 100 10 Try.f24 [.ptr (.rw 0) (.lit 0),.nilp] [some ⟨1,.var 1 tb⟩] 1)=(
  isB tb (0)=true∧
 (getB tb (0)=true→
 isB tb (0)=true∧
 R (.bool ((!(getB tb (0))))) [some ⟨1,tb⟩])∧
 (getB tb (0)=false→
 isB tb (0)=true∧
 R (.bool ((!(getB tb (0))))) [some ⟨1,tb⟩])):=by kernel_rfl
theorem n_same0 (G:Nat→List AV) (B:Nat):ACalls (⟨Try.prog,G,B⟩:Ctx) 24 [.nilp,.nilp] [] fun v H'=>v=.bool true∧H'.take 0=[]:=by
 have:=dcall_ok (C:=(⟨Try.prog,G,B⟩:Ctx)) (f:=24) (args:=[.nilp,.nilp]) (H:=[]) (keep:=0) (R:=fun v H'=>v=.bool true∧H'=[]) (dgood (inl:=[55]) (sums:=[]) (ls:=[]) (M:=0) (cs:=[]) (mix G B) (by kernel_rfl) .nil .nil) (by kernel_rfl) (by kernel_rfl) (by kernel_rfl) (fuel:=100) (n0:=10) (by rw [s24a G []];exact ⟨rfl,rfl⟩)
 exact this
theorem n_same1 (G:Nat→List AV) (B:Nat) (p:Sg):ACalls (⟨Try.prog,G,B⟩:Ctx) 24 [.nilp,.ptr (.rw 0) 0] [some ⟨1,encP p⟩] fun v H'=>v=.bool false∧H'.take 1=[some ⟨1,encP p⟩]:=by
 have:=dcall_ok (C:=(⟨Try.prog,G,B⟩:Ctx)) (f:=24) (args:=[.nilp,.ptr (.rw 0) (.lit 0)]) (H:=[some ⟨1,.var 1 (encP p)⟩]) (keep:=1) (R:=fun v H'=>v=.bool false∧H'=[some ⟨1,encP p⟩]) (dgood (inl:=[55]) (sums:=[]) (ls:=[]) (M:=0) (cs:=[]) (mix G B) (by kernel_rfl) .nil .nil) (by kernel_rfl) (by kernel_rfl) (by kernel_rfl) (fuel:=100) (n0:=10) (by rw [s24b];exact ⟨rfl,rfl,rfl⟩)
 exact this
theorem n_same2 (G:Nat→List AV) (B:Nat) (p:Sg):ACalls (⟨Try.prog,G,B⟩:Ctx) 24 [.ptr (.rw 0) 0,.nilp] [some ⟨1,encP p⟩] fun v H'=>v=.bool false∧H'.take 1=[some ⟨1,encP p⟩]:=by
 have:=dcall_ok (C:=(⟨Try.prog,G,B⟩:Ctx)) (f:=24) (args:=[.ptr (.rw 0) (.lit 0),.nilp]) (H:=[some ⟨1,.var 1 (encP p)⟩]) (keep:=1) (R:=fun v H'=>v=.bool false∧H'=[some ⟨1,encP p⟩]) (dgood (inl:=[55]) (sums:=[]) (ls:=[]) (M:=0) (cs:=[]) (mix G B) (by kernel_rfl) .nil .nil) (by kernel_rfl) (by kernel_rfl) (by kernel_rfl) (fuel:=100) (n0:=10) (by rw [s24c];exact ⟨rfl,fun _=>⟨rfl,rfl,rfl⟩,fun h=>by cases h⟩)
 exact this
theorem DOut.rdA {C:Ctx} {f:FuncId} {args0:List AV} {args:List EV} {H:DHp} {θ:List Nat} {H0:Hp} {v:EV} {k:Nat} (hnd:θ.Nodup) (hl:θ.length=H0.length)
  (hlive:∀ (i:Nat) b,H0[i]?=some b→∃ b0,b=some b0∧bnds 0 b0.cells=true∧(vHp C.G H)[θ.getD i 0]?=some (some b0))
  (ha:bnds θ.length args0=true) (he:vVs C.G args=rens θ args0) (h:ACalls C f args0 H0 fun v' H'=>v'=vV C.G v∧H'.take k=H0) (hv:bnd 0 (vV C.G v)=true) (hu:vV C.G v≠.undef):DOut C f args H v []:=by
 have hb:hpB H0.length H0=true:=by
  have key:∀ (n:Nat) (A:Hp),(∀ (i:Nat) x,A[i]?=some (some x)→bnds n x.cells=true)→hpB n A=true:=by
   intro n A
   induction A with
   | nil=>intro _;rfl
   | cons a A ih=>
    intro g
    have:=ih fun i x hx=>g (i+1) x (by simpa using hx)
    cases a with
    | none=>simpa [hpB] using this
    | some x=>simp only [hpB,Bool.and_eq_true];exact ⟨g 0 x rfl,this⟩
  refine key _ _ fun i x hx=>?_
  obtain ⟨b0,e,g,_⟩:=hlive i _ hx
  simp only [Option.some.injEq] at e
  subst e
  exact bnds_mono (Nat.zero_le _) _ g
 have h:=h.keep (Nat.le_refl _) hb (bnd_mono (Nat.zero_le _) _ hv) hu
 have lv:∀ (θ':List Nat) (i:Nat) b,H0[i]?=some b→∃ b0,b=some b0∧bnds θ.length b0.cells=true∧(vHp C.G H)[θ.getD i 0]?=some (some (renB θ' b0)):=fun θ' i b hi=>by
  obtain ⟨b0,e,g1,g2⟩:=hlive i b hi
  refine ⟨b0,e,bnds_mono (Nat.zero_le _) _ g1,?_⟩
  have:renB θ' b0=b0:=by unfold renB;rw [rens_flat _ _ g1]
  rw [this];exact g2
 refine DOut.fr hnd hl (lv θ) ha he h (Nat.le_refl _) (bnd_mono (Nat.zero_le _) _ hv) hb (ren_flat _ _ hv).symm ?_
 unfold merge
 rw [hl,Nat.sub_self,List.drop_of_length_le (Nat.le_refl _)]
 show vHp C.G H=lay _ _ _ _++[]
 rw [List.append_nil,lay_same]
 ·intro i b _ hi
  obtain ⟨b0,rfl,_,g⟩:=lv (wide θ (vHp C.G H).length 0) i b hi
  exact g
def fmArg (s:Side) (H:DHp):EV→Option (EL×List EB)
 | .ptr (.fm b c i) o=>match famAt H b c with
  | some (z,l,ls)=>match Nat.beq z 1,s.get (.row l i) with
   | true,some (bc,d)=>some (d,[.eqN o (.lit 0),mkLe (mkAdd i (.lit 1)) (.lit c),.rows l ls,mkLe (mkAdd i (.lit 1)) (.len l),bc])
   | _,_=>none
  | none=>none
 | _=>none
def chks:List EB→Outs→Outs
 | [],o=>o
 | b::bs,o=>.chk b (chks bs o)
theorem chks_of {G:Nat→List AV} {Q:EV→List DHop→Prop} {o:Outs}:∀ {bs:List EB},((∀ b∈bs,vB G b=true)→oAll G Q o)→oAll G Q (chks bs o)
 | [],h=>h fun _ hb=>by cases hb
 | b::bs,h=>fun hb=>chks_of (bs:=bs) fun hbs=>h fun b' hb'=>by
  rcases List.mem_cons.1 hb' with rfl | hb'
  ·exact hb
  ·exact hbs b' hb'
theorem fmArg_ok {G:Nat→List AV} {s:Side} {enc:Sg→List AV} (hs:SideOk G s enc) {H:DHp} {a:EV} {d:EL} {bs:List EB} (h:fmArg s H a=some (d,bs)) (hb:∀ b∈bs,vB G b=true) :
  ∃ j p,vV G a=.ptr (.rw j) 0∧(vHp G H)[j]?=some (some ⟨1,enc p⟩)∧vL G d=encP p:=by
 unfold fmArg at h
 split at h
 ·rename_i b c i o
  split at h
  ·rename_i z l ls hf
   split at h
   ·rename_i bc d' hz hg
    have hz:=Nat.eq_of_beq_eq_true hz
    subst hz
    simp only [Option.some.injEq,Prod.mk.injEq] at h
    obtain ⟨rfl,rfl⟩:=h
    have h1:vN G o=0:=Nat.eq_of_beq_eq_true (hb (.eqN o (.lit 0)) (by simp))
    have h2:=le_mkLe (hb (mkLe (mkAdd i (.lit 1)) (.lit c)) (by simp))
    have h3:rowsA (vL G l) (vVs G ls)=true:=hb (.rows l ls) (by simp)
    have h4:=le_mkLe (hb (mkLe (mkAdd i (.lit 1)) (.len l)) (by simp))
    have h5:=hb bc (by simp)
    rw [vN_mkAdd] at h2 h4
    have h2:vN G i+1≤c:=h2
    obtain ⟨p,e1,e2⟩:=hs.get _ _ _ hg h5
    have e2:rowA (vL G l) (vN G i)=enc p:=e2
    have hat:=fam_at hf h3 (i:=vN G i) (by omega)
    rw [e2] at hat
    exact ⟨b+vN G i,p,by simp only [vV,vR,h1],hat,e1⟩
   ·cases h
  ·cases h
 ·cases h
def sameF (s:Side):DSum:=fun xs H=>match xs with
 | [a,b]=>match a,b with
  | .nilp,.nilp=>some (.one (.bool (.lit true)) [])
  | .nilp,b=>match fmArg s H b with
   | some (_,bs)=>some (chks bs (.one (.bool (.lit false)) []))
   | none=>none
  | a,.nilp=>match fmArg s H a with
   | some (_,bs)=>some (chks bs (.one (.bool (.lit false)) []))
   | none=>none
  | a,b=>match fmArg s H a,fmArg s H b with
   | some (d,bs),some (d',bs')=>some (chks bs (chks bs' (.one (.bool (.uf 1060 sameU [.agg d,.agg d'])) [])))
   | _,_=>none
 | _=>none
theorem sameB_refl' (p:Sg):sameB p p=true:=by simp [sameB]
theorem sameF_ok {C:Ctx} {s:Side} {enc:Sg→List AV} (hs:SideOk C.G s enc) (hinj:∀ p q,enc p=enc q→p=q) {f:FuncId} (h2:∀ p q,ACalls C f [.ptr (.rw 0) 0,.ptr (.rw 1) 0] [some ⟨1,enc p⟩,some ⟨1,enc q⟩] fun v H'=>v=.bool (sameB p q)∧H'.take 2=[some ⟨1,enc p⟩,some ⟨1,enc q⟩])
  (h1:∀ p,ACalls C f [.ptr (.rw 0) 0,.ptr (.rw 0) 0] [some ⟨1,enc p⟩] fun v H'=>v=.bool true∧H'.take 1=[some ⟨1,enc p⟩])
  (h0:ACalls C f [.nilp,.nilp] [] fun v H'=>v=.bool true∧H'.take 0=[])
  (hl:∀ p,ACalls C f [.nilp,.ptr (.rw 0) 0] [some ⟨1,enc p⟩] fun v H'=>v=.bool false∧H'.take 1=[some ⟨1,enc p⟩])
  (hr:∀ p,ACalls C f [.ptr (.rw 0) 0,.nilp] [some ⟨1,enc p⟩] fun v H'=>v=.bool false∧H'.take 1=[some ⟨1,enc p⟩]):DSumOk C f (sameF s):=by
 have one:∀ {H:DHp} {j:Nat} {p:Sg},(vHp C.G H)[j]?=some (some ⟨1,enc p⟩)→∀ (i:Nat) b,([some ⟨1,enc p⟩]:Hp)[i]?=some b→∃ b0,b=some b0∧bnds 0 b0.cells=true∧(vHp C.G H)[([j]:List Nat).getD i 0]?=some (some b0):=fun {H j p} hj i b hi=>by
  match i with
  | 0=>simp at hi;subst hi;exact ⟨_,rfl,hs.flat _ _,hj⟩
  | i+1=>simp at hi
 intro xs H o ho
 unfold sameF at ho
 split at ho
 ·rename_i a b
  split at ho
  ·simp only [Option.some.injEq] at ho;subst ho
   exact DOut.rdA (θ:=[]) (k:=0) (by simp) rfl (fun i b hi=>by simp at hi) rfl rfl h0 rfl (by simp [vV])
  ·split at ho
   ·rename_i d bs hf
    simp only [Option.some.injEq] at ho;subst ho
    refine chks_of fun hb=>?_
    obtain ⟨j,p,e1,e2,e3⟩:=fmArg_ok hs hf hb
    exact DOut.rdA (θ:=[j]) (k:=1) (by simp) rfl (one e2) rfl (by simp only [vVs,e1];rfl) (hl p) rfl (by simp [vV])
   ·cases ho
  ·split at ho
   ·rename_i d bs hf
    simp only [Option.some.injEq] at ho;subst ho
    refine chks_of fun hb=>?_
    obtain ⟨j,p,e1,e2,e3⟩:=fmArg_ok hs hf hb
    exact DOut.rdA (θ:=[j]) (k:=1) (by simp) rfl (one e2) rfl (by simp only [vVs,e1];rfl) (hr p) rfl (by simp [vV])
   ·cases ho
  ·split at ho
   ·rename_i d bs d' bs' hf hf'
    simp only [Option.some.injEq] at ho;subst ho
    refine chks_of fun hb=>chks_of fun hb'=>?_
    obtain ⟨j,p,e1,e2,e3⟩:=fmArg_ok hs hf hb
    obtain ⟨j',q,e1',e2',e3'⟩:=fmArg_ok hs hf' hb'
    have ev:vV C.G (.bool (.uf 1060 sameU [.agg d,.agg d']))=.bool (sameB p q):=by simp only [vV,vB,vVs,e3,e3',sameU_enc]
    by_cases hj:j=j'
    ·subst hj
     have:p=q:=hinj _ _ (by rw [e2] at e2';simpa using e2')
     subst this
     refine DOut.rdA (θ:=[j]) (k:=1) (by simp) rfl (one e2) (args0:=[.ptr (.rw 0) 0,.ptr (.rw 0) 0]) rfl (by simp only [vVs,e1,e1'];rfl) ?_ (by rw [ev];rfl) (by rw [ev];simp)
     rw [ev,sameB_refl'];exact h1 p
    ·refine DOut.rdA (θ:=[j,j']) (H0:=[some ⟨1,enc p⟩,some ⟨1,enc q⟩]) (k:=2) (by simp [hj]) rfl (fun i b hi=>?_) (args0:=[.ptr (.rw 0) 0,.ptr (.rw 1) 0]) rfl (by simp only [vVs,e1,e1'];rfl) ?_ (by rw [ev];rfl) (by rw [ev];simp)
     ·match i with
      | 0=>simp at hi;subst hi;exact ⟨_,rfl,hs.flat _ _,e2⟩
      | 1=>simp at hi;subst hi;exact ⟨_,rfl,hs.flat _ _,e2'⟩
      | i+2=>simp at hi
     ·rw [ev];exact h2 p q
   ·cases ho
 ·cases ho
theorem sameFP_ok (G:Nat→List AV) (B:Nat):DSumOk (⟨Try.prog,G,B⟩:Ctx) 24 (sameF sideP):=sameF_ok (sideP_ok G) (fun p q h=>encP_inj h) (p_same G B) (p_same1 G B) (n_same0 G B) (n_same1 G B) (n_same2 G B)
end Go.Am
namespace Go.Am
open Go.Proofs Crc
set_option maxRecDepth 100000
def HSd (T1 S:EL):DHp:=[some ⟨1,T1⟩,some ⟨1,.row S (.lit 0)⟩,some ⟨1,.row S (.lit 1)⟩,some ⟨1,.row S (.lit 2)⟩,some ⟨1,.row S (.lit 3)⟩,some ⟨1,.row S (.lit 4)⟩,some ⟨1,.row S (.lit 5)⟩,some ⟨1,.row S (.lit 6)⟩,some ⟨1,.row S (.lit 7)⟩,some ⟨1,.row S (.lit 8)⟩,some ⟨1,.row S (.lit 9)⟩,some ⟨1,.row S (.lit 10)⟩,some ⟨1,.row S (.lit 11)⟩,some ⟨1,.row S (.lit 12)⟩,some ⟨1,.row S (.lit 13)⟩,some ⟨1,.row S (.lit 14)⟩,some ⟨1,.row S (.lit 15)⟩,some ⟨1,.row S (.lit 16)⟩,some ⟨1,.row S (.lit 17)⟩,some ⟨1,.row S (.lit 18)⟩,some ⟨1,.row S (.lit 19)⟩,some ⟨1,.row S (.lit 20)⟩,some ⟨1,.row S (.lit 21)⟩,some ⟨1,.row S (.lit 22)⟩,some ⟨1,.row S (.lit 23)⟩,some ⟨1,.row S (.lit 24)⟩,some ⟨1,.row S (.lit 25)⟩,some ⟨1,.row S (.lit 26)⟩]
theorem sm_b (G:Nat→List AV) (ta sl ar:List AV) (i:Nat) (Q:Ex→List AV→Hp→Prop) (R:AV→Hp→Prop):vT G Q R (dloop (Df Try.prog [(48,1,27)] [36] [(24,sameF sideP)] [] 0) 400 20 28 (loopN Try.f15 0) 52 [1,4,23,24] [.ptr (.rw 14) (.lit 0),.bool (.lit false),.agg (.var 25 ar),.int .i64 (.ofN (.var 8 i))] (HSd (.var 1 ta) (.var 2 sl)))=(
  (decide ((((i:Nat):Int):Int)<13)=true→
 decide ((0:Int)≤((i:Nat):Int))=true∧
 decide ((((i:Nat):Int):Int)<13)=true∧
 leB ((i)*7+7) (List.length ar)=true∧
 cellsB (subL ar ((i)*7) (7))=true∧
 Nat.beq (List.length (subL ar ((i)*7) (7))) (7)=true∧
 leB (6) (List.length (subL ar ((i)*7) (7)))=true∧
 decide ((0:Int)≤((i:Nat):Int))=true∧
 decide ((((i:Nat):Int):Int)<13)=true∧
 leB ((i)*7+7) (List.length (rowA sl (13)))=true∧
 isI .i64 (subL (subL ar ((i)*7) (7)) (0) (6)) (0)=true∧
 isI .i64 (subL (rowA sl (13)) ((i)*7+1) (6)) (0)=true∧
 isI .i64 (subL (subL ar ((i)*7) (7)) (0) (6)) (1)=true∧
 isI .i64 (subL (rowA sl (13)) ((i)*7+1) (6)) (1)=true∧
 isI .i64 (subL (subL ar ((i)*7) (7)) (0) (6)) (2)=true∧
 isI .i64 (subL (rowA sl (13)) ((i)*7+1) (6)) (2)=true∧
 isI .i64 (subL (subL ar ((i)*7) (7)) (0) (6)) (3)=true∧
 isI .i64 (subL (rowA sl (13)) ((i)*7+1) (6)) (3)=true∧
 isB (subL (subL ar ((i)*7) (7)) (0) (6)) (4)=true∧
 isB (subL (rowA sl (13)) ((i)*7+1) (6)) (4)=true∧
 isI .i64 (subL (subL ar ((i)*7) (7)) (0) (6)) (5)=true∧
 isI .i64 (subL (rowA sl (13)) ((i)*7+1) (6)) (5)=true∧
 (((getI (subL (subL ar ((i)*7) (7)) (0) (6)) (0):Int)==getI (subL (rowA sl (13)) ((i)*7+1) (6)) (0))=true→
 (((getI (subL (subL ar ((i)*7) (7)) (0) (6)) (1):Int)==getI (subL (rowA sl (13)) ((i)*7+1) (6)) (1))=true→
 (((getI (subL (subL ar ((i)*7) (7)) (0) (6)) (2):Int)==getI (subL (rowA sl (13)) ((i)*7+1) (6)) (2))=true→
 (((getI (subL (subL ar ((i)*7) (7)) (0) (6)) (3):Int)==getI (subL (rowA sl (13)) ((i)*7+1) (6)) (3))=true→
 (getB (subL (subL ar ((i)*7) (7)) (0) (6)) (4)=true→
 (getB (subL (rowA sl (13)) ((i)*7+1) (6)) (4)=true→
 (((getI (subL (subL ar ((i)*7) (7)) (0) (6)) (5):Int)==getI (subL (rowA sl (13)) ((i)*7+1) (6)) (5))=true→
 (isNilA (subL ar ((i)*7) (7)) (6)=true→
 decide ((0:Int)≤((i:Nat):Int))=true∧
 decide ((((i:Nat):Int):Int)<13)=true∧
 (isNilA (rowA sl (13)) ((i)*7+7)=true→
 Q .normal [.ptr (.rw 14) (0),.bool (false),.agg ar,.int .i64 (IntKind.wrap .i64 (((i:Nat):Int)+1))] ([some ⟨1,ta⟩]++(rows13 sl++([some ⟨1,(rowA sl (13))⟩,some ⟨1,(rowA sl (14))⟩,some ⟨1,(rowA sl (15))⟩,some ⟨1,(rowA sl (16))⟩,some ⟨1,(rowA sl (17))⟩,some ⟨1,(rowA sl (18))⟩,some ⟨1,(rowA sl (19))⟩,some ⟨1,(rowA sl (20))⟩,some ⟨1,(rowA sl (21))⟩,some ⟨1,(rowA sl (22))⟩,some ⟨1,(rowA sl (23))⟩,some ⟨1,(rowA sl (24))⟩,some ⟨1,(rowA sl (25))⟩,some ⟨1,(rowA sl (26))⟩,some ⟨1,(subL ar ((i)*7) (7))⟩]))))∧
 (isNilA (rowA sl (13)) ((i)*7+7)=false→
 isPA 1 27 (rowA sl (13)) ((i)*7+7)=true∧
 Nat.beq (foA (rowA sl (13)) ((i)*7+7)) (0)=true∧
 leB (fkA 1 (rowA sl (13)) ((i)*7+7)+1) (27)=true∧
 rowsA sl (rp 27 sl)=true∧
 leB (fkA 1 (rowA sl (13)) ((i)*7+7)+1) (List.length sl)=true∧
 okU [.agg (rowA sl (fkA 1 (rowA sl (13)) ((i)*7+7)))]=true∧
 Q .ret [.ptr (.rw 14) (0),.bool (false),.agg ar,.int .i64 (((i:Nat):Int))] ([some ⟨1,ta⟩]++(rows13 sl++([some ⟨1,(rowA sl (13))⟩,some ⟨1,(rowA sl (14))⟩,some ⟨1,(rowA sl (15))⟩,some ⟨1,(rowA sl (16))⟩,some ⟨1,(rowA sl (17))⟩,some ⟨1,(rowA sl (18))⟩,some ⟨1,(rowA sl (19))⟩,some ⟨1,(rowA sl (20))⟩,some ⟨1,(rowA sl (21))⟩,some ⟨1,(rowA sl (22))⟩,some ⟨1,(rowA sl (23))⟩,some ⟨1,(rowA sl (24))⟩,some ⟨1,(rowA sl (25))⟩,some ⟨1,(rowA sl (26))⟩,some ⟨1,(subL ar ((i)*7) (7))⟩])))))∧
 (isNilA (subL ar ((i)*7) (7)) (6)=false→
 isPA 1 27 (subL ar ((i)*7) (7)) (6)=true∧
 decide ((0:Int)≤((i:Nat):Int))=true∧
 decide ((((i:Nat):Int):Int)<13)=true∧
 (isNilA (rowA sl (13)) ((i)*7+7)=true→
 Nat.beq (foA (subL ar ((i)*7) (7)) (6)) (0)=true∧
 leB (fkA 1 (subL ar ((i)*7) (7)) (6)+1) (27)=true∧
 rowsA sl (rp 27 sl)=true∧
 leB (fkA 1 (subL ar ((i)*7) (7)) (6)+1) (List.length sl)=true∧
 okU [.agg (rowA sl (fkA 1 (subL ar ((i)*7) (7)) (6)))]=true∧
 Q .ret [.ptr (.rw 14) (0),.bool (false),.agg ar,.int .i64 (((i:Nat):Int))] ([some ⟨1,ta⟩]++(rows13 sl++([some ⟨1,(rowA sl (13))⟩,some ⟨1,(rowA sl (14))⟩,some ⟨1,(rowA sl (15))⟩,some ⟨1,(rowA sl (16))⟩,some ⟨1,(rowA sl (17))⟩,some ⟨1,(rowA sl (18))⟩,some ⟨1,(rowA sl (19))⟩,some ⟨1,(rowA sl (20))⟩,some ⟨1,(rowA sl (21))⟩,some ⟨1,(rowA sl (22))⟩,some ⟨1,(rowA sl (23))⟩,some ⟨1,(rowA sl (24))⟩,some ⟨1,(rowA sl (25))⟩,some ⟨1,(rowA sl (26))⟩,some ⟨1,(subL ar ((i)*7) (7))⟩]))))∧
 (isNilA (rowA sl (13)) ((i)*7+7)=false→
 isPA 1 27 (rowA sl (13)) ((i)*7+7)=true∧
 Nat.beq (foA (subL ar ((i)*7) (7)) (6)) (0)=true∧
 leB (fkA 1 (subL ar ((i)*7) (7)) (6)+1) (27)=true∧
 rowsA sl (rp 27 sl)=true∧
 leB (fkA 1 (subL ar ((i)*7) (7)) (6)+1) (List.length sl)=true∧
 okU [.agg (rowA sl (fkA 1 (subL ar ((i)*7) (7)) (6)))]=true∧
 Nat.beq (foA (rowA sl (13)) ((i)*7+7)) (0)=true∧
 leB (fkA 1 (rowA sl (13)) ((i)*7+7)+1) (27)=true∧
 rowsA sl (rp 27 sl)=true∧
 leB (fkA 1 (rowA sl (13)) ((i)*7+7)+1) (List.length sl)=true∧
 okU [.agg (rowA sl (fkA 1 (rowA sl (13)) ((i)*7+7)))]=true∧
 (sameU [.agg (rowA sl (fkA 1 (subL ar ((i)*7) (7)) (6))),.agg (rowA sl (fkA 1 (rowA sl (13)) ((i)*7+7)))]=true→
 Q .normal [.ptr (.rw 14) (0),.bool (false),.agg ar,.int .i64 (IntKind.wrap .i64 (((i:Nat):Int)+1))] ([some ⟨1,ta⟩]++(rows13 sl++([some ⟨1,(rowA sl (13))⟩,some ⟨1,(rowA sl (14))⟩,some ⟨1,(rowA sl (15))⟩,some ⟨1,(rowA sl (16))⟩,some ⟨1,(rowA sl (17))⟩,some ⟨1,(rowA sl (18))⟩,some ⟨1,(rowA sl (19))⟩,some ⟨1,(rowA sl (20))⟩,some ⟨1,(rowA sl (21))⟩,some ⟨1,(rowA sl (22))⟩,some ⟨1,(rowA sl (23))⟩,some ⟨1,(rowA sl (24))⟩,some ⟨1,(rowA sl (25))⟩,some ⟨1,(rowA sl (26))⟩,some ⟨1,(subL ar ((i)*7) (7))⟩]))))∧
 (sameU [.agg (rowA sl (fkA 1 (subL ar ((i)*7) (7)) (6))),.agg (rowA sl (fkA 1 (rowA sl (13)) ((i)*7+7)))]=false→
 Q .ret [.ptr (.rw 14) (0),.bool (false),.agg ar,.int .i64 (((i:Nat):Int))] ([some ⟨1,ta⟩]++(rows13 sl++([some ⟨1,(rowA sl (13))⟩,some ⟨1,(rowA sl (14))⟩,some ⟨1,(rowA sl (15))⟩,some ⟨1,(rowA sl (16))⟩,some ⟨1,(rowA sl (17))⟩,some ⟨1,(rowA sl (18))⟩,some ⟨1,(rowA sl (19))⟩,some ⟨1,(rowA sl (20))⟩,some ⟨1,(rowA sl (21))⟩,some ⟨1,(rowA sl (22))⟩,some ⟨1,(rowA sl (23))⟩,some ⟨1,(rowA sl (24))⟩,some ⟨1,(rowA sl (25))⟩,some ⟨1,(rowA sl (26))⟩,some ⟨1,(subL ar ((i)*7) (7))⟩])))))))∧
 (((getI (subL (subL ar ((i)*7) (7)) (0) (6)) (5):Int)==getI (subL (rowA sl (13)) ((i)*7+1) (6)) (5))=false→
 Q .ret [.ptr (.rw 14) (0),.bool (false),.agg ar,.int .i64 (((i:Nat):Int))] ([some ⟨1,ta⟩]++(rows13 sl++([some ⟨1,(rowA sl (13))⟩,some ⟨1,(rowA sl (14))⟩,some ⟨1,(rowA sl (15))⟩,some ⟨1,(rowA sl (16))⟩,some ⟨1,(rowA sl (17))⟩,some ⟨1,(rowA sl (18))⟩,some ⟨1,(rowA sl (19))⟩,some ⟨1,(rowA sl (20))⟩,some ⟨1,(rowA sl (21))⟩,some ⟨1,(rowA sl (22))⟩,some ⟨1,(rowA sl (23))⟩,some ⟨1,(rowA sl (24))⟩,some ⟨1,(rowA sl (25))⟩,some ⟨1,(rowA sl (26))⟩,some ⟨1,(subL ar ((i)*7) (7))⟩])))))∧
 (getB (subL (rowA sl (13)) ((i)*7+1) (6)) (4)=false→
 Q .ret [.ptr (.rw 14) (0),.bool (false),.agg ar,.int .i64 (((i:Nat):Int))] ([some ⟨1,ta⟩]++(rows13 sl++([some ⟨1,(rowA sl (13))⟩,some ⟨1,(rowA sl (14))⟩,some ⟨1,(rowA sl (15))⟩,some ⟨1,(rowA sl (16))⟩,some ⟨1,(rowA sl (17))⟩,some ⟨1,(rowA sl (18))⟩,some ⟨1,(rowA sl (19))⟩,some ⟨1,(rowA sl (20))⟩,some ⟨1,(rowA sl (21))⟩,some ⟨1,(rowA sl (22))⟩,some ⟨1,(rowA sl (23))⟩,some ⟨1,(rowA sl (24))⟩,some ⟨1,(rowA sl (25))⟩,some ⟨1,(rowA sl (26))⟩,some ⟨1,(subL ar ((i)*7) (7))⟩])))))∧
 (getB (subL (subL ar ((i)*7) (7)) (0) (6)) (4)=false→
 (getB (subL (rowA sl (13)) ((i)*7+1) (6)) (4)=true→
 Q .ret [.ptr (.rw 14) (0),.bool (false),.agg ar,.int .i64 (((i:Nat):Int))] ([some ⟨1,ta⟩]++(rows13 sl++([some ⟨1,(rowA sl (13))⟩,some ⟨1,(rowA sl (14))⟩,some ⟨1,(rowA sl (15))⟩,some ⟨1,(rowA sl (16))⟩,some ⟨1,(rowA sl (17))⟩,some ⟨1,(rowA sl (18))⟩,some ⟨1,(rowA sl (19))⟩,some ⟨1,(rowA sl (20))⟩,some ⟨1,(rowA sl (21))⟩,some ⟨1,(rowA sl (22))⟩,some ⟨1,(rowA sl (23))⟩,some ⟨1,(rowA sl (24))⟩,some ⟨1,(rowA sl (25))⟩,some ⟨1,(rowA sl (26))⟩,some ⟨1,(subL ar ((i)*7) (7))⟩]))))∧
 (getB (subL (rowA sl (13)) ((i)*7+1) (6)) (4)=false→
 (((getI (subL (subL ar ((i)*7) (7)) (0) (6)) (5):Int)==getI (subL (rowA sl (13)) ((i)*7+1) (6)) (5))=true→
 (isNilA (subL ar ((i)*7) (7)) (6)=true→
 decide ((0:Int)≤((i:Nat):Int))=true∧
 decide ((((i:Nat):Int):Int)<13)=true∧
 (isNilA (rowA sl (13)) ((i)*7+7)=true→
 Q .normal [.ptr (.rw 14) (0),.bool (false),.agg ar,.int .i64 (IntKind.wrap .i64 (((i:Nat):Int)+1))] ([some ⟨1,ta⟩]++(rows13 sl++([some ⟨1,(rowA sl (13))⟩,some ⟨1,(rowA sl (14))⟩,some ⟨1,(rowA sl (15))⟩,some ⟨1,(rowA sl (16))⟩,some ⟨1,(rowA sl (17))⟩,some ⟨1,(rowA sl (18))⟩,some ⟨1,(rowA sl (19))⟩,some ⟨1,(rowA sl (20))⟩,some ⟨1,(rowA sl (21))⟩,some ⟨1,(rowA sl (22))⟩,some ⟨1,(rowA sl (23))⟩,some ⟨1,(rowA sl (24))⟩,some ⟨1,(rowA sl (25))⟩,some ⟨1,(rowA sl (26))⟩,some ⟨1,(subL ar ((i)*7) (7))⟩]))))∧
 (isNilA (rowA sl (13)) ((i)*7+7)=false→
 isPA 1 27 (rowA sl (13)) ((i)*7+7)=true∧
 Nat.beq (foA (rowA sl (13)) ((i)*7+7)) (0)=true∧
 leB (fkA 1 (rowA sl (13)) ((i)*7+7)+1) (27)=true∧
 rowsA sl (rp 27 sl)=true∧
 leB (fkA 1 (rowA sl (13)) ((i)*7+7)+1) (List.length sl)=true∧
 okU [.agg (rowA sl (fkA 1 (rowA sl (13)) ((i)*7+7)))]=true∧
 Q .ret [.ptr (.rw 14) (0),.bool (false),.agg ar,.int .i64 (((i:Nat):Int))] ([some ⟨1,ta⟩]++(rows13 sl++([some ⟨1,(rowA sl (13))⟩,some ⟨1,(rowA sl (14))⟩,some ⟨1,(rowA sl (15))⟩,some ⟨1,(rowA sl (16))⟩,some ⟨1,(rowA sl (17))⟩,some ⟨1,(rowA sl (18))⟩,some ⟨1,(rowA sl (19))⟩,some ⟨1,(rowA sl (20))⟩,some ⟨1,(rowA sl (21))⟩,some ⟨1,(rowA sl (22))⟩,some ⟨1,(rowA sl (23))⟩,some ⟨1,(rowA sl (24))⟩,some ⟨1,(rowA sl (25))⟩,some ⟨1,(rowA sl (26))⟩,some ⟨1,(subL ar ((i)*7) (7))⟩])))))∧
 (isNilA (subL ar ((i)*7) (7)) (6)=false→
 isPA 1 27 (subL ar ((i)*7) (7)) (6)=true∧
 decide ((0:Int)≤((i:Nat):Int))=true∧
 decide ((((i:Nat):Int):Int)<13)=true∧
 (isNilA (rowA sl (13)) ((i)*7+7)=true→
 Nat.beq (foA (subL ar ((i)*7) (7)) (6)) (0)=true∧
 leB (fkA 1 (subL ar ((i)*7) (7)) (6)+1) (27)=true∧
 rowsA sl (rp 27 sl)=true∧
 leB (fkA 1 (subL ar ((i)*7) (7)) (6)+1) (List.length sl)=true∧
 okU [.agg (rowA sl (fkA 1 (subL ar ((i)*7) (7)) (6)))]=true∧
 Q .ret [.ptr (.rw 14) (0),.bool (false),.agg ar,.int .i64 (((i:Nat):Int))] ([some ⟨1,ta⟩]++(rows13 sl++([some ⟨1,(rowA sl (13))⟩,some ⟨1,(rowA sl (14))⟩,some ⟨1,(rowA sl (15))⟩,some ⟨1,(rowA sl (16))⟩,some ⟨1,(rowA sl (17))⟩,some ⟨1,(rowA sl (18))⟩,some ⟨1,(rowA sl (19))⟩,some ⟨1,(rowA sl (20))⟩,some ⟨1,(rowA sl (21))⟩,some ⟨1,(rowA sl (22))⟩,some ⟨1,(rowA sl (23))⟩,some ⟨1,(rowA sl (24))⟩,some ⟨1,(rowA sl (25))⟩,some ⟨1,(rowA sl (26))⟩,some ⟨1,(subL ar ((i)*7) (7))⟩]))))∧
 (isNilA (rowA sl (13)) ((i)*7+7)=false→
 isPA 1 27 (rowA sl (13)) ((i)*7+7)=true∧
 Nat.beq (foA (subL ar ((i)*7) (7)) (6)) (0)=true∧
 leB (fkA 1 (subL ar ((i)*7) (7)) (6)+1) (27)=true∧
 rowsA sl (rp 27 sl)=true∧
 leB (fkA 1 (subL ar ((i)*7) (7)) (6)+1) (List.length sl)=true∧
 okU [.agg (rowA sl (fkA 1 (subL ar ((i)*7) (7)) (6)))]=true∧
 Nat.beq (foA (rowA sl (13)) ((i)*7+7)) (0)=true∧
 leB (fkA 1 (rowA sl (13)) ((i)*7+7)+1) (27)=true∧
 rowsA sl (rp 27 sl)=true∧
 leB (fkA 1 (rowA sl (13)) ((i)*7+7)+1) (List.length sl)=true∧
 okU [.agg (rowA sl (fkA 1 (rowA sl (13)) ((i)*7+7)))]=true∧
 (sameU [.agg (rowA sl (fkA 1 (subL ar ((i)*7) (7)) (6))),.agg (rowA sl (fkA 1 (rowA sl (13)) ((i)*7+7)))]=true→
 Q .normal [.ptr (.rw 14) (0),.bool (false),.agg ar,.int .i64 (IntKind.wrap .i64 (((i:Nat):Int)+1))] ([some ⟨1,ta⟩]++(rows13 sl++([some ⟨1,(rowA sl (13))⟩,some ⟨1,(rowA sl (14))⟩,some ⟨1,(rowA sl (15))⟩,some ⟨1,(rowA sl (16))⟩,some ⟨1,(rowA sl (17))⟩,some ⟨1,(rowA sl (18))⟩,some ⟨1,(rowA sl (19))⟩,some ⟨1,(rowA sl (20))⟩,some ⟨1,(rowA sl (21))⟩,some ⟨1,(rowA sl (22))⟩,some ⟨1,(rowA sl (23))⟩,some ⟨1,(rowA sl (24))⟩,some ⟨1,(rowA sl (25))⟩,some ⟨1,(rowA sl (26))⟩,some ⟨1,(subL ar ((i)*7) (7))⟩]))))∧
 (sameU [.agg (rowA sl (fkA 1 (subL ar ((i)*7) (7)) (6))),.agg (rowA sl (fkA 1 (rowA sl (13)) ((i)*7+7)))]=false→
 Q .ret [.ptr (.rw 14) (0),.bool (false),.agg ar,.int .i64 (((i:Nat):Int))] ([some ⟨1,ta⟩]++(rows13 sl++([some ⟨1,(rowA sl (13))⟩,some ⟨1,(rowA sl (14))⟩,some ⟨1,(rowA sl (15))⟩,some ⟨1,(rowA sl (16))⟩,some ⟨1,(rowA sl (17))⟩,some ⟨1,(rowA sl (18))⟩,some ⟨1,(rowA sl (19))⟩,some ⟨1,(rowA sl (20))⟩,some ⟨1,(rowA sl (21))⟩,some ⟨1,(rowA sl (22))⟩,some ⟨1,(rowA sl (23))⟩,some ⟨1,(rowA sl (24))⟩,some ⟨1,(rowA sl (25))⟩,some ⟨1,(rowA sl (26))⟩,some ⟨1,(subL ar ((i)*7) (7))⟩])))))))∧
 (((getI (subL (subL ar ((i)*7) (7)) (0) (6)) (5):Int)==getI (subL (rowA sl (13)) ((i)*7+1) (6)) (5))=false→
 Q .ret [.ptr (.rw 14) (0),.bool (false),.agg ar,.int .i64 (((i:Nat):Int))] ([some ⟨1,ta⟩]++(rows13 sl++([some ⟨1,(rowA sl (13))⟩,some ⟨1,(rowA sl (14))⟩,some ⟨1,(rowA sl (15))⟩,some ⟨1,(rowA sl (16))⟩,some ⟨1,(rowA sl (17))⟩,some ⟨1,(rowA sl (18))⟩,some ⟨1,(rowA sl (19))⟩,some ⟨1,(rowA sl (20))⟩,some ⟨1,(rowA sl (21))⟩,some ⟨1,(rowA sl (22))⟩,some ⟨1,(rowA sl (23))⟩,some ⟨1,(rowA sl (24))⟩,some ⟨1,(rowA sl (25))⟩,some ⟨1,(rowA sl (26))⟩,some ⟨1,(subL ar ((i)*7) (7))⟩])))))))∧
 (((getI (subL (subL ar ((i)*7) (7)) (0) (6)) (3):Int)==getI (subL (rowA sl (13)) ((i)*7+1) (6)) (3))=false→
 Q .ret [.ptr (.rw 14) (0),.bool (false),.agg ar,.int .i64 (((i:Nat):Int))] ([some ⟨1,ta⟩]++(rows13 sl++([some ⟨1,(rowA sl (13))⟩,some ⟨1,(rowA sl (14))⟩,some ⟨1,(rowA sl (15))⟩,some ⟨1,(rowA sl (16))⟩,some ⟨1,(rowA sl (17))⟩,some ⟨1,(rowA sl (18))⟩,some ⟨1,(rowA sl (19))⟩,some ⟨1,(rowA sl (20))⟩,some ⟨1,(rowA sl (21))⟩,some ⟨1,(rowA sl (22))⟩,some ⟨1,(rowA sl (23))⟩,some ⟨1,(rowA sl (24))⟩,some ⟨1,(rowA sl (25))⟩,some ⟨1,(rowA sl (26))⟩,some ⟨1,(subL ar ((i)*7) (7))⟩])))))∧
 (((getI (subL (subL ar ((i)*7) (7)) (0) (6)) (2):Int)==getI (subL (rowA sl (13)) ((i)*7+1) (6)) (2))=false→
 Q .ret [.ptr (.rw 14) (0),.bool (false),.agg ar,.int .i64 (((i:Nat):Int))] ([some ⟨1,ta⟩]++(rows13 sl++([some ⟨1,(rowA sl (13))⟩,some ⟨1,(rowA sl (14))⟩,some ⟨1,(rowA sl (15))⟩,some ⟨1,(rowA sl (16))⟩,some ⟨1,(rowA sl (17))⟩,some ⟨1,(rowA sl (18))⟩,some ⟨1,(rowA sl (19))⟩,some ⟨1,(rowA sl (20))⟩,some ⟨1,(rowA sl (21))⟩,some ⟨1,(rowA sl (22))⟩,some ⟨1,(rowA sl (23))⟩,some ⟨1,(rowA sl (24))⟩,some ⟨1,(rowA sl (25))⟩,some ⟨1,(rowA sl (26))⟩,some ⟨1,(subL ar ((i)*7) (7))⟩])))))∧
 (((getI (subL (subL ar ((i)*7) (7)) (0) (6)) (1):Int)==getI (subL (rowA sl (13)) ((i)*7+1) (6)) (1))=false→
 Q .ret [.ptr (.rw 14) (0),.bool (false),.agg ar,.int .i64 (((i:Nat):Int))] ([some ⟨1,ta⟩]++(rows13 sl++([some ⟨1,(rowA sl (13))⟩,some ⟨1,(rowA sl (14))⟩,some ⟨1,(rowA sl (15))⟩,some ⟨1,(rowA sl (16))⟩,some ⟨1,(rowA sl (17))⟩,some ⟨1,(rowA sl (18))⟩,some ⟨1,(rowA sl (19))⟩,some ⟨1,(rowA sl (20))⟩,some ⟨1,(rowA sl (21))⟩,some ⟨1,(rowA sl (22))⟩,some ⟨1,(rowA sl (23))⟩,some ⟨1,(rowA sl (24))⟩,some ⟨1,(rowA sl (25))⟩,some ⟨1,(rowA sl (26))⟩,some ⟨1,(subL ar ((i)*7) (7))⟩])))))∧
 (((getI (subL (subL ar ((i)*7) (7)) (0) (6)) (0):Int)==getI (subL (rowA sl (13)) ((i)*7+1) (6)) (0))=false→
 Q .ret [.ptr (.rw 14) (0),.bool (false),.agg ar,.int .i64 (((i:Nat):Int))] ([some ⟨1,ta⟩]++(rows13 sl++([some ⟨1,(rowA sl (13))⟩,some ⟨1,(rowA sl (14))⟩,some ⟨1,(rowA sl (15))⟩,some ⟨1,(rowA sl (16))⟩,some ⟨1,(rowA sl (17))⟩,some ⟨1,(rowA sl (18))⟩,some ⟨1,(rowA sl (19))⟩,some ⟨1,(rowA sl (20))⟩,some ⟨1,(rowA sl (21))⟩,some ⟨1,(rowA sl (22))⟩,some ⟨1,(rowA sl (23))⟩,some ⟨1,(rowA sl (24))⟩,some ⟨1,(rowA sl (25))⟩,some ⟨1,(rowA sl (26))⟩,some ⟨1,(subL ar ((i)*7) (7))⟩])))))∧
 (decide ((((i:Nat):Int):Int)<13)=false→
 Q (.exit 0) [.ptr (.rw 14) (0),.bool (false),.agg ar,.int .i64 (((i:Nat):Int))] ([some ⟨1,ta⟩]++(rows13 sl++([some ⟨1,(rowA sl (13))⟩,some ⟨1,(rowA sl (14))⟩,some ⟨1,(rowA sl (15))⟩,some ⟨1,(rowA sl (16))⟩,some ⟨1,(rowA sl (17))⟩,some ⟨1,(rowA sl (18))⟩,some ⟨1,(rowA sl (19))⟩,some ⟨1,(rowA sl (20))⟩,some ⟨1,(rowA sl (21))⟩,some ⟨1,(rowA sl (22))⟩,some ⟨1,(rowA sl (23))⟩,some ⟨1,(rowA sl (24))⟩,some ⟨1,(rowA sl (25))⟩,some ⟨1,(rowA sl (26))⟩]))))):=by kernel_rfl
theorem sm_c (G:Nat→List AV) (rl:List AV→Bool) (ta sl:List AV) (fb:Bool) (Q:Ex→List AV→Hp→Prop) (R:AV→Hp→Prop):vT G Q R (dcall (Dc Try.prog [36] [] [DLat 2370 (rl) 0 52 [1,4,23,24] (.tst (.var 9 fb) (.one (.exit 0) [.undef,.undef,.undef,.undef] (HSd (.var 1 ta) (.var 2 sl))) (.one .ret [.undef,.bool (.lit false),.undef,.undef] (HSd (.var 1 ta) (.var 2 sl))))] 28) 300 20 Try.f15 [.ptr (.rw 0) (.lit 0),.ptr (.rw 14) (.lit 0)] (HSd (.var 1 ta) (.var 2 sl)) 28)=(
  isB ta (0)=true∧
 (getB ta (0)=true→
 isB (rowA sl (13)) (0)=true∧
 (getB (rowA sl (13)) (0)=true→
 leB (92) (List.length ta)=true∧
 (rl) [.agg ([.ptr (.rw 14) (0),.bool (false),.agg (subL ta (1) (91)),.int .i64 (0)]:List AV),.agg ((tp3 [.tup [.int .i64 (1),.agg ta]] sl [.tup [.int .i64 (1),.agg (rowA sl (13))],.tup [.int .i64 (1),.agg (rowA sl (14))],.tup [.int .i64 (1),.agg (rowA sl (15))],.tup [.int .i64 (1),.agg (rowA sl (16))],.tup [.int .i64 (1),.agg (rowA sl (17))],.tup [.int .i64 (1),.agg (rowA sl (18))],.tup [.int .i64 (1),.agg (rowA sl (19))],.tup [.int .i64 (1),.agg (rowA sl (20))],.tup [.int .i64 (1),.agg (rowA sl (21))],.tup [.int .i64 (1),.agg (rowA sl (22))],.tup [.int .i64 (1),.agg (rowA sl (23))],.tup [.int .i64 (1),.agg (rowA sl (24))],.tup [.int .i64 (1),.agg (rowA sl (25))],.tup [.int .i64 (1),.agg (rowA sl (26))]]):List AV)]=true∧
 (fb=true→
 R (.bool (true)) ([some ⟨1,ta⟩]++(rows13 sl++([some ⟨1,(rowA sl (13))⟩,some ⟨1,(rowA sl (14))⟩,some ⟨1,(rowA sl (15))⟩,some ⟨1,(rowA sl (16))⟩,some ⟨1,(rowA sl (17))⟩,some ⟨1,(rowA sl (18))⟩,some ⟨1,(rowA sl (19))⟩,some ⟨1,(rowA sl (20))⟩,some ⟨1,(rowA sl (21))⟩,some ⟨1,(rowA sl (22))⟩,some ⟨1,(rowA sl (23))⟩,some ⟨1,(rowA sl (24))⟩,some ⟨1,(rowA sl (25))⟩,some ⟨1,(rowA sl (26))⟩]))))∧
 (fb=false→
 R (.bool (false)) ([some ⟨1,ta⟩]++(rows13 sl++([some ⟨1,(rowA sl (13))⟩,some ⟨1,(rowA sl (14))⟩,some ⟨1,(rowA sl (15))⟩,some ⟨1,(rowA sl (16))⟩,some ⟨1,(rowA sl (17))⟩,some ⟨1,(rowA sl (18))⟩,some ⟨1,(rowA sl (19))⟩,some ⟨1,(rowA sl (20))⟩,some ⟨1,(rowA sl (21))⟩,some ⟨1,(rowA sl (22))⟩,some ⟨1,(rowA sl (23))⟩,some ⟨1,(rowA sl (24))⟩,some ⟨1,(rowA sl (25))⟩,some ⟨1,(rowA sl (26))⟩])))))∧
 (getB (rowA sl (13)) (0)=false→
 isB ta (0)=true∧
 isB (rowA sl (13)) (0)=true∧
 R (.bool (((getB ta (0):Bool)==getB (rowA sl (13)) (0)))) ([some ⟨1,ta⟩]++(rows13 sl++([some ⟨1,(rowA sl (13))⟩,some ⟨1,(rowA sl (14))⟩,some ⟨1,(rowA sl (15))⟩,some ⟨1,(rowA sl (16))⟩,some ⟨1,(rowA sl (17))⟩,some ⟨1,(rowA sl (18))⟩,some ⟨1,(rowA sl (19))⟩,some ⟨1,(rowA sl (20))⟩,some ⟨1,(rowA sl (21))⟩,some ⟨1,(rowA sl (22))⟩,some ⟨1,(rowA sl (23))⟩,some ⟨1,(rowA sl (24))⟩,some ⟨1,(rowA sl (25))⟩,some ⟨1,(rowA sl (26))⟩])))))∧
 (getB ta (0)=false→
 isB ta (0)=true∧
 isB (rowA sl (13)) (0)=true∧
 R (.bool (((getB ta (0):Bool)==getB (rowA sl (13)) (0)))) ([some ⟨1,ta⟩]++(rows13 sl++([some ⟨1,(rowA sl (13))⟩,some ⟨1,(rowA sl (14))⟩,some ⟨1,(rowA sl (15))⟩,some ⟨1,(rowA sl (16))⟩,some ⟨1,(rowA sl (17))⟩,some ⟨1,(rowA sl (18))⟩,some ⟨1,(rowA sl (19))⟩,some ⟨1,(rowA sl (20))⟩,some ⟨1,(rowA sl (21))⟩,some ⟨1,(rowA sl (22))⟩,some ⟨1,(rowA sl (23))⟩,some ⟨1,(rowA sl (24))⟩,some ⟨1,(rowA sl (25))⟩,some ⟨1,(rowA sl (26))⟩]))))):=by kernel_rfl
end Go.Am
