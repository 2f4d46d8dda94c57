/-
  Images as files: the law of Bytes. Pages of images: the law's call.
-/
import Derived.Test.YthejjolnlngahaaPart19
import Derived.Test.YthejjolnlngahaaPart14
import Derived.Test.YthejjolnlngahaaBase5
namespace Go.Am
open Go.Proofs Crc
set_option maxRecDepth 100000
theorem mB (G:Nat→List AV) (B:Nat) (ks kp n m:Nat) (s:Int) (hs:K1 (G ks) n=true) (hqw:Z8 (G ks) n m=false→Eh G ks kp n m∧W0 G ks kp n m):ACalls (⟨Try.prog,G,B⟩:A2) 7 [.agg [.int .i64 s,.slice true (.ro ks) 0 n,.slice true (.ro kp) 0 m]] [] fun v _=>v=.bool true:=by
 have hsU:secOkU [.agg (G ks),.int .i64 (n:Int)]=true:=by simpa only [secOkU,G5] using hs
 have l7:loopsOf (B4 Try.f7)=[]:=by kernel_rfl
 have no:∀ {P:Prop},true=false→P:=fun h=>by cases h
 cases hmu:Z8 (G ks) n m with
 | true=>
  have key:=C7 (C:=(⟨Try.prog,G,B⟩:A2)) (K:=(Dc Try.prog [16] [(10,muchS),(11,trueS),(12,O8 2519 (fun _=>false) (.one (.agg (.of [.int .i64 (.var 1 s),.slice true (.ro (.var 24 ks)) (.lit 0) (.var 3 n),.slice true (.ro (.var 25 kp)) (.lit 0) (.var 4 m)])) [])),(28,O8 2521 (fun _=>false) (.one (.tup [.nils,.int .i64 (.lit 2)]) [])),(20,O8 2522 (fun _=>false) (.one (.int .i64 (.var 5 0)) [])),(15,Lg G),(21,O8 2523 (fun _=>false) (.one (.bool (.var 20 false)) []))] [] 0)) (R:=fun v _=>v=.bool true) (by rw [l7];exact D3 (O1 G B) (by kernel_rfl) (.cons (Tf G B) (.cons (Ss G B) (.cons Ut (.cons Ut (.cons Ut (.cons (Ol G B) (.cons Ut .nil))))))) .nil) (fuel:=400) (n0:=20) (f:=7) (fn:=Try.f7) (args:=[.agg (.of [.int .i64 (.var 1 s),.slice true (.ro (.var 24 ks)) (.lit 0) (.var 3 n),.slice true (.ro (.var 25 kp)) (.lit 0) (.var 4 m)])]) (H:=[]) (keep:=0) (by kernel_rfl) (by kernel_rfl) (by kernel_rfl) (by
   rw [jQ,Mv,hmu]
   exact ⟨hsU,fun _=>rfl,fun h=>no h⟩)
  exact key.monoK fun v H h=>h
 | false=>
  obtain ⟨hq,hw⟩:=hqw hmu;obtain ⟨hn,hm⟩:=Xu hmu;have c12:=cp_frz G B ks kp n m s hq hw hn (by omega);have s12:C5 (⟨Try.prog,G,B⟩:A2) 12 (O8 2519 (F8 [.agg [.int .i64 s,.slice true (.ro ks) 0 n,.slice true (.ro kp) 0 m]] []) (.one (.agg (.of [.int .i64 (.var 1 s),.slice true (.ro (.var 24 ks)) (.lit 0) (.var 3 n),.slice true (.ro (.var 25 kp)) (.lit 0) (.var 4 m)])) [])):=Er (v0:=.agg [.int .i64 s,.slice true (.ro ks) 0 n,.slice true (.ro kp) 0 m]) rfl (c12.monoK fun v H h=>h.1) rfl rfl (by simp) rfl
  have u1:T6 [.agg (G ks),.int .i64 (n:Int)]=true:=M6.2 ⟨hq.sec,by omega⟩;have u2:Ov [.agg (G kp),.int .i64 (m:Int)]=true:=Et.2 ⟨hq.pls,by omega⟩;have s20:C5 (⟨Try.prog,G,B⟩:A2) 20 (O8 2522 (F8 [.agg [.int .i64 s,.slice true (.ro ks) 0 n,.slice true (.ro kp) 0 m]] []) (.one (.int .i64 (.var 5 (S5 s (G ks) n (G kp) m))) [])):=Er (v0:=.int .i64 (S5 s (G ks) n (G kp) m)) rfl (No G B ks n kp m s u1 u2) rfl rfl (by simp) rfl
  have s21:C5 (⟨Try.prog,G,B⟩:A2) 21 (O8 2523 (F8 [.agg [.int .i64 s,.slice true (.ro ks) 0 n,.slice true (.ro kp) 0 m]] []) (.one (.bool (.var 20 (I7 s (G ks) n (G kp) m))) [])):=Er (v0:=.bool (I7 s (G ks) n (G kp) m)) rfl (sW G B ks n kp m s u1 u2) rfl rfl (by simp) rfl
  have w1:W2 G (G ks) n=true∧Y4 (G kp) m=true:=by
   unfold W2 Y4;rw [hq.sec,dat_im hq,hq.pls,Nat.ble_eq_true_of_le (by omega),Nat.ble_eq_true_of_le (by omega)];exact ⟨rfl,rfl⟩
  have k1:=Uq (G:=G) (s:=s) (sv:=s).2 ⟨⟨w1.1,w1.1⟩,w1.2,w1.2⟩;cases hy:(I7 s (G ks) n (G kp) m) with
  | true=>
   have uF:u8s (D1 G s (G ks) n (G kp) m)=true:=Im (Lc hq hw hy);have s28:C5 (⟨Try.prog,G,B⟩:A2) 28 (X3 2520 (F8 [.agg [.int .i64 s,.slice true (.ro ks) 0 n,.slice true (.ro kp) 0 m]] []) (.var 21 (D1 G s (G ks) n (G kp) m))):=Qw rfl (jR G B ks kp n m s hq hw (by omega) (by omega) hy) rfl uF;have s30:C5 (⟨Try.prog,G,B⟩:A2) 30 (Uu 2525 (F8 [.agg [.int .i64 s,.slice true (.ro ks) 0 n,.slice true (.ro kp) 0 m]] []) (.var 22 (D1 G s (G ks) n (G kp) m))):=rI rfl (rY G B ks kp n m s hq hw hy) rfl uF
   have s29:C5 (⟨Try.prog,G,B⟩:A2) 29 (cQ 2524 (Xx (D1 G s (G ks) n (G kp) m) ((D1 G s (G ks) n (G kp) m)).length) (.tup [.agg (.of [.int .i64 (.var 1 s),.slice true (.ro (.var 24 ks)) (.lit 0) (.var 3 n),.slice true (.ro (.var 25 kp)) (.lit 0) (.var 4 m)]),.int .i64 (.lit 0)])):=xG rfl uF rfl (xR G B ks kp n m s hq hw (by omega) (by omega) hy)
   have key:=C7 (C:=(⟨Try.prog,G,B⟩:A2)) (K:=(Dc Try.prog [16] [(10,muchS),(11,trueS),(12,O8 2519 (F8 [.agg [.int .i64 s,.slice true (.ro ks) 0 n,.slice true (.ro kp) 0 m]] []) (.one (.agg (.of [.int .i64 (.var 1 s),.slice true (.ro (.var 24 ks)) (.lit 0) (.var 3 n),.slice true (.ro (.var 25 kp)) (.lit 0) (.var 4 m)])) [])),(28,X3 2520 (F8 [.agg [.int .i64 s,.slice true (.ro ks) 0 n,.slice true (.ro kp) 0 m]] []) (.var 21 (D1 G s (G ks) n (G kp) m))),(20,O8 2522 (F8 [.agg [.int .i64 s,.slice true (.ro ks) 0 n,.slice true (.ro kp) 0 m]] []) (.one (.int .i64 (.var 5 (S5 s (G ks) n (G kp) m))) [])),(15,Lg G),(21,O8 2523 (F8 [.agg [.int .i64 s,.slice true (.ro ks) 0 n,.slice true (.ro kp) 0 m]] []) (.one (.bool (.var 20 (I7 s (G ks) n (G kp) m))) [])),(29,cQ 2524 (Xx (D1 G s (G ks) n (G kp) m) ((D1 G s (G ks) n (G kp) m)).length) (.tup [.agg (.of [.int .i64 (.var 1 s),.slice true (.ro (.var 24 ks)) (.lit 0) (.var 3 n),.slice true (.ro (.var 25 kp)) (.lit 0) (.var 4 m)]),.int .i64 (.lit 0)])),(30,Uu 2525 (F8 [.agg [.int .i64 s,.slice true (.ro ks) 0 n,.slice true (.ro kp) 0 m]] []) (.var 22 (D1 G s (G ks) n (G kp) m)))] [] 0)) (R:=fun v _=>v=.bool true) (by rw [l7];exact D3 (O1 G B) (by kernel_rfl) (.cons (Tf G B) (.cons (Ss G B) (.cons s12 (.cons s28 (.cons s20 (.cons (Ol G B) (.cons s21 (.cons s29 (.cons s30 .nil))))))))) .nil) (fuel:=400) (n0:=20) (f:=7) (fn:=Try.f7) (args:=[.agg (.of [.int .i64 (.var 1 s),.slice true (.ro (.var 24 ks)) (.lit 0) (.var 3 n),.slice true (.ro (.var 25 kp)) (.lit 0) (.var 4 m)])]) (H:=[]) (keep:=0) (by kernel_rfl) (by kernel_rfl) (by kernel_rfl) (by
    have ck:(S5 s (G ks) n (G kp) m)=0:=by unfold S5;rw [hy];rfl
    rw [by_law,Mv,hmu,Sz,Zg,ck,hy];have eA:A7 (D1 G s (G ks) n (G kp) m) 0 ((D1 G s (G ks) n (G kp) m)).length=(D1 G s (G ks) n (G kp) m):=Z0 rfl;rw [eA]
    refine ⟨hsU,fun h=>(by cases h),fun _=>⟨G3,G3,G3,k1,fun _=>⟨G3,fun _=>⟨pD,A6.2 (Nat.le_refl _),uF,G3,A6.2 (Nat.le_refl _),uF,fun _=>⟨fun _=>⟨k1,rfl,rfl⟩,fun h=>absurd h (by decide)⟩,fun h=>absurd h (by simp)⟩,fun h=>(by cases h)⟩,fun h=>no h⟩⟩)
   exact key.monoK fun v H h=>h
  | false=>
   have s28:C5 (⟨Try.prog,G,B⟩:A2) 28 (O8 2521 (F8 [.agg [.int .i64 s,.slice true (.ro ks) 0 n,.slice true (.ro kp) 0 m]] []) (.one (.tup [.nils,.int .i64 (.lit 2)]) [])):=Er (v0:=.tup [.nils,.int .i64 2]) rfl (by_no G B ks kp n m s hq (by omega) (by omega) hy) rfl rfl (by simp) rfl
   have key:=C7 (C:=(⟨Try.prog,G,B⟩:A2)) (K:=(Dc Try.prog [16] [(10,muchS),(11,trueS),(12,O8 2519 (F8 [.agg [.int .i64 s,.slice true (.ro ks) 0 n,.slice true (.ro kp) 0 m]] []) (.one (.agg (.of [.int .i64 (.var 1 s),.slice true (.ro (.var 24 ks)) (.lit 0) (.var 3 n),.slice true (.ro (.var 25 kp)) (.lit 0) (.var 4 m)])) [])),(28,O8 2521 (F8 [.agg [.int .i64 s,.slice true (.ro ks) 0 n,.slice true (.ro kp) 0 m]] []) (.one (.tup [.nils,.int .i64 (.lit 2)]) [])),(20,O8 2522 (F8 [.agg [.int .i64 s,.slice true (.ro ks) 0 n,.slice true (.ro kp) 0 m]] []) (.one (.int .i64 (.var 5 (S5 s (G ks) n (G kp) m))) [])),(15,Lg G),(21,O8 2523 (F8 [.agg [.int .i64 s,.slice true (.ro ks) 0 n,.slice true (.ro kp) 0 m]] []) (.one (.bool (.var 20 (I7 s (G ks) n (G kp) m))) []))] [] 0)) (R:=fun v _=>v=.bool true) (by rw [l7];exact D3 (O1 G B) (by kernel_rfl) (.cons (Tf G B) (.cons (Ss G B) (.cons s12 (.cons s28 (.cons s20 (.cons (Ol G B) (.cons s21 .nil))))))) .nil) (fuel:=400) (n0:=20) (f:=7) (fn:=Try.f7) (args:=[.agg (.of [.int .i64 (.var 1 s),.slice true (.ro (.var 24 ks)) (.lit 0) (.var 3 n),.slice true (.ro (.var 25 kp)) (.lit 0) (.var 4 m)])]) (H:=[]) (keep:=0) (by kernel_rfl) (by kernel_rfl) (by kernel_rfl) (by
    have ck:(S5 s (G ks) n (G kp) m)=2:=by unfold S5;rw [hy];rfl
    rw [jQ,Mv,hmu,Sz,Zg,ck,hy]
    refine ⟨hsU,fun h=>(by cases h),fun _=>⟨G3,G3,G3,k1,fun _=>⟨G3,fun h=>(by cases h),fun _=>⟨fun _=>rfl,fun h=>absurd h (by decide)⟩⟩,fun h=>no h⟩⟩)
   exact key.monoK fun v H h=>h
end Go.Am
namespace Go.Am
open Go.Proofs Go.Proofs.Ythejjolnlngahaa
set_option maxRecDepth 100000
end Go.Am
namespace Go.Am
open Go.Proofs
set_option maxRecDepth 100000
end Go.Am
namespace Go.Am
open Go.Proofs
set_option maxRecDepth 100000
end Go.Am
namespace Go.Am
open Go.Proofs
set_option maxRecDepth 100000
end Go.Am
namespace Go.Am
open Go.ChangeShapes Go.WideShapes Go.ChangeAt Go.RowKit Go.Proofs
set_option maxRecDepth 100000
section
variable {H:Type} {P:Program} {L:List RoE} {n:Nat} {t e:TypeId} {cs:List AV} {d:DataW H} {a:AV}
def Ro (P:Program) (e:TypeId) (i o:Nat) (t:TypeId):Bool:=
 match P.underlying e with
 | some (.struct fs)=>match fs[i]? with
  | some f=>Nat.beq f.offset o&&Nat.beq f.type t
  | none=>false
 | _=>false
theorem F7.fld {i o:Nat} (hf:Ro P e i o t=true) (h:F7 P L (n+1) e cs d):∃ x:DataW H,F7 P L n t ((cs.drop o).take (P.cellsOf t)) x:=by
 unfold Ro at hf;split at hf
 ·rename_i fs hu;split at hf
  ·rename_i f hi;simp only [Bool.and_eq_true] at hf;obtain ⟨g1,ds,g2,g3,g4⟩:=F7.asStruct hu h;have hl:i<ds.length:=by rw [g3];exact (Array.getElem?_eq_some_iff.1 hi).1
   have:=g4 i f ds[i] hi (List.getElem?_eq_getElem hl)
   rw [Nat.eq_of_beq_eq_true hf.1,Nat.eq_of_beq_eq_true hf.2] at this;exact ⟨_,this⟩
  ·simp at hf
 ·simp at hf
theorem F7.flen {i o:Nat} (hf:Ro P e i o t=true) (h:F7 P L (n+1) e cs d):cs.length=P.cellsOf e:=by
 unfold Ro at hf;split at hf
 ·rename_i fs hu;exact (F7.asStruct hu h).1
 ·simp at hf
theorem dM {l:List AV} {o:Nat} {v:AV} (h:(l.drop o).take 1=[v]):l[o]?=some v:=by
 have:=congrArg (fun l:List AV=>l[0]?) h
 simpa only [List.getElem?_take,List.getElem?_drop,List.getElem?_cons_zero,Nat.add_zero,Nat.lt_one_iff,if_true] using this
theorem F7.fldInt {i o:Nat} {k:IntKind} (hf:Ro P e i o t=true) (ht:P.underlying t=some (.int k)) (hc:P.cellsOf t=1) (h:F7 P L (n+2) e cs d):∃ x,cs[o]?=some (.int k x)∧(Lit.int k x).wf=true:=by
 obtain ⟨_,h1⟩:=F7.fld hf h;rw [hc] at h1;obtain ⟨x,e1,e2,_⟩:=F7.asInt ht h1;exact ⟨x,dM e1,e2⟩
theorem F7.fldBool {i o:Nat} (hf:Ro P e i o t=true) (ht:P.underlying t=some .bool) (hc:P.cellsOf t=1) (h:F7 P L (n+2) e cs d):∃ x,cs[o]?=some (.bool x):=by
 obtain ⟨_,h1⟩:=F7.fld hf h;rw [hc] at h1;obtain ⟨x,e1,_⟩:=F7.asBool ht h1;exact ⟨x,dM e1⟩
theorem iS {l:List AV} {o z j:Nat} (hj:j<z):((l.drop o).take z)[j]?=l[o+j]?:=by
 rw [List.getElem?_take,if_pos hj,List.getElem?_drop]
end
section
variable {H:Type} {L:List RoE} {a:AV} {d:DataW H} {cs:List AV}
theorem im_pls {n:Nat} (h:F7 Try.prog L (n+3) 23 [a] d):∃ k m,(∀ (ρ:Env) v,VR ρ a v→VR ρ (.slice true (.ro k) 0 m) v)∧(GL L k).length=m*2∧V6 (GL L k) m=true∧(GL L k).all plA=true:=by
 rcases F7.asSlice (e:=40) (by kernel_rfl) h with ⟨h1,_⟩ | ⟨k,ds,sp,en,h1,h2,h3,h4,h5,h6⟩
 ·simp only [List.cons.injEq,and_true] at h1;subst h1;exact ⟨L.length,0,fun ρ v hv=>Hu _ _ hv,by rw [Ws (Nat.le_refl _)];rfl,rfl,by rw [Ws (Nat.le_refl _)];rfl⟩
 ·simp only [List.cons.injEq,and_true] at h1;subst h1;have hz:Try.prog.cellsOf 40=2:=by kernel_rfl
  rw [hz] at h4 h6
  have key:∀ j,j<ds.length→(∃ x,en.cells[j*2]?=some (.int .i64 x)∧(Lit.int .i64 x).wf=true)∧∃ b,en.cells[j*2+1]?=some (.bool b):=fun j hj=>by
   have h7:=h6 j ds[j] (List.getElem?_eq_getElem hj);obtain ⟨x,e1,e2⟩:=F7.fldInt (i:=0) (o:=0) (t:=3) (k:=.i64) (by kernel_rfl) (by kernel_rfl) (by kernel_rfl) h7;obtain ⟨b,e3⟩:=F7.fldBool (i:=1) (o:=1) (t:=4) (by kernel_rfl) (by kernel_rfl) (by kernel_rfl) h7;rw [iS (by omega)] at e1 e3;exact ⟨⟨x,e1,e2⟩,b,e3⟩
  refine ⟨k,ds.length,fun ρ v hv=>N3 hv,by rw [Wt h3,h4],K7.2 fun j hj=>?_,?_⟩
  ·obtain ⟨⟨x,e1,e2⟩,b,e3⟩:=key j hj;have w:=zG e2;unfold sD xP;rw [Wt h3];have g:A0 en.cells (j*2)=x:=by simp [A0,e1]
   rw [g];simp only [E2,Ar,isI,isB,e1,e3,Bool.and_eq_true,decide_eq_true_eq];exact ⟨by simp,w.1,w.2⟩
  ·rw [Wt h3,List.all_eq_true];intro v hv;obtain ⟨j,hj⟩:=List.getElem?_of_mem hv;have hlt:j<ds.length*2:=by rw [←h4];exact (List.getElem?_eq_some_iff.1 hj).1
   obtain ⟨⟨x,e1,_⟩,b,e3⟩:=key (j / 2) (by omega);by_cases hp:j % 2=0
   ·rw [show j / 2*2=j by omega,hj] at e1;simp only [Option.some.injEq] at e1;subst e1;rfl
   ·rw [show j / 2*2+1=j by omega,hj] at e3;simp only [Option.some.injEq] at e3;subst e3;rfl
end
end Go.Am
namespace Go.Am
open Go.ChangeShapes Go.WideShapes Go.ChangeAt Go.RowKit Go.Proofs
set_option maxRecDepth 100000
def mJ (L:List RoE) (cs:List AV) (j:Nat):Prop:=cs[j*4+2]?=some .nils∨∃ k b,k<L.length∧cs[j*4+2]?=some (.slice false (.ro k) 0 b.length)∧GL L k=Av b∧fR b
structure gB (L:List RoE) (ks c kp q:Nat):Prop where
 sec:∀ j,j<c→(∃ x,(GL L ks)[j*4]?=some (.int .i64 x))∧(∃ x,(GL L ks)[j*4+1]?=some (.int .i64 x))∧mJ L (GL L ks) j∧∃ x,(GL L ks)[j*4+3]?=some (.int .i64 x)
 pls:V6 (GL L kp) q=true
 len:(GL L kp).length=q*2
 flat:(GL L kp).all plA=true
section
variable {H:Type} {L:List RoE} {a:AV} {d:DataW H} {cs:List AV}
theorem im_dat {n:Nat} (h:F7 Try.prog L (n+2) 37 [a] d):a=.nils∨∃ k b,k<L.length∧a=.slice false (.ro k) 0 (List.length b)∧GL L k=Av b∧fR b:=by
 rcases F7.asSlice (e:=5) (by kernel_rfl) h with ⟨h1,_⟩ | ⟨k,ds,sp,en,h1,h2,h3,h4,h5,h6⟩
 ·simp only [List.cons.injEq,and_true] at h1;exact .inl h1
 ·simp only [List.cons.injEq,and_true] at h1;subst h1;rw [show Try.prog.cellsOf 5=1 by kernel_rfl,Nat.mul_one] at h4
  have key:∀ j,j<en.cells.length→∃ i:Nat,en.cells[j]?=some (.int .u8 (i:Int))∧i<256:=fun j hj=>by
   have h7:=h6 j ds[j] (List.getElem?_eq_getElem (by omega));rw [show Try.prog.cellsOf 5=1 by kernel_rfl,Nat.mul_one] at h7;obtain ⟨i,g1,g2,_⟩:=F7.asInt (k:=.u8) (by kernel_rfl) h7;have w:=wf_u8 g2;refine ⟨i.toNat,?_,by omega⟩;rw [Int.toNat_of_nonneg w.1];exact dM g1
  refine .inr ⟨k,en.cells.map fun v=>match v with | .int _ x=>x.toNat | _=>0,(List.getElem?_eq_some_iff.1 h3).1,by rw [List.length_map,h4],?_,?_⟩
  ·rw [Wt h3];unfold Av;rw [List.map_map];refine List.ext_getElem? fun j=>?_;rw [List.getElem?_map];by_cases hj:j<en.cells.length
   ·obtain ⟨i,e1,_⟩:=key j hj;rw [e1];show _=some (AV.int .u8 (((i:Int).toNat:Nat):Int));rw [Int.toNat_natCast]
   ·rw [List.getElem?_eq_none (by omega)];rfl
  ·intro x hx;obtain ⟨v,hv,rfl⟩:=List.mem_map.1 hx;obtain ⟨j,hj⟩:=List.getElem?_of_mem hv;obtain ⟨i,e1,e2⟩:=key j (List.getElem?_eq_some_iff.1 hj).1;rw [hj] at e1;obtain rfl:=Option.some.inj e1;show (i:Int).toNat<256;rw [Int.toNat_natCast];exact e2
theorem tK {n:Nat} (h:F7 Try.prog L (n+4) 22 [a] d):∃ k c,(∀ (ρ:Env) v,VR ρ a v→VR ρ (.slice true (.ro k) 0 c) v)∧∀ j,j<c→(∃ x,(GL L k)[j*4]?=some (.int .i64 x))∧(∃ x,(GL L k)[j*4+1]?=some (.int .i64 x))∧mJ L (GL L k) j∧∃ x,(GL L k)[j*4+3]?=some (.int .i64 x):=by
 rcases F7.asSlice (e:=45) (by kernel_rfl) h with ⟨h1,_⟩ | ⟨k,ds,sp,en,h1,h2,h3,h4,h5,h6⟩
 ·simp only [List.cons.injEq,and_true] at h1;subst h1;exact ⟨L.length,0,fun ρ v hv=>Hu _ _ hv,fun j hj=>absurd hj (Nat.not_lt_zero j)⟩
 ·simp only [List.cons.injEq,and_true] at h1;subst h1;have hz:Try.prog.cellsOf 45=4:=by kernel_rfl
  rw [hz] at h4 h6;refine ⟨k,ds.length,fun ρ v hv=>N3 hv,fun j hj=>?_⟩;have h7:=h6 j ds[j] (List.getElem?_eq_getElem hj);obtain ⟨x,e1,_⟩:=F7.fldInt (i:=0) (o:=0) (t:=3) (k:=.i64) (by kernel_rfl) (by kernel_rfl) (by kernel_rfl) h7;obtain ⟨r,e2,_⟩:=F7.fldInt (i:=1) (o:=1) (t:=3) (k:=.i64) (by kernel_rfl) (by kernel_rfl) (by kernel_rfl) h7;obtain ⟨_,e3⟩:=F7.fld (i:=2) (o:=2) (t:=37) (by kernel_rfl) h7;obtain ⟨z,e4,_⟩:=F7.fldInt (i:=3) (o:=3) (t:=3) (k:=.i64) (by kernel_rfl) (by kernel_rfl) (by kernel_rfl) h7;rw [iS (by omega)] at e1 e2 e4
  rw [show Try.prog.cellsOf 37=1 by kernel_rfl] at e3;rw [Wt h3];have hlt:j*4+2<en.cells.length:=by rw [h4];omega
  have e5:((((en.cells.drop (j*4)).take 4).drop 2).take 1)=[en.cells[j*4+2]]:=by
   refine List.ext_getElem? fun i=>?_
   match i with
   | 0=>rw [List.getElem?_take,if_pos (by omega),List.getElem?_drop,List.getElem?_take,if_pos (by omega),List.getElem?_drop,List.getElem?_eq_getElem (by omega)];rfl
   | i+1=>rw [List.getElem?_take,if_neg (by omega)];rfl
  rw [e5] at e3;refine ⟨⟨x,e1⟩,⟨r,e2⟩,?_,z,e4⟩;unfold mJ;rw [List.getElem?_eq_getElem hlt];rcases im_dat (n:=n) e3 with g | ⟨k',b,g1,g2,g3,g4⟩
  ·exact .inl (by rw [g])
  ·exact .inr ⟨k',b,g1,by rw [g2],g3,g4⟩
theorem im_in {n:Nat} (h:F7 Try.prog L (n+5) 25 cs d):∃ s k c kp q,(∀ (ρ:Env) vs,VRs ρ cs vs→VRs ρ [.int .i64 s,.slice true (.ro k) 0 c,.slice true (.ro kp) 0 q] vs)∧gB L k c kp q:=by
 obtain ⟨s,e1,_⟩:=F7.fldInt (i:=0) (o:=0) (t:=3) (k:=.i64) (by kernel_rfl) (by kernel_rfl) (by kernel_rfl) h;obtain ⟨_,e2⟩:=F7.fld (i:=1) (o:=1) (t:=22) (by kernel_rfl) h;obtain ⟨_,e3⟩:=F7.fld (i:=2) (o:=2) (t:=23) (by kernel_rfl) h
 have hl:cs.length=3:=by
  have:=F7.flen (i:=0) (o:=0) (t:=3) (by kernel_rfl) h
  rwa [show Try.prog.cellsOf 25=3 by kernel_rfl] at this
 rw [show Try.prog.cellsOf 22=1 by kernel_rfl] at e2;rw [show Try.prog.cellsOf 23=1 by kernel_rfl] at e3
 match cs,hl with
 | [x,y,z],_=>
  simp at e1;subst e1;obtain ⟨kp,q,v2,o3,o4,o5⟩:=im_pls (n:=n+1) (by simpa using e3);obtain ⟨k,c,v1,o1⟩:=tK (n:=n) (by simpa using e2);refine ⟨s,k,c,kp,q,fun ρ vs hv=>?_,⟨o1,o4,o3,o5⟩⟩;simp only [VRs] at hv ⊢;obtain ⟨w1,t1,r1,q1,w2,t2,r2,q2,w3,t3,r3,q3,q4⟩:=hv;exact ⟨w1,t1,r1,q1,w2,t2,r2,v1 ρ w2 q2,w3,t3,r3,v2 ρ w3 q3,q4⟩
end
end Go.Am
namespace Go.Am
open Go.RowKit Go.Proofs
set_option maxRecDepth 100000
theorem oS {cs:List AV}:∀ i,i≤20→(0≤Jo cs i∧Jo cs i≤99999*(i:Int))∧∀ j,j<i→((sN cs j:Int)≤Jo cs i∨99999≤Jo cs i)
 | 0,_=>⟨⟨Int.le_refl _,by show (0:Int)≤_;omega⟩,fun j hj=>absurd hj (Nat.not_lt_zero j)⟩
 | i+1,h=>by
  obtain ⟨⟨h1,h2⟩,h3⟩:=oS (cs:=cs) i (by omega)
  have e:Jo cs (i+1)=Jo cs i+(if 99999<(sN cs i:Int) then 99999 else (sN cs i:Int)):=by
   show IntKind.wrap .i64 (Jo cs i+(if 99999<(sN cs i:Int) then 99999 else (sN cs i:Int)))=_;refine C4 ?_
   split<;>omega
  rw [e];refine ⟨⟨?_,?_⟩,fun j hj=>?_⟩
  ·split<;>omega
  ·split<;>omega
  ·by_cases hji:j<i
   ·have:=h3 j hji
    split<;>omega
   ·have:j=i:=by omega
    subst this
    split<;>omega
theorem sS {cs:List AV} {n m:Nat} (h:Z8 cs n m=false):∀ j,j<n→sN cs j≤60000:=fun j hj=>by
 obtain ⟨h20,_⟩:=Xu h;unfold Z8 at h;simp only [Bool.or_eq_false_iff,decide_eq_false_iff_not] at h;have h3:=h.2.2;rw [Nat.min_eq_left h20] at h3
 have:=(oS (cs:=cs) n h20).2 j hj
 omega
section
variable (L:List RoE) (ks c kp q z:Nat)
def Gc (cs:List AV) (e j:Nat):Nat:=match cs[j*4+2]? with
 | some (.slice _ (.ro k) _ _)=>k
 | _=>e
def P3:List AV:=R0 (GL L ks) c (dK (Gc (GL L ks) L.length) (GL L ks))
end
section
variable {L:List RoE} {ks c kp q z:Nat}
theorem Qd {j b:Nat} (hj:j<c) (hb:b<4):(P3 L ks c)[j*4+b]?=some (rC (GL L ks) (dK (Gc (GL L ks) L.length) (GL L ks)) j b):=Su (f:=rC (GL L ks) (dK (Gc (GL L ks) L.length) (GL L ks))) hj hb
theorem Wl {j:Nat} (hj:j<c):sA (P3 L ks c) j=sA (GL L ks) j∧sR (P3 L ks c) j=sR (GL L ks) j∧sZ (P3 L ks c) j=sZ (GL L ks) j∧C9 (P3 L ks c) (j*4+2)=Gc (GL L ks) L.length j∧E5 (P3 L ks c) (j*4+2)=0∧sN (P3 L ks c) j=sN (GL L ks) j:=by
 have e0:=Qd (L:=L) (ks:=ks) hj (b:=0) (by omega);have e1:=Qd (L:=L) (ks:=ks) hj (b:=1) (by omega);have e2:=Qd (L:=L) (ks:=ks) hj (b:=2) (by omega);have e3:=Qd (L:=L) (ks:=ks) hj (b:=3) (by omega);rw [Nat.add_zero] at e0;refine ⟨?_,?_,?_,?_,?_,?_⟩
 ·show A0 (P3 L ks c) (j*4)=_;unfold A0;rw [e0];rfl
 ·show A0 (P3 L ks c) (j*4+1)=_;unfold A0;rw [e1];rfl
 ·show A0 (P3 L ks c) (j*4+3)=_;unfold A0;rw [e3];rfl
 ·unfold C9;rw [e2];rfl
 ·unfold E5;rw [e2];rfl
 ·show B9 (P3 L ks c) (j*4+2)=_;unfold B9;rw [e2];rfl
theorem dF {l:List AV} (h:l.all plA=true):cellsB l=true∧A4 0 l=true∧∀ v∈l,E6 v=true∧∀ σ,sb σ 0 v=v:=by
 rw [List.all_eq_true] at h;refine ⟨?_,?_,fun v hv=>?_⟩
 ·unfold cellsB;rw [List.all_eq_true];intro v hv
  have:=h v hv
  unfold plA at this;split at this<;>first | rfl | cases this
 ·rw [J8,List.all_eq_true];intro v hv
  have:=h v hv
  unfold plA at this;split at this<;>first | rfl | cases this
 ·have:=h v hv
  unfold plA at this;split at this<;>first | exact ⟨rfl,fun σ=>by simp [sb]⟩ | cases this
end
end Go.Am
namespace Go.Am
open Go.RowKit Go.Proofs
set_option maxRecDepth 100000
structure Iv (L:List RoE) (ks c kp:Nat) (G:Nat→List AV):Prop where
 lo:∀ k,k<L.length→(GL L k).all Bq=true→G k=GL L k
 lo':∀ k,k<L.length→(GL L k).all Bq=false→G k=[]
 z:G L.length=[]
 s:G (L.length+1)=P3 L ks c
 p:G (L.length+2)=GL L kp
section
variable {L:List RoE} {ks c kp q:Nat} {G:Nat→List AV}
theorem Iv.dat (N:Iv L ks c kp G) (h:gB L ks c kp q) {j:Nat} (hj:j<c):∃ b,fR b∧b.length=sN (GL L ks) j∧G (Gc (GL L ks) L.length j)=Av b∧GL L (Gc (GL L ks) L.length j)=Av b:=by
 obtain ⟨_,_,hd,_⟩:=h.sec j hj;rcases hd with e | ⟨k,b,g1,g2,g3,g4⟩
 ·have e1:Gc (GL L ks) L.length j=L.length:=by unfold Gc;rw [e]
  have e2:sN (GL L ks) j=0:=by
   show B9 (GL L ks) (j*4+2)=0;unfold B9;rw [e]
  refine ⟨[],fun x hx=>by simp at hx,e2.symm,?_,?_⟩
  ·rw [e1,N.z];rfl
  ·rw [e1,Ws (Nat.le_refl _)];rfl
 ·have e1:Gc (GL L ks) L.length j=k:=by unfold Gc;rw [g2]
  have e2:sN (GL L ks) j=b.length:=by
   show B9 (GL L ks) (j*4+2)=_;unfold B9;rw [g2]
  refine ⟨b,g4,e2.symm,?_,by rw [e1,g3]⟩;rw [e1,N.lo k g1 (by rw [g3];exact fS),g3]
theorem Iv.dl (N:Iv L ks c kp G) (h:gB L ks c kp q) {j:Nat} (hj:j<c):∃ b,fR b∧b.length=sN (GL L ks) j∧G (C9 (P3 L ks c) (j*4+2))=Av b∧H9 G (P3 L ks c) j=Av b∧H9 (GL L) (P3 L ks c) j=Av b:=by
 obtain ⟨b,h1,h2,h3,h4⟩:=N.dat h hj;obtain ⟨_,_,_,a1,a2,a3⟩:=Wl (L:=L) (ks:=ks) hj;have a3:B9 (P3 L ks c) (j*4+2)=sN (GL L ks) j:=a3;have e:A7 (Av b) 0 (sN (GL L ks) j)=Av b:=Ag (by rw [Ym,h2]);refine ⟨b,h1,h2,by rw [a1];exact h3,?_,?_⟩
 ·unfold H9;rw [a1,a2,a3,h3,e]
 ·unfold H9;rw [a1,a2,a3,h4,e]
theorem Iv.imIs (N:Iv L ks c kp G) (h:gB L ks c kp q) (hm:Z8 (P3 L ks c) c q=false):Eh G (L.length+1) (L.length+2) c q∧W0 G (L.length+1) (L.length+2) c q:=by
 obtain ⟨h20,h1000⟩:=Xu hm;have hlen:=sS hm;have hsec:K1 (P3 L ks c) c=true:=by unfold P3;rw [nM];exact nN
 have dt:=fun j hj=>N.dl h (j:=j) hj;have flatS:A4 0 (P3 L ks c)=true:=iH fun j hj=>rfl
 have hcl:cellsB (P3 L ks c)=true:=by
  unfold cellsB;rw [List.all_eq_true];intro v hv;unfold P3 R0 Z5 at hv;obtain ⟨j,hj,rfl⟩:=List.mem_map.1 hv;have hb:j % 4<4:=Nat.mod_lt _ (by omega);generalize j % 4=b at hb
  match b,hb with
  | 0,_=>rfl
  | 1,_=>rfl
  | 2,_=>rfl
  | 3,_=>rfl
 have hl:(P3 L ks c).length=c*4:=Qt;obtain ⟨p1,p2,_⟩:=dF h.flat;refine ⟨⟨by rw [N.s];exact hsec,by rw [N.p];exact h.pls,Hs.2 ⟨⟨by rw [N.s];exact hsec,?_⟩,?_,?_⟩,fun j hj=>?_⟩,⟨?_,fun j hj=>?_,fun j hj=>?_,?_⟩⟩
 ·rw [N.s];refine Dh.2 ⟨⟨A6.2 (by omega),?_⟩,by omega,?_⟩
  ·rw [Ag hl];exact hcl
  ·rw [Ag hl];exact flatS
 ·rw [N.p];refine Dh.2 ⟨⟨A6.2 (by rw [h.len];omega),?_⟩,by omega,?_⟩
  ·rw [Ag h.len];exact p1
  ·rw [Ag h.len];exact p2
 ·intro j hj;rw [N.s];obtain ⟨b,_,b2,b3,b4,_⟩:=dt j hj;obtain ⟨_,_,_,_,a2,a3⟩:=Wl (L:=L) (ks:=ks) hj;have hn:=hlen j hj;rw [b3,a2];have e:(Av b).length=sN (P3 L ks c) j:=by rw [Ym,b2,a3]
  refine Dh.2 ⟨⟨A6.2 (by rw [e];omega),?_⟩,by omega,?_⟩
  ·rw [Nat.mul_one,Ag e];unfold cellsB;rw [List.all_eq_true];intro v hv;obtain ⟨x,_,rfl⟩:=List.mem_map.1 hv;rfl
  ·rw [Nat.mul_one,Ag e];exact uG
 ·rw [N.s];obtain ⟨b,b1,_,_,b4,_⟩:=dt j hj;exact ⟨b,b1,b4⟩
 ·rw [N.s];refine Ul fun a b ha hb=>?_;obtain ⟨a1,a2,a3,a4,a5,a6⟩:=Wl (L:=L) (ks:=ks) ha
  match b,hb with
  | 0,_=>show AV.int .i64 (sA (GL L ks) a)=.int .i64 (sA (P3 L ks c) a);rw [a1]
  | 1,_=>show AV.int .i64 (sR (GL L ks) a)=.int .i64 (sR (P3 L ks c) a);rw [a2]
  | 2,_=>
   show dK (Gc (GL L ks) L.length) (GL L ks) a=dR (P3 L ks c) a;unfold dK dR;rw [a4,a5,a6]
  | 3,_=>show AV.int .i64 (sZ (GL L ks) a)=.int .i64 (sZ (P3 L ks c) a);rw [a3]
 ·rw [N.s];exact (Wl (L:=L) (ks:=ks) hj).2.2.2.2.1
 ·rw [N.s];obtain ⟨b,_,_,b3,b4,_⟩:=dt j hj;rw [b3,b4]
 ·rw [N.p]
  have:=oH h.pls (Nat.le_of_eq h.len.symm)
  rwa [Ag h.len] at this
def Oi (L:List RoE) (ks kp ka:Nat) (k:Nat):Option Nat:=if k≤L.length then some k else if k=L.length+1 then some ks else if k=L.length+2 then some kp else if k=L.length+3 then some ka else none
theorem Iv.told {ka:Nat} (N:Iv L ks c kp G) (h:gB L ks c kp q) (ha:G (L.length+3)=[]∨G (L.length+3)=GL L ka∧∀ v∈GL L ka,E6 v=true∧∀ σ,sb σ 0 v=v):uM (Oi L ks kp ka) (GL L) G:=by
  have σk:∀ k,k≤L.length→σS (Oi L ks kp ka) k=(.ro k,0):=fun k hk=>by unfold σS Oi;rw [if_pos hk]
  intro k k1 hs j v hv;unfold Oi at hs;by_cases h1:k≤L.length
  · rw [if_pos h1] at hs;obtain rfl:=Option.some.inj hs;by_cases h2:k<L.length
    · cases hu:(GL L k).all Bq with
      | true=>
        rw [N.lo k h2 hu] at hv;have hm:=List.mem_of_getElem? hv;rw [List.all_eq_true] at hu
        have:=hu v hm
        unfold Bq at this;split at this
        · exact ⟨_,hv,rfl,fun ρ cv h=>by simpa [sb] using h⟩
        · cases this
      | false=>
        rw [N.lo' k h2 hu] at hv;simp at hv
    · have:k=L.length:=by omega
      subst this;rw [N.z] at hv;simp at hv
  · rw [if_neg h1] at hs;by_cases h2:k=L.length+1
    · rw [if_pos h2] at hs;obtain rfl:=Option.some.inj hs;subst h2;rw [N.s] at hv;have hl:(P3 L ks c).length=c*4:=Qt;have hj:j<c*4:=by rw [←hl];exact (List.getElem?_eq_some_iff.1 hv).1
      obtain ⟨g1,g2,g3⟩:=bO hj;have e:=Qd (L:=L) (ks:=ks) g1 g2;rw [← g3, hv] at e;obtain rfl:=Option.some.inj e;obtain ⟨⟨x,q0⟩,⟨r,q1⟩,q2,y,q3⟩:=h.sec _ g1;generalize j / 4=a at *;generalize j % 4=b at *;subst g3
      match b,g2 with
      | 0,_=>
        have e:A0 (GL L ks) (a*4)=x:=by unfold A0;rw [q0]
        refine ⟨_,q0,rfl,fun ρ cv h=>?_⟩;show VR ρ (sb _ 0 (.int .i64 (A0 (GL L ks) (a*4)))) cv;rw [e];simpa [sb] using h
      | 1,_=>
        have e:A0 (GL L ks) (a*4+1)=r:=by unfold A0;rw [q1]
        refine ⟨_,q1,rfl,fun ρ cv h=>?_⟩;show VR ρ (sb _ 0 (.int .i64 (A0 (GL L ks) (a*4+1)))) cv;rw [e];simpa [sb] using h
      | 2,_=>
        rcases q2 with e | ⟨k',b,w1,w2,w3,w4⟩
        · refine ⟨_,e,rfl,fun ρ cv h=>?_⟩;show VR ρ (sb _ 0 (dK (Gc (GL L ks) L.length) (GL L ks) a)) cv;have e1:Gc (GL L ks) L.length a=L.length:=by unfold Gc;rw [e]
          have e2:sN (GL L ks) a=0:=by
            show B9 (GL L ks) (a*4+2)=0;unfold B9;rw [e]
          unfold dK;rw [e1,e2];simp only [sb,σk _ (Nat.le_refl _),Nat.zero_add];exact Hu _ _ h
        · refine ⟨_,w2,rfl,fun ρ cv h=>?_⟩;show VR ρ (sb _ 0 (dK (Gc (GL L ks) L.length) (GL L ks) a)) cv;have e1:Gc (GL L ks) L.length a=k':=by unfold Gc;rw [w2]
          have e2:sN (GL L ks) a=b.length:=by
            show B9 (GL L ks) (a*4+2)=_;unfold B9;rw [w2]
          unfold dK;rw [e1,e2];simp only [sb,σk _ (Nat.le_of_lt w1),Nat.zero_add];exact N3 h
      | 3,_=>
        have e:A0 (GL L ks) (a*4+3)=y:=by unfold A0;rw [q3]
        refine ⟨_,q3,rfl,fun ρ cv h=>?_⟩;show VR ρ (sb _ 0 (.int .i64 (A0 (GL L ks) (a*4+3)))) cv;rw [e];simpa [sb] using h
    · rw [if_neg h2] at hs;by_cases h3:k=L.length+2
      · rw [if_pos h3] at hs;obtain rfl:=Option.some.inj hs;subst h3;rw [N.p] at hv;obtain ⟨_,_,p3⟩:=dF h.flat;obtain ⟨n1,n2⟩:=p3 v (List.mem_of_getElem? hv);exact ⟨v,hv,n1,fun ρ cv h=>by rw [n2];exact h⟩
      · rw [if_neg h3] at hs;by_cases h4:k=L.length+3
        · rw [if_pos h4] at hs;obtain rfl:=Option.some.inj hs;subst h4;rcases ha with e | ⟨e,ha⟩
          · rw [e] at hv;simp at hv
          · rw [e] at hv;obtain ⟨n1,n2⟩:=ha v (List.mem_of_getElem? hv);exact ⟨v,hv,n1,fun ρ cv h=>by rw [n2];exact h⟩
        · rw [if_neg h4] at hs;cases hs
end
end Go.Am
namespace Go.Am
open Go.RowKit Go.Proofs
set_option maxRecDepth 100000
def pbS (G:Nat→List AV) (cs:List AV) (k:Nat):Nat→List (List AV)
 | 0=>[]
 | i+1=>pbS G cs k i++[Av (pgB G cs k i)]
def pbL (G:Nat→List AV) (cs:List AV):Nat→List (List AV)
 | 0=>[]
 | k+1=>pbL G cs k++pbS G cs k (pgN cs k)
section
variable (L:List RoE) (ks c kp ka:Nat)
def GP (k:Nat):List AV:=
 if k<L.length then (if (GL L k).all Bq=true then GL L k else [])
 else if k=L.length+1 then P3 L ks c
 else if k=L.length+2 then GL L kp
 else if k=L.length+3 then GL L ka
 else if k=L.length+4 then nmL (P3 L ks c) c
 else if k=L.length+5 then wtL (L.length+6) (P3 L ks c) c
 else if L.length+6≤k then ((pbL (GL L) (P3 L ks c) c)[k - (L.length+6)]?).getD []
 else []
end
section
variable {L:List RoE} {ks c kp ka q:Nat}
theorem GP_new:Iv L ks c kp (GP L ks c kp ka) where
 lo k hk hu:=by unfold GP;rw [if_pos hk,if_pos hu]
 lo' k hk hu:=by unfold GP;rw [if_pos hk,if_neg (by rw [hu];decide)]
 z:=by unfold GP;rw [if_neg (by omega),if_neg (by omega),if_neg (by omega),if_neg (by omega),if_neg (by omega),if_neg (by omega),if_neg (by omega)]
 s:=by unfold GP;rw [if_neg (by omega),if_pos rfl]
 p:=by unfold GP;rw [if_neg (by omega),if_neg (by omega),if_pos rfl]
theorem GP_a:GP L ks c kp ka (L.length+3)=GL L ka:=by unfold GP;rw [if_neg (by omega),if_neg (by omega),if_neg (by omega),if_pos rfl]
end
end Go.Am
