/-
  The program's sets: what its calls without loops do. The program's sets: Take and Pending.
-/
import Derived.Test.YtkabjomhnddnoaaBase6
import Derived.Test.YtkabjomhnddnoaaProg
import Derived.Test.YtkabjomhnddnoaaBase5
import Derived.Test.YtkabjomhnddnoaaBase10
namespace Go.Am
open Go.Proofs Crc
set_option maxRecDepth 100000
theorem mix (G:Nat→List AV) (B:Nat):((⟨Try.prog,G,B⟩:Ctx)).P.follows .mixedOrders=true:=by kernel_rfl
theorem dg (G:Nat→List AV) (B:Nat):DGood (⟨Try.prog,G,B⟩:Ctx) (Dc Try.prog [55,56] [] [] 0) []:=dgood (mix G B) (by kernel_rfl) .nil .nil
theorem t11 (G:Nat→List AV) (cs:List AV) (n:Int) (Q:Ex→List AV→Hp→Prop) (R:AV→Hp→Prop):vT G Q R (dcall (Dc Try.prog [55,56] [] [] 0) 200 10 Try.f23 [.ptr (.rw 0) (.lit 0),.int .i64 (.var 2 n)] [some ⟨1,.var 1 cs⟩] 1)=(
  isB cs (0)=true∧
 (getB cs (0)=true→
 (decide ((n:Int)<0)=true→
 R (.int .i64 (2)) [some ⟨1,cs⟩])∧
 (decide ((n:Int)<0)=false→
 (decide ((n:Int)>15)=true→
 R (.int .i64 (2)) [some ⟨1,cs⟩])∧
 (decide ((n:Int)>15)=false→
 isI .u32 cs (1)=true∧
 decide ((0:Int)≤n)=true∧
 leB (2) (List.length cs)=true∧
 R (.int .i64 (0)) [some ⟨1,(setPart cs (1) (.int .u32 (kOr .u32 (getI cs (1)) (kAnd .u32 (kShl .u32 (1) (n)) (65534)))))⟩])))∧
 (getB cs (0)=false→
 R (.int .i64 (1)) [some ⟨1,cs⟩])):=by kernel_rfl
theorem t12 (G:Nat→List AV) (cs:List AV) (n:Int) (Q:Ex→List AV→Hp→Prop) (R:AV→Hp→Prop):vT G Q R (dcall (Dc Try.prog [55,56] [] [] 0) 200 10 Try.f64 [.ptr (.rw 0) (.lit 0),.int .i64 (.var 2 n)] [some ⟨1,.var 1 cs⟩] 1)=(
  isB cs (0)=true∧
 (getB cs (0)=true→
 isI .u32 cs (2)=true∧
 leB (3) (List.length cs)=true∧
 R (.tup [.int .i64 (IntKind.wrap .i64 (getI cs (2))),.int .i64 (0)]) [some ⟨1,(setPart cs (2) (.int .u32 (kAnd .u32 (IntKind.wrap .u32 (n)) (65532))))⟩])∧
 (getB cs (0)=false→
 R (.tup [.int .i64 (0),.int .i64 (1)]) [some ⟨1,cs⟩])):=by kernel_rfl
theorem t10 (G:Nat→List AV) (cs:List AV) (n a:Int) (Q:Ex→List AV→Hp→Prop) (R:AV→Hp→Prop):vT G Q R (dcall (Dc Try.prog [55,56] [] [] 0) 200 10 Try.f73 [.ptr (.rw 0) (.lit 0),.int .i64 (.var 2 n),.int .i64 (.var 3 a)] [some ⟨1,.var 1 cs⟩] 1)=(
  isB cs (0)=true∧
 (getB cs (0)=true→
 (decide ((n:Int)<2)=true→
 R (.tup [.int .i64 (0),.int .i64 (2)]) [some ⟨1,cs⟩])∧
 (decide ((n:Int)<2)=false→
 (decide ((n:Int)>15)=true→
 R (.tup [.int .i64 (0),.int .i64 (2)]) [some ⟨1,cs⟩])∧
 (decide ((n:Int)>15)=false→
 (((a:Int)==IntKind.wrap .i64 (IntKind.wrap .u32 (a)))=true→
 decide ((0:Int)≤n)=true∧
 decide ((n:Int)<16)=true∧
 isI .u32 cs (Int.toNat (n)+3)=true∧
 decide ((0:Int)≤n)=true∧
 decide ((n:Int)<16)=true∧
 leB (Int.toNat (n)+4) (List.length cs)=true∧
 R (.tup [.int .i64 (IntKind.wrap .i64 (getI cs (Int.toNat (n)+3))),.int .i64 (0)]) [some ⟨1,(setPart cs (Int.toNat (n)+3) (.int .u32 (IntKind.wrap .u32 (a))))⟩])∧
 (((a:Int)==IntKind.wrap .i64 (IntKind.wrap .u32 (a)))=false→
 R (.tup [.int .i64 (0),.int .i64 (2)]) [some ⟨1,cs⟩]))))∧
 (getB cs (0)=false→
 R (.tup [.int .i64 (0),.int .i64 (1)]) [some ⟨1,cs⟩])):=by kernel_rfl
theorem t17 (G:Nat→List AV) (cs:List AV) (Q:Ex→List AV→Hp→Prop) (R:AV→Hp→Prop):vT G Q R (dcall (Dc Try.prog [55,56] [] [] 0) 200 10 Try.f37 [.ptr (.rw 0) (.lit 0)] [some ⟨1,.var 1 cs⟩] 2)=(
  isB cs (0)=true∧
 (getB cs (0)=true→
 leB (19) (List.length cs)=true∧
 cellsB (subL cs (0) (19))=true∧
 Nat.beq (List.length (subL cs (0) (19))) (19)=true∧
 R (.ptr (.rw 1) (0)) [some ⟨1,cs⟩,some ⟨1,(subL cs (0) (19))⟩])∧
 (getB cs (0)=false→
 R (.nilp) [some ⟨1,cs⟩])):=by kernel_rfl
theorem t38 (G:Nat→List AV) (cs:List AV) (Q:Ex→List AV→Hp→Prop) (R:AV→Hp→Prop):vT G Q R (dcall (Dc Try.prog [55,56,37] [] [] 0) 200 10 Try.f58 [.ptr (.rw 0) (.lit 0)] [some ⟨1,.var 1 cs⟩] 2)=(
  isB cs (0)=true∧
 (getB cs (0)=true→
 leB (19) (List.length cs)=true∧
 cellsB (subL cs (0) (19))=true∧
 Nat.beq (List.length (subL cs (0) (19))) (19)=true∧
 leB (2) (List.length (subL cs (0) (19)))=true∧
 R (.ptr (.rw 1) (0)) [some ⟨1,cs⟩,some ⟨1,(setPart (subL cs (0) (19)) (1) (.int .u32 (0)))⟩])∧
 (getB cs (0)=false→
 R (.nilp) [some ⟨1,cs⟩])):=by kernel_rfl
theorem leB_enc (p:Sg) (k:Nat) (h:k≤19):leB k (encP p).length=true:=leB_iff.2 (by rw [encP_length];exact h)
theorem outB_dec {n lo hi:Int} (h1:decide (n<lo)=false) (h2:decide (n>hi)=false):outB n lo hi=false:=by
 have:=of_decide_eq_false h1
 have:=of_decide_eq_false h2
 exact outB_false (by omega) (by omega)
theorem outB_lo {n lo hi:Int} (h1:decide (n<lo)=true):outB n lo hi=true:=outB_true (.inl (of_decide_eq_true h1))
theorem outB_hi {n lo hi:Int} (h1:decide (n>hi)=true):outB n lo hi=true:=outB_true (.inr (of_decide_eq_true h1))
theorem send_w (p:Sg) (n:Int) (h1:0≤n) (h2:n≤15):(encP p).set 1 (.int .u32 (kOr .u32 (u p.wt) (kAnd .u32 (kShl .u32 1 n) 65534)))=encP (send p n):=by
 have en:n=(n.toNat:Int):=by omega
 have e:kOr .u32 (u p.wt) (kAnd .u32 (kShl .u32 1 n) 65534)=u ((p.wt ||| bitN n.toNat) &&& 65534#32):=by
  rw [en,kShl1 (by omega),kAnd_w,kOr_w,w32_u,w32_u,w32_u]
  congr 1
  rw [Int.toNat_natCast]
  have:w32 65534=65534#32:=rfl
  rw [this]
  conv=>lhs;rw [←p.hw]
  rw [BitVec.and_comm p.wt,BitVec.and_comm (bitN n.toNat)]
  rw [BitVec.and_comm (p.wt ||| bitN n.toNat)]
  rw [BitVec.and_or_distrib_left]
 rw [e];rfl
theorem p_send (G:Nat→List AV) (B:Nat):SendOk (⟨Try.prog,G,B⟩:Ctx) 23 encP:=by
 intro p n
 refine Meth.of (C:=(⟨Try.prog,G,B⟩:Ctx)) (rest:=[.int .i64 (.var 2 n)]) (dg G B) (by kernel_rfl) (by kernel_rfl) (by kernel_rfl) (fuel:=200) (n0:=10) (fn:=Try.f23) ?_
 rw [t11]
 refine ⟨rfl,fun _=>⟨fun h=>?_,fun h=>⟨fun h'=>?_,fun h'=>⟨rfl,?_,leB_enc p _ (by omega),?_⟩⟩⟩,fun h=>by cases h⟩
 ·rw [outB_lo h];exact ⟨rfl,rfl⟩
 ·rw [outB_hi h'];exact ⟨rfl,rfl⟩
 ·exact decide_eq_true (by have:=of_decide_eq_false h;omega)
 ·rw [outB_dec h h']
  refine ⟨rfl,?_⟩
  have:=of_decide_eq_false h
  have:=of_decide_eq_false h'
  simp only [Bool.false_eq_true,if_false,←send_w p n (by omega) (by omega)]
  rfl
theorem p_mask (G:Nat→List AV) (B:Nat):MaskOk (⟨Try.prog,G,B⟩:Ctx) 64 encP:=by
 intro p n
 refine Meth.of (C:=(⟨Try.prog,G,B⟩:Ctx)) (rest:=[.int .i64 (.var 2 n)]) (dg G B) (by kernel_rfl) (by kernel_rfl) (by kernel_rfl) (fuel:=200) (n0:=10) (fn:=Try.f64) ?_
 rw [t12]
 refine ⟨rfl,fun _=>⟨rfl,leB_enc p _ (by omega),?_,?_⟩,fun h=>by cases h⟩
 ·have:IntKind.wrap .i64 (u p.hd)=u p.hd:=i64_in (by have:=u_range p.hd;omega)
  rw [encP_2,this]
 ·have e:kAnd .u32 (IntKind.wrap .u32 n) 65532=u (w32 n &&& 65532#32):=by rw [kAnd_w,w32_wrap];rfl
  rw [e];rfl
theorem u32_back {a:Int}:(a==IntKind.wrap .i64 (IntKind.wrap .u32 a))=!(outB a 0 4294967295):=by
 rw [IntKind.wrap_u32,i64_in (by omega)]
 by_cases h:a<0∨4294967295<a
 ·rw [outB_true h];simp;omega
 ·rw [outB_false (by omega) (by omega)];simp;omega
theorem handle_w (p:Sg) (n a:Int) (h1:2≤n) (h2:n≤15):(encP p).set (n.toNat+3) (.int .u32 (IntKind.wrap .u32 a))=encP (handle p n a):=by
 rw [wrap_w32]
 show (AV.bool true::.int .u32 (u p.wt)::.int .u32 (u p.hd)::at16 p.at_).set (n.toNat+3) _=_
 simp only [List.set_cons_succ]
 show _=AV.bool true::.int .u32 (u p.wt)::.int .u32 (u p.hd)::at16 (updA p.at_ n.toNat (w32 a))
 congr 3
 apply List.ext_getElem?
 intro j
 rw [List.getElem?_set,at16_length]
 by_cases hj:j<16
 ·rw [at16_get _ hj,at16_get _ hj]
  unfold updA
  by_cases he:n.toNat=j
  ·subst he
   rw [if_pos rfl,if_pos (by omega),if_pos rfl,if_neg (by omega)]
  ·rw [if_neg he,if_neg (fun h=>he h.symm)]
 ·rw [List.getElem?_eq_none (by rw [at16_length];omega),List.getElem?_eq_none (by rw [at16_length];omega)]
  rw [if_neg (by omega)]
theorem p_handle (G:Nat→List AV) (B:Nat):HandleOk (⟨Try.prog,G,B⟩:Ctx) 73 encP:=by
 intro p n a
 refine Meth.of (C:=(⟨Try.prog,G,B⟩:Ctx)) (rest:=[.int .i64 (.var 2 n),.int .i64 (.var 3 a)]) (dg G B) (by kernel_rfl) (by kernel_rfl) (by kernel_rfl) (fuel:=200) (n0:=10) (fn:=Try.f73) ?_
 rw [t10,u32_back]
 refine ⟨rfl,fun _=>⟨fun h=>?_,fun h=>⟨fun h'=>?_,fun h'=>⟨fun h3=>?_,fun h3=>?_⟩⟩⟩,fun h=>by cases h⟩
 ·rw [outB_lo h];exact ⟨rfl,rfl⟩
 ·rw [outB_hi h'];exact ⟨rfl,rfl⟩
 ·have g1:=of_decide_eq_false h
  have g2:=of_decide_eq_false h'
  have h3:outB a 0 4294967295=false:=by simpa using h3
  refine ⟨decide_eq_true (by omega),decide_eq_true (by omega),encP_isI p (by omega),decide_eq_true (by omega),decide_eq_true (by omega),leB_enc p _ (by omega),?_⟩
  rw [outB_dec h h',h3]
  have:IntKind.wrap .i64 (u (p.at_ n.toNat))=u (p.at_ n.toNat):=i64_in (by have:=u_range (p.at_ n.toNat);omega)
  rw [encP_getI p (by omega),this]
  refine ⟨rfl,?_⟩
  simp only [Bool.or_self,Bool.false_eq_true,if_false,←handle_w p n a (by omega) (by omega)]
  rfl
 ·have h3:outB a 0 4294967295=true:=by simpa using h3
  rw [h3,Bool.or_true];exact ⟨rfl,rfl⟩
theorem subL_enc (p:Sg):subL (encP p) 0 19=encP p:=by
 unfold subL;rw [List.drop_zero,List.take_of_length_le (by rw [encP_length];omega)]
theorem p_copy (G:Nat→List AV) (B:Nat):NewOk (⟨Try.prog,G,B⟩:Ctx) 37 encP (fun _=>.ptr (.rw 1) 0) encP:=by
 intro p
 refine New.of (C:=(⟨Try.prog,G,B⟩:Ctx)) (dg G B) (by kernel_rfl) (by kernel_rfl) (by kernel_rfl) (encP_flat _ _) (encP_flat _ _) (by simp [bnd]) (by simp) (fuel:=200) (n0:=10) (fn:=Try.f37) ?_
 rw [t17]
 rw [subL_enc]
 exact ⟨rfl,fun _=>⟨leB_enc p _ (by omega),encP_cells p,by rw [encP_length];rfl,rfl,rfl⟩,fun h=>by cases h⟩
theorem p_child (G:Nat→List AV) (B:Nat):NewOk (⟨Try.prog,G,B⟩:Ctx) 58 encP (fun _=>.ptr (.rw 1) 0) (fun p=>encP (setW p 0#32)):=by
 intro p
 refine New.of (C:=(⟨Try.prog,G,B⟩:Ctx)) (dgood (inl:=[55,56,37]) (sums:=[]) (ls:=[]) (M:=0) (mix G B) (by kernel_rfl) .nil .nil) (by kernel_rfl) (by kernel_rfl) (by kernel_rfl) (encP_flat _ _) (encP_flat _ _) (by simp [bnd]) (by simp) (fuel:=200) (n0:=10) (fn:=Try.f58) ?_
 rw [t38]
 rw [subL_enc]
 exact ⟨rfl,fun _=>⟨leB_enc p _ (by omega),encP_cells p,by rw [encP_length];rfl,leB_enc p _ (by omega),rfl,rfl⟩,fun h=>by cases h⟩
end Go.Am
namespace Go.Am
open Go.Proofs Crc
set_option maxRecDepth 100000
theorem tk_body (G:Nat→List AV) (cs r:List AV) (i:Int) (Q:Ex→List AV→Hp→Prop) (R:AV→Hp→Prop):vT G Q R (dloop (Dc Try.prog [55,56] [] [] 0) 200 10 1 (loopN Try.f66 0) 63 [0,2,4,5] [.ptr (.rw 0) (.lit 0),.ptr (.rw 1) (.lit 0),.int .i64 (.lit 0),.int .i64 (.var 2 i)] [some ⟨1,.var 1 cs⟩,some ⟨1,.var 3 r⟩])=(
  (decide ((i:Int)≤15)=true→
 isI .u32 cs (1)=true∧
 isI .u32 cs (2)=true∧
 decide ((0:Int)≤i)=true∧
 (((kAnd .u32 (kShr .u32 (kAndNot .u32 (getI cs (1)) (getI cs (2))) (i)) (1):Int)==1)=true→
 Q (.exit 0) [.ptr (.rw 0) (0),.ptr (.rw 1) (0),.int .i64 (i),.int .i64 (i)] [some ⟨1,cs⟩,some ⟨1,r⟩])∧
 (((kAnd .u32 (kShr .u32 (kAndNot .u32 (getI cs (1)) (getI cs (2))) (i)) (1):Int)==1)=false→
 Q .normal [.ptr (.rw 0) (0),.ptr (.rw 1) (0),.int .i64 (0),.int .i64 (IntKind.wrap .i64 (i+1))] [some ⟨1,cs⟩,some ⟨1,r⟩]))∧
 (decide ((i:Int)≤15)=false→
 Q (.exit 0) [.ptr (.rw 0) (0),.ptr (.rw 1) (0),.int .i64 (0),.int .i64 (i)] [some ⟨1,cs⟩,some ⟨1,r⟩])):=by kernel_rfl
theorem bit_eq (x:Wd) (i:Nat) (h:i<32):((kAnd .u32 (kShr .u32 (u x) (i:Int)) 1:Int)==1)=x.getLsbD i:=by
 rw [bit_sel x i h];cases x.getLsbD i<;>rfl
def tkNU:List AV→Int:=onP 0 fun p=>tkN p
theorem tk_loop (G:Nat→List AV) (B:Nat) (p:Sg) (r:List AV):AWp (⟨Try.prog,G,B⟩:Ctx) 1 (.loop (loopN Try.f66 0)) (fl 63 [0,2,4,5] [.ptr (.rw 0) 0,.ptr (.rw 1) 0,.int .i64 0,.int .i64 1]) [some ⟨1,encP p⟩,some ⟨1,r⟩]
  (lv 63 [0,2,4,5] fun e vs H=>e=.exit 0∧wk [.ptr (.rw 0) 0,.ptr (.rw 1) 0,.int .i64 (tkN p),.undef] vs∧H=[some ⟨1,encP p⟩,some ⟨1,r⟩]):=by
 let x:Wd:=p.wt &&& ~~~ p.hd
 refine aloop_lv (fun j vs H=>∃ i:Nat,1≤i∧i≤16∧j=16 - i∧lowFrom x (16 - i) i=tkN p∧vs=[.ptr (.rw 0) 0,.ptr (.rw 1) 0,.int .i64 0,.int .i64 (i:Int)]∧H=[some ⟨1,encP p⟩,some ⟨1,r⟩]) 15
  ⟨1,by omega,by omega,rfl,rfl,rfl,rfl⟩ ?_
 rintro j vs H ⟨i,hi1,hi2,rfl,hlow,rfl,rfl⟩
 refine dloop_ok (C:=(⟨Try.prog,G,B⟩:Ctx)) (dg G B) (fuel:=200) (n0:=10) (m:=1) (c:=loopN Try.f66 0) (vs:=[.ptr (.rw 0) (.lit 0),.ptr (.rw 1) (.lit 0),.int .i64 (.lit 0),.int .i64 (.var 2 (i:Int))]) (H:=[some ⟨1,.var 1 (encP p)⟩,some ⟨1,.var 3 r⟩]) (by simp) ?_
 rw [tk_body]
 rw [encP_1,encP_2,kAndNot_w,w32_u,w32_u]
 refine ⟨fun h=>⟨rfl,rfl,decide_eq_true (by omega),fun hb=>?_,fun hb=>?_⟩,fun h=>?_⟩
 ·have h:=of_decide_eq_true h
  rw [bit_eq x i (by omega)] at hb
  have:16 - i=(15 - i)+1:=by omega
  rw [this,lowFrom_succ,hb,if_pos rfl] at hlow
  rw [←hlow]
  exact ⟨rfl,by simp [wk],rfl⟩
 ·have h:=of_decide_eq_true h
  rw [bit_eq x i (by omega)] at hb
  have:16 - i=(15 - i)+1:=by omega
  rw [this,lowFrom_succ,hb,if_neg (by simp)] at hlow
  refine ⟨16 - (i+1),by omega,.inl ⟨i+1,by omega,by omega,rfl,?_,by rw [i64_in (by omega)];rfl,rfl⟩⟩
  rw [show 16 - (i+1)=15 - i by omega];exact hlow
 ·have h:=of_decide_eq_false h
  have:i=16:=by omega
  subst this
  rw [←hlow]
  exact ⟨rfl,by simp [wk,lowFrom],rfl⟩
def tkL:DL:=⟨0,63,[0,2,4,5],fun vs H=>match vs,H with
 | [.ptr (.rw 0) (.lit 0),.ptr (.rw 1) (.lit 0),.int .i64 (.lit 0),.int .i64 (.lit 1)],[some ⟨1,l⟩,some ⟨1,r⟩]=>
  some (.chk (.uf 1001 okU [.agg l]) (.one (.exit 0) [.ptr (.rw 0) (.lit 0),.ptr (.rw 1) (.lit 0),.int .i64 (.uf 1030 tkNU [.agg l]),.undef] [some ⟨1,l⟩,some ⟨1,r⟩]))
 | _,_=>none⟩
theorem tkNU_enc (p:Sg):tkNU [.agg (encP p)]=tkN p:=by simp only [tkNU,onP,decP_enc]
theorem tkL_ok (G:Nat→List AV) (B:Nat):DLoopOk (⟨Try.prog,G,B⟩:Ctx) 1 (loopN Try.f66 0) tkL:=by
 refine .of fun vs H o ho n Q hQ=>?_
 simp only [tkL] at ho
 split at ho
 ·rename_i l r
  simp only [Option.some.injEq] at ho
  subst ho
  obtain ⟨h1,h2⟩:=hQ
  simp only [vB,vVs,vV] at h1
  have hl:vL G l=encP (decP (vL G l)):=okP_eq h1
  refine lone ?_ h2
  simp only [tkL,vVs,vV,vR,vN,vI,vHp,List.map_cons,List.map_nil,Option.map_some,vBlk]
  rw [hl,tkNU_enc]
  exact tk_loop G B _ _
 ·simp at ho
theorem dgT (G:Nat→List AV) (B:Nat):DGood (⟨Try.prog,G,B⟩:Ctx) (Dc Try.prog [55] [] [tkL] 1) (loopsOf (bodyOf Try.f66)):=dgood (mix G B) (by kernel_rfl) .nil (.cast (.cons (i:=0) (by kernel_rfl) rfl (tkL_ok G B) .nil) (by kernel_rfl))
theorem t14 (G:Nat→List AV) (cs:List AV) (Q:Ex→List AV→Hp→Prop) (R:AV→Hp→Prop):vT G Q R (dcall (Dc Try.prog [55] [] [tkL] 1) 200 10 Try.f66 [.ptr (.rw 0) (.lit 0)] [some ⟨1,.var 1 cs⟩] 1)=(
  isB cs (0)=true∧
 (getB cs (0)=true→
 okU [.agg cs]=true∧
 (((tkNU [.agg cs]:Int)==0)=true→
 R (.tup [.agg ([.int .i64 (0),.bool (false),.int .u32 (0)]:List AV),.bool (false)]) [some ⟨1,cs⟩])∧
 (((tkNU [.agg cs]:Int)==0)=false→
 isI .u32 cs (1)=true∧
 decide ((0:Int)≤tkNU [.agg cs])=true∧
 leB (2) (List.length cs)=true∧
 decide ((0:Int)≤tkNU [.agg cs])=true∧
 decide ((tkNU [.agg cs]:Int)<16)=true∧
 isI .u32 (setPart cs (1) (.int .u32 (kAndNot .u32 (getI cs (1)) (kShl .u32 (1) (tkNU [.agg cs]))))) (Int.toNat (tkNU [.agg cs])+3)=true∧
 (((getI (setPart cs (1) (.int .u32 (kAndNot .u32 (getI cs (1)) (kShl .u32 (1) (tkNU [.agg cs]))))) (Int.toNat (tkNU [.agg cs])+3):Int)==1)=true→
 R (.tup [.agg ([.int .i64 (0),.bool (false),.int .u32 (0)]:List AV),.bool (false)]) [some ⟨1,(setPart cs (1) (.int .u32 (kAndNot .u32 (getI cs (1)) (kShl .u32 (1) (tkNU [.agg cs])))))⟩])∧
 (((getI (setPart cs (1) (.int .u32 (kAndNot .u32 (getI cs (1)) (kShl .u32 (1) (tkNU [.agg cs]))))) (Int.toNat (tkNU [.agg cs])+3):Int)==1)=false→
 decide ((0:Int)≤tkNU [.agg cs])=true∧
 decide ((tkNU [.agg cs]:Int)<16)=true∧
 isI .u32 (setPart cs (1) (.int .u32 (kAndNot .u32 (getI cs (1)) (kShl .u32 (1) (tkNU [.agg cs]))))) (Int.toNat (tkNU [.agg cs])+3)=true∧
 decide ((0:Int)≤tkNU [.agg cs])=true∧
 decide ((tkNU [.agg cs]:Int)<16)=true∧
 isI .u32 (setPart cs (1) (.int .u32 (kAndNot .u32 (getI cs (1)) (kShl .u32 (1) (tkNU [.agg cs]))))) (Int.toNat (tkNU [.agg cs])+3)=true∧
 R (.tup [.agg ([.int .i64 (tkNU [.agg cs]),.bool (((getI (setPart cs (1) (.int .u32 (kAndNot .u32 (getI cs (1)) (kShl .u32 (1) (tkNU [.agg cs]))))) (Int.toNat (tkNU [.agg cs])+3):Int)==0)),.int .u32 (getI (setPart cs (1) (.int .u32 (kAndNot .u32 (getI cs (1)) (kShl .u32 (1) (tkNU [.agg cs]))))) (Int.toNat (tkNU [.agg cs])+3))]:List AV),.bool (true)]) [some ⟨1,(setPart cs (1) (.int .u32 (kAndNot .u32 (getI cs (1)) (kShl .u32 (1) (tkNU [.agg cs])))))⟩])))∧
 (getB cs (0)=false→
 R (.tup [.agg ([.int .i64 (0),.bool (false),.int .u32 (0)]:List AV),.bool (false)]) [some ⟨1,cs⟩])):=by kernel_rfl
theorem take_w (p:Sg) (h0:tkN p≠0):setPart (encP p) 1 (.int .u32 (kAndNot .u32 (u p.wt) (kShl .u32 1 (tkN p:Int))))=encP (tkP p):=by
 have hlt:tkN p<16:=lowest_lt _
 have e:kAndNot .u32 (u p.wt) (kShl .u32 1 (tkN p:Int))=u ((p.wt &&& ~~~ bitN (tkN p)) &&& 65534#32):=by
  rw [kShl1 (by omega),kAndNot_w,w32_u,w32_u]
  congr 1
  conv=>lhs;rw [←p.hw]
  rw [BitVec.and_assoc,BitVec.and_assoc,BitVec.and_comm 65534#32]
 rw [e]
 unfold tkP
 rw [if_neg h0]
 rfl
theorem tkP_at (p:Sg) (i:Nat):(tkP p).at_ i=p.at_ i:=by unfold tkP;split<;>rfl
theorem p_take (G:Nat→List AV) (B:Nat):TakeOk (⟨Try.prog,G,B⟩:Ctx) 66 encP:=by
 intro p
 refine Meth.of (C:=(⟨Try.prog,G,B⟩:Ctx)) (rest:=[]) (dgT G B) (by kernel_rfl) (by kernel_rfl) (by kernel_rfl) (fuel:=200) (n0:=10) (fn:=Try.f66) ?_
 rw [t14,tkNU_enc,encP_1,Int.toNat_natCast]
 have hlt:tkN p<16:=lowest_lt _
 refine ⟨rfl,fun _=>⟨okU_enc p,fun h=>?_,fun h=>?_⟩,fun h=>by cases h⟩
 ·have h0:tkN p=0:=by have:=eq_of_beq h;omega
  refine ⟨by simp [takenV,tkSig,tkEnds,tkAt,tkOk,h0],by simp [tkP,h0]⟩
 ·have h0:tkN p≠0:=by
   intro h1;rw [h1] at h;cases h
  have hb:Nat.beq (tkN p) 0=false:=by
   cases h1:tkN p with
   | zero=>exact absurd h1 h0
   | succ n=>rfl
  rw [take_w p h0,encP_getI _ hlt,tkP_at]
  have a1:decide ((0:Int)≤(tkN p:Int))=true:=decide_eq_true (by omega)
  have a2:decide ((tkN p:Int)<16)=true:=decide_eq_true (by omega)
  have a3:=encP_isI (tkP p) hlt
  refine ⟨rfl,a1,leB_enc p _ (by omega),a1,a2,a3,fun h1=>?_,fun h1=>⟨a1,a2,a3,a1,a2,a3,?_⟩⟩
  ·have h1:p.at_ (tkN p)=1#32:=by
    have:=congrArg w32 (eq_of_beq h1)
    rw [w32_u] at this
    exact this
   exact ⟨by simp [takenV,tkSig,tkEnds,tkAt,tkOk,h1],rfl⟩
  ·have h1:(p.at_ (tkN p)==1#32)=false:=by
    rw [beq_eq_false_iff_ne]
    intro h
    rw [h] at h1
    cases h1
   have hok:tkOk p=true:=by simp [tkOk,hb,h1]
   have he:(u (p.at_ (tkN p))==0)=(p.at_ (tkN p)==0#32):=u_beq (p.at_ (tkN p)) 0#32
   refine ⟨?_,rfl⟩
   simp only [takenV,tkSig,tkEnds,tkAt,hok,if_true,Bool.true_and,he]
end Go.Am
namespace Go.Am
open Go.Proofs Crc
set_option maxRecDepth 100000
theorem q28 (G:Nat→List AV) (tb sl:List AV) (n a:Int) (Q:Ex→List AV→Hp→Prop) (R:AV→Hp→Prop):vT G Q R (dcall (Df Try.prog [(48,1,13)] [36,38,39,20] [] [] 0) 300 20 Try.f28 [.ptr (.rw 0) (.lit 0),.int .i64 (.var 3 n),.int .i64 (.var 4 a)] (hp3 [some ⟨1,.var 1 tb⟩] (.var 2 sl) []) 14)=(
  isB tb (0)=true∧
 (getB tb (0)=true→
 isB tb (0)=true∧
 getB tb (0)=true∧
 (decide ((n:Int)≥1)=true→
 (decide ((n:Int)≤12)=true→
 decide ((0:Int)≤n)=true∧
 decide ((n:Int)<13)=true∧
 isI .i64 tb ((Int.toNat (n))*7+1)=true∧
 (((getI tb ((Int.toNat (n))*7+1):Int)==n)=true→
 decide ((0:Int)≤n)=true∧
 decide ((n:Int)<13)=true∧
 isB tb ((Int.toNat (n))*7+5)=true∧
 (getB tb ((Int.toNat (n))*7+5)=true→
 R (.int .i64 (6)) ([some ⟨1,tb⟩]++rows13 sl))∧
 (getB tb ((Int.toNat (n))*7+5)=false→
 (decide ((a:Int)<1)=true→
 R (.int .i64 (2)) ([some ⟨1,tb⟩]++rows13 sl))∧
 (decide ((a:Int)<1)=false→
 (decide ((a:Int)>12)=true→
 R (.int .i64 (2)) ([some ⟨1,tb⟩]++rows13 sl))∧
 (decide ((a:Int)>12)=false→
 decide ((0:Int)≤n)=true∧
 decide ((n:Int)<13)=true∧
 leB ((Int.toNat (n))*7+4) (List.length tb)=true∧
 R (.int .i64 (0)) ([some ⟨1,(setPart tb ((Int.toNat (n))*7+3) (.int .i64 (a)))⟩]++rows13 sl)))))∧
 (((getI tb ((Int.toNat (n))*7+1):Int)==n)=false→
 R (.int .i64 (6)) ([some ⟨1,tb⟩]++rows13 sl)))∧
 (decide ((n:Int)≤12)=false→
 R (.int .i64 (6)) ([some ⟨1,tb⟩]++rows13 sl)))∧
 (decide ((n:Int)≥1)=false→
 R (.int .i64 (6)) ([some ⟨1,tb⟩]++rows13 sl)))∧
 (getB tb (0)=false→
 R (.int .i64 (1)) ([some ⟨1,tb⟩]++rows13 sl))):=by kernel_rfl
theorem q32 (G:Nat→List AV) (tb sl:List AV) (n a:Int) (Q:Ex→List AV→Hp→Prop) (R:AV→Hp→Prop):vT G Q R (dcall (Df Try.prog [(48,1,13)] [36,38,39,20] [] [] 0) 300 20 Try.f32 [.ptr (.rw 0) (.lit 0),.int .i64 (.var 3 n),.int .i64 (.var 4 a)] (hp3 [some ⟨1,.var 1 tb⟩] (.var 2 sl) []) 14)=(
  isB tb (0)=true∧
 (getB tb (0)=true→
 isB tb (0)=true∧
 getB tb (0)=true∧
 (decide ((n:Int)≥1)=true→
 (decide ((n:Int)≤12)=true→
 decide ((0:Int)≤n)=true∧
 decide ((n:Int)<13)=true∧
 isI .i64 tb ((Int.toNat (n))*7+1)=true∧
 (((getI tb ((Int.toNat (n))*7+1):Int)==n)=true→
 decide ((0:Int)≤n)=true∧
 decide ((n:Int)<13)=true∧
 isB tb ((Int.toNat (n))*7+5)=true∧
 (getB tb ((Int.toNat (n))*7+5)=true→
 R (.int .i64 (6)) ([some ⟨1,tb⟩]++rows13 sl))∧
 (getB tb ((Int.toNat (n))*7+5)=false→
 (((a:Int)==IntKind.wrap .i64 (IntKind.wrap .u16 (a)))=true→
 decide ((0:Int)≤n)=true∧
 decide ((n:Int)<13)=true∧
 isI .i64 tb ((Int.toNat (n))*7+4)=true∧
 (((getI tb ((Int.toNat (n))*7+4):Int)==0)=true→
 decide ((0:Int)≤n)=true∧
 decide ((n:Int)<13)=true∧
 leB ((Int.toNat (n))*7+5) (List.length tb)=true∧
 R (.int .i64 (0)) ([some ⟨1,(setPart tb ((Int.toNat (n))*7+4) (.int .i64 (a)))⟩]++rows13 sl))∧
 (((getI tb ((Int.toNat (n))*7+4):Int)==0)=false→
 R (.int .i64 (8)) ([some ⟨1,tb⟩]++rows13 sl)))∧
 (((a:Int)==IntKind.wrap .i64 (IntKind.wrap .u16 (a)))=false→
 R (.int .i64 (2)) ([some ⟨1,tb⟩]++rows13 sl))))∧
 (((getI tb ((Int.toNat (n))*7+1):Int)==n)=false→
 R (.int .i64 (6)) ([some ⟨1,tb⟩]++rows13 sl)))∧
 (decide ((n:Int)≤12)=false→
 R (.int .i64 (6)) ([some ⟨1,tb⟩]++rows13 sl)))∧
 (decide ((n:Int)≥1)=false→
 R (.int .i64 (6)) ([some ⟨1,tb⟩]++rows13 sl)))∧
 (getB tb (0)=false→
 R (.int .i64 (1)) ([some ⟨1,tb⟩]++rows13 sl))):=by kernel_rfl
theorem q47 (G:Nat→List AV) (tb sl:List AV) (n a:Int) (Q:Ex→List AV→Hp→Prop) (R:AV→Hp→Prop):vT G Q R (dcall (Df Try.prog [(48,1,13)] [36,38,39,20] [(64,fMaskS sideP)] [] 0) 300 20 Try.f47 [.ptr (.rw 0) (.lit 0),.int .i64 (.var 3 n),.int .i64 (.var 4 a)] (hp3 [some ⟨1,.var 1 tb⟩] (.var 2 sl) []) 14)=(
  isB tb (0)=true∧
 (getB tb (0)=true→
 isB tb (0)=true∧
 getB tb (0)=true∧
 (decide ((n:Int)≥1)=true→
 (decide ((n:Int)≤12)=true→
 decide ((0:Int)≤n)=true∧
 decide ((n:Int)<13)=true∧
 isI .i64 tb ((Int.toNat (n))*7+1)=true∧
 (((getI tb ((Int.toNat (n))*7+1):Int)==n)=true→
 decide ((0:Int)≤n)=true∧
 decide ((n:Int)<13)=true∧
 isB tb ((Int.toNat (n))*7+5)=true∧
 (getB tb ((Int.toNat (n))*7+5)=true→
 R (.tup [.int .i64 (0),.int .i64 (6)]) ([some ⟨1,tb⟩]++rows13 sl))∧
 (getB tb ((Int.toNat (n))*7+5)=false→
 decide ((0:Int)≤n)=true∧
 decide ((n:Int)<13)=true∧
 (isNilA tb ((Int.toNat (n))*7+7)=true→
 False)∧
 (isNilA tb ((Int.toNat (n))*7+7)=false→
 isPA 1 13 tb ((Int.toNat (n))*7+7)=true∧
 Nat.beq (foA tb ((Int.toNat (n))*7+7)) (0)=true∧
 leB (fkA 1 tb ((Int.toNat (n))*7+7)+1) (13)=true∧
 rowsA sl (rp 13 sl)=true∧
 leB (fkA 1 tb ((Int.toNat (n))*7+7)+1) (List.length sl)=true∧
 okU [.agg (rowA sl (fkA 1 tb ((Int.toNat (n))*7+7)))]=true∧
 R (.tup [.int .i64 (heldU [.agg (rowA sl (fkA 1 tb ((Int.toNat (n))*7+7)))]),.int .i64 (0)]) ([some ⟨1,tb⟩]++rows13 (putA sl (fkA 1 tb ((Int.toNat (n))*7+7)) (maskU [.agg (rowA sl (fkA 1 tb ((Int.toNat (n))*7+7))),.int .i64 (a)]))))))∧
 (((getI tb ((Int.toNat (n))*7+1):Int)==n)=false→
 R (.tup [.int .i64 (0),.int .i64 (6)]) ([some ⟨1,tb⟩]++rows13 sl)))∧
 (decide ((n:Int)≤12)=false→
 R (.tup [.int .i64 (0),.int .i64 (6)]) ([some ⟨1,tb⟩]++rows13 sl)))∧
 (decide ((n:Int)≥1)=false→
 R (.tup [.int .i64 (0),.int .i64 (6)]) ([some ⟨1,tb⟩]++rows13 sl)))∧
 (getB tb (0)=false→
 R (.tup [.int .i64 (0),.int .i64 (1)]) ([some ⟨1,tb⟩]++rows13 sl))):=by kernel_rfl
theorem q49 (G:Nat→List AV) (tb sl:List AV) (n a q:Int) (Q:Ex→List AV→Hp→Prop) (R:AV→Hp→Prop):vT G Q R (dcall (Df Try.prog [(48,1,13)] [36,38,39,20] [(73,fHandleS sideP)] [] 0) 300 20 Try.f49 [.ptr (.rw 0) (.lit 0),.int .i64 (.var 3 n),.int .i64 (.var 4 a),.int .i64 (.var 5 q)] (hp3 [some ⟨1,.var 1 tb⟩] (.var 2 sl) []) 14)=(
  isB tb (0)=true∧
 (getB tb (0)=true→
 isB tb (0)=true∧
 getB tb (0)=true∧
 (decide ((n:Int)≥1)=true→
 (decide ((n:Int)≤12)=true→
 decide ((0:Int)≤n)=true∧
 decide ((n:Int)<13)=true∧
 isI .i64 tb ((Int.toNat (n))*7+1)=true∧
 (((getI tb ((Int.toNat (n))*7+1):Int)==n)=true→
 decide ((0:Int)≤n)=true∧
 decide ((n:Int)<13)=true∧
 isB tb ((Int.toNat (n))*7+5)=true∧
 (getB tb ((Int.toNat (n))*7+5)=true→
 R (.tup [.int .i64 (0),.int .i64 (6)]) ([some ⟨1,tb⟩]++rows13 sl))∧
 (getB tb ((Int.toNat (n))*7+5)=false→
 (decide ((a:Int)<0)=true→
 R (.tup [.int .i64 (0),.int .i64 (2)]) ([some ⟨1,tb⟩]++rows13 sl))∧
 (decide ((a:Int)<0)=false→
 (decide ((a:Int)>15)=true→
 R (.tup [.int .i64 (0),.int .i64 (2)]) ([some ⟨1,tb⟩]++rows13 sl))∧
 (decide ((a:Int)>15)=false→
 decide ((0:Int)≤n)=true∧
 decide ((n:Int)<13)=true∧
 (isNilA tb ((Int.toNat (n))*7+7)=true→
 False)∧
 (isNilA tb ((Int.toNat (n))*7+7)=false→
 isPA 1 13 tb ((Int.toNat (n))*7+7)=true∧
 Nat.beq (foA tb ((Int.toNat (n))*7+7)) (0)=true∧
 leB (fkA 1 tb ((Int.toNat (n))*7+7)+1) (13)=true∧
 rowsA sl (rp 13 sl)=true∧
 leB (fkA 1 tb ((Int.toNat (n))*7+7)+1) (List.length sl)=true∧
 okU [.agg (rowA sl (fkA 1 tb ((Int.toNat (n))*7+7)))]=true∧
 R (.tup [.int .i64 (handleVU [.agg (rowA sl (fkA 1 tb ((Int.toNat (n))*7+7))),.int .i64 (a),.int .i64 (q)]),.int .i64 (handleEU [.int .i64 (a),.int .i64 (q)])]) ([some ⟨1,tb⟩]++rows13 (putA sl (fkA 1 tb ((Int.toNat (n))*7+7)) (handleXU [.agg (rowA sl (fkA 1 tb ((Int.toNat (n))*7+7))),.int .i64 (a),.int .i64 (q)]))))))))∧
 (((getI tb ((Int.toNat (n))*7+1):Int)==n)=false→
 R (.tup [.int .i64 (0),.int .i64 (6)]) ([some ⟨1,tb⟩]++rows13 sl)))∧
 (decide ((n:Int)≤12)=false→
 R (.tup [.int .i64 (0),.int .i64 (6)]) ([some ⟨1,tb⟩]++rows13 sl)))∧
 (decide ((n:Int)≥1)=false→
 R (.tup [.int .i64 (0),.int .i64 (6)]) ([some ⟨1,tb⟩]++rows13 sl)))∧
 (getB tb (0)=false→
 R (.tup [.int .i64 (0),.int .i64 (1)]) ([some ⟨1,tb⟩]++rows13 sl))):=by kernel_rfl
theorem q16 (G:Nat→List AV) (tb sl:List AV) (n:Int) (Q:Ex→List AV→Hp→Prop) (R:AV→Hp→Prop):vT G Q R (dcall (Df Try.prog [(48,1,13)] [36,38,39,20] [] [] 0) 300 20 Try.f16 [.ptr (.rw 0) (.lit 0),.int .i64 (.var 3 n)] (hp3 [some ⟨1,.var 1 tb⟩] (.var 2 sl) []) 14)=(
  isB tb (0)=true∧
 (getB tb (0)=true→
 (decide ((n:Int)≥1)=true→
 (decide ((n:Int)≤12)=true→
 decide ((0:Int)≤n)=true∧
 decide ((n:Int)<13)=true∧
 isI .i64 tb ((Int.toNat (n))*7+1)=true∧
 (((getI tb ((Int.toNat (n))*7+1):Int)==n)=true→
 decide ((0:Int)≤n)=true∧
 decide ((n:Int)<13)=true∧
 leB ((Int.toNat (n))*7+7) (List.length tb)=true∧
 cellsB (subL tb ((Int.toNat (n))*7+1) (6))=true∧
 Nat.beq (List.length (subL tb ((Int.toNat (n))*7+1) (6))) (6)=true∧
 leB (6) (List.length (subL tb ((Int.toNat (n))*7+1) (6)))=true∧
 R (.tup [.agg (subL (subL tb ((Int.toNat (n))*7+1) (6)) (0) (6)),.bool (true)]) ([some ⟨1,tb⟩]++rows13 sl))∧
 (((getI tb ((Int.toNat (n))*7+1):Int)==n)=false→
 R (.tup [.agg ([.int .i64 (0),.int .i64 (0),.int .i64 (0),.int .i64 (0),.bool (false),.int .i64 (0)]:List AV),.bool (false)]) ([some ⟨1,tb⟩]++rows13 sl)))∧
 (decide ((n:Int)≤12)=false→
 R (.tup [.agg ([.int .i64 (0),.int .i64 (0),.int .i64 (0),.int .i64 (0),.bool (false),.int .i64 (0)]:List AV),.bool (false)]) ([some ⟨1,tb⟩]++rows13 sl)))∧
 (decide ((n:Int)≥1)=false→
 R (.tup [.agg ([.int .i64 (0),.int .i64 (0),.int .i64 (0),.int .i64 (0),.bool (false),.int .i64 (0)]:List AV),.bool (false)]) ([some ⟨1,tb⟩]++rows13 sl)))∧
 (getB tb (0)=false→
 R (.tup [.agg ([.int .i64 (0),.int .i64 (0),.int .i64 (0),.int .i64 (0),.bool (false),.int .i64 (0)]:List AV),.bool (false)]) ([some ⟨1,tb⟩]++rows13 sl))):=by kernel_rfl
theorem q20 (G:Nat→List AV) (tb sl:List AV) (n:Int) (Q:Ex→List AV→Hp→Prop) (R:AV→Hp→Prop):vT G Q R (dcall (Df Try.prog [(48,1,13)] [36,38,39,20] [] [] 0) 300 20 Try.f20 [.ptr (.rw 0) (.lit 0),.int .i64 (.var 3 n)] (hp3 [some ⟨1,.var 1 tb⟩] (.var 2 sl) []) 14)=(
  isB tb (0)=true∧
 (getB tb (0)=true→
 (decide ((n:Int)≥1)=true→
 (decide ((n:Int)≤12)=true→
 decide ((0:Int)≤n)=true∧
 decide ((n:Int)<13)=true∧
 isI .i64 tb ((Int.toNat (n))*7+1)=true∧
 (((getI tb ((Int.toNat (n))*7+1):Int)==n)=true→
 decide ((0:Int)≤n)=true∧
 decide ((n:Int)<13)=true∧
 isB tb ((Int.toNat (n))*7+5)=true∧
 R (.bool ((!(getB tb ((Int.toNat (n))*7+5))))) ([some ⟨1,tb⟩]++rows13 sl))∧
 (((getI tb ((Int.toNat (n))*7+1):Int)==n)=false→
 R (.bool (false)) ([some ⟨1,tb⟩]++rows13 sl)))∧
 (decide ((n:Int)≤12)=false→
 R (.bool (false)) ([some ⟨1,tb⟩]++rows13 sl)))∧
 (decide ((n:Int)≥1)=false→
 R (.bool (false)) ([some ⟨1,tb⟩]++rows13 sl)))∧
 (getB tb (0)=false→
 R (.bool (false)) ([some ⟨1,tb⟩]++rows13 sl))):=by kernel_rfl
theorem q22 (G:Nat→List AV) (tb sl:List AV) (n:Int) (Q:Ex→List AV→Hp→Prop) (R:AV→Hp→Prop):vT G Q R (dcall (Df Try.prog [(48,1,13)] [36,38,39,20] [(37,fCopyS sideP)] [] 0) 300 20 Try.f22 [.ptr (.rw 0) (.lit 0),.int .i64 (.var 3 n)] (hp3 [some ⟨1,.var 1 tb⟩] (.var 2 sl) []) 15)=(
  isB tb (0)=true∧
 (getB tb (0)=true→
 (decide ((n:Int)≥1)=true→
 (decide ((n:Int)≤12)=true→
 decide ((0:Int)≤n)=true∧
 decide ((n:Int)<13)=true∧
 isI .i64 tb ((Int.toNat (n))*7+1)=true∧
 (((getI tb ((Int.toNat (n))*7+1):Int)==n)=true→
 decide ((0:Int)≤n)=true∧
 decide ((n:Int)<13)=true∧
 (isNilA tb ((Int.toNat (n))*7+7)=true→
 False)∧
 (isNilA tb ((Int.toNat (n))*7+7)=false→
 isPA 1 13 tb ((Int.toNat (n))*7+7)=true∧
 Nat.beq (foA tb ((Int.toNat (n))*7+7)) (0)=true∧
 leB (fkA 1 tb ((Int.toNat (n))*7+7)+1) (13)=true∧
 rowsA sl (rp 13 sl)=true∧
 leB (fkA 1 tb ((Int.toNat (n))*7+7)+1) (List.length sl)=true∧
 okU [.agg (rowA sl (fkA 1 tb ((Int.toNat (n))*7+7)))]=true∧
 R (.ptr (.rw 14) (0)) ([some ⟨1,tb⟩]++(rows13 sl++[some ⟨1,(rowA sl (fkA 1 tb ((Int.toNat (n))*7+7)))⟩]))))∧
 (((getI tb ((Int.toNat (n))*7+1):Int)==n)=false→
 R (.nilp) ([some ⟨1,tb⟩]++rows13 sl)))∧
 (decide ((n:Int)≤12)=false→
 R (.nilp) ([some ⟨1,tb⟩]++rows13 sl)))∧
 (decide ((n:Int)≥1)=false→
 R (.nilp) ([some ⟨1,tb⟩]++rows13 sl)))∧
 (getB tb (0)=false→
 R (.nilp) ([some ⟨1,tb⟩]++rows13 sl))):=by kernel_rfl
theorem hT (G:Nat→List AV) (s:Ptb):vHp G (hp3 [some ⟨1,.var 1 (encT 1 s)⟩] (.var 2 (setsL encP s)) [])=can tsP s:=hp_can (t:=tsP) (s:=s)
theorem isP_tree (b:Nat) {s:Ptb} {n:Int} {A B:Prop} (h1:isP s n=true→A) (h2:isP s n=false→B) :
  (decide (n≥1)=true→(decide (n≤12)=true→decide ((0:Int)≤n)=true∧decide ((n:Int)<13)=true∧isI .i64 (encT b s) (n.toNat*7+1)=true∧((getI (encT b s) (n.toNat*7+1)==n)=true→A)∧((getI (encT b s) (n.toNat*7+1)==n)=false→B))∧(decide (n≤12)=false→B))∧(decide (n≥1)=false→B):=by
 have ff:¬(1≤n∧n≤12∧(s.at_ n.toNat).num=n)→isP s n=false:=fun h=>by
  cases e:isP s n with
  | false=>rfl
  | true=>exact absurd (isP_iff.1 e) h
 refine ⟨fun a1=>⟨fun a2=>?_,fun a2=>h2 (ff fun h=>?_)⟩,fun a1=>h2 (ff fun h=>?_)⟩
 ·have a1:=of_decide_eq_true a1
  have a2:=of_decide_eq_true a2
  have t:=T_num (b:=b) (s:=s) (n:=n.toNat) (by omega)
  refine ⟨decide_eq_true (by omega),decide_eq_true (by omega),t.1,fun h=>h1 (isP_iff.2 ⟨by omega,a2,?_⟩),fun h=>h2 (ff fun h'=>?_)⟩
  ·rw [t.2] at h;exact eq_of_beq h
  ·rw [t.2,h'.2.2,beq_self_eq_true] at h;cases h
 ·have:=of_decide_eq_false a2;omega
 ·have:=of_decide_eq_false a1;omega
theorem live_tree (b:Nat) {s:Ptb} {n:Int} {A B:Prop} (h1:live s n=true→A) (h2:live s n=false→B) :
  (decide (n≥1)=true→(decide (n≤12)=true→decide ((0:Int)≤n)=true∧decide ((n:Int)<13)=true∧isI .i64 (encT b s) (n.toNat*7+1)=true∧
   ((getI (encT b s) (n.toNat*7+1)==n)=true→decide ((0:Int)≤n)=true∧decide ((n:Int)<13)=true∧isB (encT b s) (n.toNat*7+5)=true∧(getB (encT b s) (n.toNat*7+5)=true→B)∧(getB (encT b s) (n.toNat*7+5)=false→A))∧
   ((getI (encT b s) (n.toNat*7+1)==n)=false→B))∧(decide (n≤12)=false→B))∧(decide (n≥1)=false→B):=by
 refine isP_tree b (fun h=>?_) fun h=>h2 (by unfold live;rw [h];rfl)
 obtain ⟨a1,a2,a3⟩:=isP_iff.1 h
 have t:=T_en (b:=b) (s:=s) (n:=n.toNat) (by omega)
 refine ⟨decide_eq_true (by omega),decide_eq_true (by omega),t.1,fun h'=>h2 ?_,fun h'=>h1 ?_⟩
 ·rw [t.2] at h';unfold live;rw [h,h'];rfl
 ·rw [t.2] at h';unfold live;rw [h,h'];rfl
theorem dgM {G:Nat→List AV} {B:Nat} {fn:Func} {sums:List (Nat×DSum)} (h:loopsOf (bodyOf fn)=[]) (hs:DSumsOk (⟨Try.prog,G,B⟩:Ctx) sums):DGood (⟨Try.prog,G,B⟩:Ctx) (Df Try.prog [(48,1,13)] [36,38,39,20] sums [] 0) (loopsOf (bodyOf fn)):=by
 rw [h];exact dgoodf (mix G B) (by kernel_rfl) hs .nil
theorem m_stay (G : Nat → List AV) (B : Nat) {f : FuncId} {fn : Func} {sums : List (Nat × DSum)} {s s' : Ptb} {rest : List EV} {v : AV} (hl : loopsOf (bodyOf fn) = []) (hs : DSumsOk (⟨Try.prog, G, B⟩ : Ctx) sums) (hf : Try.prog.funcs[f]? = some fn) (hb : fn.body = some (bodyOf fn)) (hn : (fn.name == "runtime.NumGoroutine") = false) (hv : bnd 0 v = true)
  (h:vT G (fun _ _ _=>False) (fun v' H'=>v'=v∧Seen tsP s' 13 H') (dcall (Df Try.prog [(48,1,13)] [36,38,39,20] sums [] 0) 300 20 fn (.ptr (.rw 0) (.lit 0)::rest) (hp3 [some ⟨1,.var 1 (encT 1 s)⟩] (.var 2 (setsL encP s)) []) 14)) :
  ACalls (⟨Try.prog,G,B⟩:Ctx) f (.ptr (.rw 0) 0::vVs G rest) (can tsP s) fun v' H'=>v'=v∧H'=can tsP s':=by
 have:=dcall_ok (C:=(⟨Try.prog,G,B⟩:Ctx)) (f:=f) (R:=fun v' H'=>v'=v∧Seen tsP s' 13 H') (dgM (B:=B) hl hs) hf hb hn h
 rw [hT] at this
 exact pm_stay tsP_ok this hv
theorem seen_same {s:Ptb}:Seen tsP s 13 (some ⟨1,encT 1 s⟩::(List.range 13).map fun n=>some ⟨1,rowA (setsL encP s) n⟩):=seen_rows (t:=tsP) rfl tsP_ok (sets_same (t:=tsP) (s:=s) fun _ _ h=>h)
theorem seen_updC {s:Ptb} {c:Nat} {x:Pc} {l:List AV} (h:l=encT 1 (updC s c x)):Seen tsP (updC s c x) 13 (some ⟨1,l⟩::(List.range 13).map fun n=>some ⟨1,rowA (setsL encP s) n⟩):=seen_rows (t:=tsP) h tsP_ok (sets_same (t:=tsP) (s:=s) fun _ _ h=>h)
theorem seen_updS {s:Ptb} {c:Nat} {q p:Sg} {l:List AV} (hp:s.sg c=some p) (hl:l=encP q):Seen tsP (updS s c (some q)) 13 (some ⟨1,encT 1 s⟩::(List.range 13).map fun n=>some ⟨1,rowA (putA (setsL encP s) c l) n⟩):=by
 subst hl
 refine seen_rows (t:=tsP) ?_ tsP_ok (sets_put (t:=tsP))
 show encV (ptrs 1 s) s=encV (ptrs 1 (updS s c (some q))) s
 rw [ptrs_updS hp]
theorem p_group (G:Nat→List AV) (B:Nat) {s:Ptb} (n a:Int):ACalls (⟨Try.prog,G,B⟩:Ctx) 28 [.ptr (.rw 0) 0,.int .i64 n,.int .i64 a] (can tsP s) fun v H'=>v=.int .i64 (groupE s n a)∧H'=can tsP (groupX s n a):=by
 refine m_stay G B (fn:=Try.f28) (rest:=[.int .i64 (.var 3 n),.int .i64 (.var 4 a)]) (by kernel_rfl) .nil (by kernel_rfl) (by kernel_rfl) (by kernel_rfl) rfl ?_
 rw [q28]
 refine ⟨rfl,fun _=>⟨rfl,rfl,live_tree 1 (fun hl=>?_) fun hl=>?_⟩,fun h=>by cases h⟩
 ·have h:=live_iff.1 hl
  refine ⟨fun h1=>?_,fun h1=>⟨fun h2=>?_,fun h2=>⟨decide_eq_true (by omega),decide_eq_true (by omega),leB_iff.2 (by rw [encT_len];omega),?_⟩⟩⟩
  ·have h1:=of_decide_eq_true h1
   unfold groupE groupX
   rw [if_pos hl,if_pos hl,if_pos (by omega),if_pos (by omega)];exact ⟨rfl,seen_same⟩
  ·have h2:=of_decide_eq_true h2
   unfold groupE groupX
   rw [if_pos hl,if_pos hl,if_pos (by omega),if_pos (by omega)];exact ⟨rfl,seen_same⟩
  ·have h1:=of_decide_eq_false h1
   have h2:=of_decide_eq_false h2
   unfold groupE groupX
   rw [if_pos hl,if_pos hl,if_neg (by omega),if_neg (by omega)]
   exact ⟨rfl,seen_updC (T_set (k:=2) (by omega) (by intro l h;cases h) (fun j hj=>by
    match j,hj with
    | 0,_ | 1,_ | 2,_ | 3,_ | 4,_ | 5,_ | 6,_=>rfl))⟩
 ·unfold groupE groupX
  rw [hl];exact ⟨rfl,seen_same⟩
theorem fam_facts {s:Ptb} {n:Nat} {p:Sg} (hn:n<13) (hp:s.sg n=some p):isNilA (encT 1 s) (n*7+7)=false∧isPA 1 13 (encT 1 s) (n*7+7)=true∧fkA 1 (encT 1 s) (n*7+7)=n∧foA (encT 1 s) (n*7+7)=0∧rowA (setsL encP s) n=encP p:=by
 have h:=T_ptr (b:=1) (s:=s) hn
 have e:=ptr_fam hn h (by rw [hp];rfl)
 exact ⟨by rw [ptr_nil h,hp];rfl,e.1,e.2.1,e.2.2,by rw [rowA_sets hn,hp];rfl⟩
theorem u16_in {a:Int}:(a==IntKind.wrap .i64 (IntKind.wrap .u16 a))=decide (0≤a∧a≤65535):=by
 have e:IntKind.wrap .u16 a=a % 65536:=rfl
 rw [e,i64_in (by omega),Bool.eq_iff_iff,beq_iff_eq,decide_eq_true_iff]
 omega
theorem p_user (G:Nat→List AV) (B:Nat) {s:Ptb} (n a:Int):ACalls (⟨Try.prog,G,B⟩:Ctx) 32 [.ptr (.rw 0) 0,.int .i64 n,.int .i64 a] (can tsP s) fun v H'=>v=.int .i64 (userE s n a)∧H'=can tsP (userX s n a):=by
 refine m_stay G B (fn:=Try.f32) (rest:=[.int .i64 (.var 3 n),.int .i64 (.var 4 a)]) (by kernel_rfl) .nil (by kernel_rfl) (by kernel_rfl) (by kernel_rfl) rfl ?_
 rw [q32,u16_in]
 refine ⟨rfl,fun _=>⟨rfl,rfl,live_tree 1 (fun hl=>?_) fun hl=>?_⟩,fun h=>by cases h⟩
 ·have h:=live_iff.1 hl
  have t:=T_usr (b:=1) (s:=s) (n:=n.toNat) (by omega)
  refine ⟨fun h1=>⟨decide_eq_true (by omega),decide_eq_true (by omega),t.1,fun h2=>⟨decide_eq_true (by omega),decide_eq_true (by omega),leB_iff.2 (by rw [encT_len];omega),?_⟩,fun h2=>?_⟩,fun h1=>?_⟩
  ·have h1:=of_decide_eq_true h1
   rw [t.2] at h2
   have h2:=eq_of_beq h2
   unfold userE userX
   have hr:¬(a<0∨65535<a):=by omega
   rw [if_pos hl,if_pos hl,if_neg hr,if_neg hr,if_pos h2,if_pos h2]
   exact ⟨rfl,seen_updC (T_set (k:=3) (by omega) (by intro l h;cases h) (fun j hj=>by
    match j,hj with
    | 0,_ | 1,_ | 2,_ | 3,_ | 4,_ | 5,_ | 6,_=>rfl))⟩
  ·have h1:=of_decide_eq_true h1
   rw [t.2] at h2
   have h2:¬(s.at_ n.toNat).usr=0:=fun e=>by rw [e] at h2;cases h2
   unfold userE userX
   have hr:¬(a<0∨65535<a):=by omega
   rw [if_pos hl,if_pos hl,if_neg hr,if_neg hr,if_neg h2,if_neg h2]
   exact ⟨rfl,seen_same⟩
  ·have h1:=of_decide_eq_false h1
   unfold userE userX
   rw [if_pos hl,if_pos hl,if_pos (by omega),if_pos (by omega)];exact ⟨rfl,seen_same⟩
 ·unfold userE userX
  rw [hl];exact ⟨rfl,seen_same⟩
theorem p_maskM (G:Nat→List AV) (B:Nat) {s:Ptb} (hw:Wf s) (n a:Int):ACalls (⟨Try.prog,G,B⟩:Ctx) 47 [.ptr (.rw 0) 0,.int .i64 n,.int .i64 a] (can tsP s) fun v H'=>v=.tup [.int .i64 (maskV s n),.int .i64 (askE s n)]∧H'=can tsP (maskX s n a):=by
 refine m_stay G B (fn:=Try.f47) (rest:=[.int .i64 (.var 3 n),.int .i64 (.var 4 a)]) (by kernel_rfl) (.cons (fMaskS_ok (sideP_ok G) (p_mask G B)) .nil) (by kernel_rfl) (by kernel_rfl) (by kernel_rfl) rfl ?_
 rw [q47]
 refine ⟨rfl,fun _=>⟨rfl,rfl,live_tree 1 (fun hl=>?_) fun hl=>?_⟩,fun h=>by cases h⟩
 ·have h:=live_iff.1 hl
  have hi:isP s n=true:=isP_iff.2 ⟨h.1,h.2.1,h.2.2.1⟩
  obtain ⟨p,hp⟩:=hw.live_sg hi
  obtain ⟨e1,e2,e3,e4,e5⟩:=fam_facts (by omega) hp
  have ed:sgD s n.toNat=p:=by unfold sgD;rw [hp];rfl
  refine ⟨decide_eq_true (by omega),decide_eq_true (by omega),(fun h=>by rw [e1] at h;cases h),fun _=>?_⟩
  rw [e3,e4,e5]
  refine ⟨e2,rfl,leB_iff.2 (by omega),rowsA_same _ 13,leB_iff.2 (by rw [setsL_len];omega),okU_enc p,?_⟩
  unfold maskV askE maskX
  rw [if_pos hl,if_pos hl,if_pos hl,ed,heldU_enc]
  exact ⟨rfl,seen_updS hp (maskU_enc p a)⟩
 ·unfold maskV askE maskX
  rw [hl];exact ⟨rfl,seen_same⟩
theorem p_handleM (G:Nat→List AV) (B:Nat) {s:Ptb} (hw:Wf s) (n a q:Int):ACalls (⟨Try.prog,G,B⟩:Ctx) 49 [.ptr (.rw 0) 0,.int .i64 n,.int .i64 a,.int .i64 q] (can tsP s) fun v H'=>v=.tup [.int .i64 (handV s n a q),.int .i64 (handE s n a q)]∧H'=can tsP (handX s n a q):=by
 refine m_stay G B (fn:=Try.f49) (rest:=[.int .i64 (.var 3 n),.int .i64 (.var 4 a),.int .i64 (.var 5 q)]) (by kernel_rfl) (.cons (fHandleS_ok (sideP_ok G) (p_handle G B)) .nil) (by kernel_rfl) (by kernel_rfl) (by kernel_rfl) rfl ?_
 rw [q49]
 refine ⟨rfl,fun _=>⟨rfl,rfl,live_tree 1 (fun hl=>?_) fun hl=>?_⟩,fun h=>by cases h⟩
 ·have h:=live_iff.1 hl
  have hi:isP s n=true:=isP_iff.2 ⟨h.1,h.2.1,h.2.2.1⟩
  obtain ⟨p,hp⟩:=hw.live_sg hi
  obtain ⟨e1,e2,e3,e4,e5⟩:=fam_facts (by omega) hp
  have ed:sgD s n.toNat=p:=by unfold sgD;rw [hp];rfl
  refine ⟨fun h1=>?_,fun h1=>⟨fun h2=>?_,fun h2=>⟨decide_eq_true (by omega),decide_eq_true (by omega),(fun h=>by rw [e1] at h;cases h),fun _=>?_⟩⟩⟩
  ·have h1:=of_decide_eq_true h1
   unfold handV handE handX
   rw [if_pos hl,if_pos hl,if_pos hl,if_pos (by omega),if_pos (by omega),if_pos (by omega)];exact ⟨rfl,seen_same⟩
  ·have h2:=of_decide_eq_true h2
   unfold handV handE handX
   rw [if_pos hl,if_pos hl,if_pos hl,if_pos (by omega),if_pos (by omega),if_pos (by omega)];exact ⟨rfl,seen_same⟩
  ·have h1:=of_decide_eq_false h1
   have h2:=of_decide_eq_false h2
   rw [e3,e4,e5]
   refine ⟨e2,rfl,leB_iff.2 (by omega),rowsA_same _ 13,leB_iff.2 (by rw [setsL_len];omega),okU_enc p,?_⟩
   unfold handV handE handX
   have hr:¬(a<0∨15<a):=by omega
   rw [if_pos hl,if_pos hl,if_pos hl,if_neg hr,if_neg hr,if_neg hr,ed]
   refine ⟨?_,seen_updS hp (by simp only [handleXU,decP_enc])⟩
   simp only [handleVU,handleEU,decP_enc]
 ·unfold handV handE handX
  rw [hl];exact ⟨rfl,seen_same⟩
theorem p_tell (G:Nat→List AV) (B:Nat) {s:Ptb} (n:Int):ACalls (⟨Try.prog,G,B⟩:Ctx) 16 [.ptr (.rw 0) 0,.int .i64 n] (can tsP s) fun v H'=>v=.tup [.agg (rowU (tellX s n)),.bool (isP s n)]∧H'=can tsP s:=by
 refine m_stay G B (fn:=Try.f16) (rest:=[.int .i64 (.var 3 n)]) (by kernel_rfl) .nil (by kernel_rfl) (by kernel_rfl) (by kernel_rfl) rfl ?_
 rw [q16]
 refine ⟨rfl,fun _=>isP_tree 1 (fun hl=>?_) fun hl=>?_,fun h=>by cases h⟩
 ·have h:=isP_iff.1 hl
  have e:subL (encT 1 s) (n.toNat*7+1) 6=rowU (s.at_ n.toNat):=by
   have r:=T_row (b:=1) (s:=s) (n:=n.toNat) (by omega)
   have:subL (encT 1 s) (n.toNat*7+1) 6=(subL (encT 1 s) (n.toNat*7+1) 7).take 6:=by unfold subL;rw [List.take_take];rfl
   rw [this,r];rfl
  rw [e]
  refine ⟨decide_eq_true (by omega),decide_eq_true (by omega),leB_iff.2 (by rw [encT_len];omega),rfl,rfl,rfl,?_⟩
  unfold tellX
  rw [if_pos hl,hl]
  exact ⟨rfl,seen_same⟩
 ·unfold tellX
  rw [hl];exact ⟨rfl,seen_same⟩
theorem p_lives (G:Nat→List AV) (B:Nat) {s:Ptb} (n:Int):ACalls (⟨Try.prog,G,B⟩:Ctx) 20 [.ptr (.rw 0) 0,.int .i64 n] (can tsP s) fun v H'=>v=.bool (live s n)∧H'=can tsP s:=by
 refine m_stay G B (fn:=Try.f20) (rest:=[.int .i64 (.var 3 n)]) (by kernel_rfl) .nil (by kernel_rfl) (by kernel_rfl) (by kernel_rfl) rfl ?_
 rw [q20]
 refine ⟨rfl,fun _=>isP_tree 1 (fun hl=>?_) fun hl=>?_,fun h=>by cases h⟩
 ·have h:=isP_iff.1 hl
  have t:=T_en (b:=1) (s:=s) (n:=n.toNat) (by omega)
  refine ⟨decide_eq_true (by omega),decide_eq_true (by omega),t.1,?_⟩
  rw [t.2]
  unfold live
  rw [hl]
  exact ⟨rfl,seen_same⟩
 ·unfold live
  rw [hl];exact ⟨rfl,seen_same⟩
end Go.Am
