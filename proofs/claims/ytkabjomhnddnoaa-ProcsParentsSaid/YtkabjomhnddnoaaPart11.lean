/-
  The program's sets: what its calls without loops do. The program's sets: Take and Pending.
-/
import Derived.Test.YtkabjomhnddnoaaBase6
import Derived.Test.YtkabjomhnddnoaaProg
import Derived.Test.YtkabjomhnddnoaaBase5
namespace Go.Am
open Go.Proofs Crc
set_option maxRecDepth 100000
theorem mix (G:Nat→List AV) (B:Nat):((⟨Try.prog,G,B⟩:Ctx)).P.follows .mixedOrders=true:=by kernel_rfl
theorem dg (G:Nat→List AV) (B:Nat):DGood (⟨Try.prog,G,B⟩:Ctx) (Dc Try.prog [55,56] [] [] 0) []:=dgood (mix G B) (by kernel_rfl) .nil .nil
theorem t11 (G:Nat→List AV) (cs:List AV) (n:Int) (Q:Ex→List AV→Hp→Prop) (R:AV→Hp→Prop):vT G Q R (dcall (Dc Try.prog [55,56] [] [] 0) 200 10 Try.f23 [.ptr (.rw 0) (.lit 0),.int .i64 (.var 2 n)] [some ⟨1,.var 1 cs⟩] 1)=(
  isB cs (0)=true∧
 (getB cs (0)=true→
 (decide ((n:Int)<0)=true→
 R (.int .i64 (2)) [some ⟨1,cs⟩])∧
 (decide ((n:Int)<0)=false→
 (decide ((n:Int)>15)=true→
 R (.int .i64 (2)) [some ⟨1,cs⟩])∧
 (decide ((n:Int)>15)=false→
 isI .u32 cs (1)=true∧
 decide ((0:Int)≤n)=true∧
 leB (2) (List.length cs)=true∧
 R (.int .i64 (0)) [some ⟨1,(setPart cs (1) (.int .u32 (kOr .u32 (getI cs (1)) (kAnd .u32 (kShl .u32 (1) (n)) (65534)))))⟩])))∧
 (getB cs (0)=false→
 R (.int .i64 (1)) [some ⟨1,cs⟩])):=by kernel_rfl
theorem t12 (G:Nat→List AV) (cs:List AV) (n:Int) (Q:Ex→List AV→Hp→Prop) (R:AV→Hp→Prop):vT G Q R (dcall (Dc Try.prog [55,56] [] [] 0) 200 10 Try.f64 [.ptr (.rw 0) (.lit 0),.int .i64 (.var 2 n)] [some ⟨1,.var 1 cs⟩] 1)=(
  isB cs (0)=true∧
 (getB cs (0)=true→
 isI .u32 cs (2)=true∧
 leB (3) (List.length cs)=true∧
 R (.tup [.int .i64 (IntKind.wrap .i64 (getI cs (2))),.int .i64 (0)]) [some ⟨1,(setPart cs (2) (.int .u32 (kAnd .u32 (IntKind.wrap .u32 (n)) (65532))))⟩])∧
 (getB cs (0)=false→
 R (.tup [.int .i64 (0),.int .i64 (1)]) [some ⟨1,cs⟩])):=by kernel_rfl
theorem t10 (G:Nat→List AV) (cs:List AV) (n a:Int) (Q:Ex→List AV→Hp→Prop) (R:AV→Hp→Prop):vT G Q R (dcall (Dc Try.prog [55,56] [] [] 0) 200 10 Try.f73 [.ptr (.rw 0) (.lit 0),.int .i64 (.var 2 n),.int .i64 (.var 3 a)] [some ⟨1,.var 1 cs⟩] 1)=(
  isB cs (0)=true∧
 (getB cs (0)=true→
 (decide ((n:Int)<2)=true→
 R (.tup [.int .i64 (0),.int .i64 (2)]) [some ⟨1,cs⟩])∧
 (decide ((n:Int)<2)=false→
 (decide ((n:Int)>15)=true→
 R (.tup [.int .i64 (0),.int .i64 (2)]) [some ⟨1,cs⟩])∧
 (decide ((n:Int)>15)=false→
 (((a:Int)==IntKind.wrap .i64 (IntKind.wrap .u32 (a)))=true→
 decide ((0:Int)≤n)=true∧
 decide ((n:Int)<16)=true∧
 isI .u32 cs (Int.toNat (n)+3)=true∧
 decide ((0:Int)≤n)=true∧
 decide ((n:Int)<16)=true∧
 leB (Int.toNat (n)+4) (List.length cs)=true∧
 R (.tup [.int .i64 (IntKind.wrap .i64 (getI cs (Int.toNat (n)+3))),.int .i64 (0)]) [some ⟨1,(setPart cs (Int.toNat (n)+3) (.int .u32 (IntKind.wrap .u32 (a))))⟩])∧
 (((a:Int)==IntKind.wrap .i64 (IntKind.wrap .u32 (a)))=false→
 R (.tup [.int .i64 (0),.int .i64 (2)]) [some ⟨1,cs⟩]))))∧
 (getB cs (0)=false→
 R (.tup [.int .i64 (0),.int .i64 (1)]) [some ⟨1,cs⟩])):=by kernel_rfl
theorem t17 (G:Nat→List AV) (cs:List AV) (Q:Ex→List AV→Hp→Prop) (R:AV→Hp→Prop):vT G Q R (dcall (Dc Try.prog [55,56] [] [] 0) 200 10 Try.f37 [.ptr (.rw 0) (.lit 0)] [some ⟨1,.var 1 cs⟩] 2)=(
  isB cs (0)=true∧
 (getB cs (0)=true→
 leB (19) (List.length cs)=true∧
 cellsB (subL cs (0) (19))=true∧
 Nat.beq (List.length (subL cs (0) (19))) (19)=true∧
 R (.ptr (.rw 1) (0)) [some ⟨1,cs⟩,some ⟨1,(subL cs (0) (19))⟩])∧
 (getB cs (0)=false→
 R (.nilp) [some ⟨1,cs⟩])):=by kernel_rfl
theorem t38 (G:Nat→List AV) (cs:List AV) (Q:Ex→List AV→Hp→Prop) (R:AV→Hp→Prop):vT G Q R (dcall (Dc Try.prog [55,56,37] [] [] 0) 200 10 Try.f58 [.ptr (.rw 0) (.lit 0)] [some ⟨1,.var 1 cs⟩] 2)=(
  isB cs (0)=true∧
 (getB cs (0)=true→
 leB (19) (List.length cs)=true∧
 cellsB (subL cs (0) (19))=true∧
 Nat.beq (List.length (subL cs (0) (19))) (19)=true∧
 leB (2) (List.length (subL cs (0) (19)))=true∧
 R (.ptr (.rw 1) (0)) [some ⟨1,cs⟩,some ⟨1,(setPart (subL cs (0) (19)) (1) (.int .u32 (0)))⟩])∧
 (getB cs (0)=false→
 R (.nilp) [some ⟨1,cs⟩])):=by kernel_rfl
theorem leB_enc (p:Sg) (k:Nat) (h:k≤19):leB k (encP p).length=true:=leB_iff.2 (by rw [encP_length];exact h)
theorem outB_dec {n lo hi:Int} (h1:decide (n<lo)=false) (h2:decide (n>hi)=false):outB n lo hi=false:=by
 have:=of_decide_eq_false h1
 have:=of_decide_eq_false h2
 exact outB_false (by omega) (by omega)
theorem outB_lo {n lo hi:Int} (h1:decide (n<lo)=true):outB n lo hi=true:=outB_true (.inl (of_decide_eq_true h1))
theorem outB_hi {n lo hi:Int} (h1:decide (n>hi)=true):outB n lo hi=true:=outB_true (.inr (of_decide_eq_true h1))
theorem send_w (p:Sg) (n:Int) (h1:0≤n) (h2:n≤15):(encP p).set 1 (.int .u32 (kOr .u32 (u p.wt) (kAnd .u32 (kShl .u32 1 n) 65534)))=encP (send p n):=by
 have en:n=(n.toNat:Int):=by omega
 have e:kOr .u32 (u p.wt) (kAnd .u32 (kShl .u32 1 n) 65534)=u ((p.wt ||| bitN n.toNat) &&& 65534#32):=by
  rw [en,kShl1 (by omega),kAnd_w,kOr_w,w32_u,w32_u,w32_u]
  congr 1
  rw [Int.toNat_natCast]
  have:w32 65534=65534#32:=rfl
  rw [this]
  conv=>lhs;rw [←p.hw]
  rw [BitVec.and_comm p.wt,BitVec.and_comm (bitN n.toNat)]
  rw [BitVec.and_comm (p.wt ||| bitN n.toNat)]
  rw [BitVec.and_or_distrib_left]
 rw [e];rfl
theorem p_send (G:Nat→List AV) (B:Nat):SendOk (⟨Try.prog,G,B⟩:Ctx) 23 encP:=by
 intro p n
 refine Meth.of (C:=(⟨Try.prog,G,B⟩:Ctx)) (rest:=[.int .i64 (.var 2 n)]) (dg G B) (by kernel_rfl) (by kernel_rfl) (by kernel_rfl) (fuel:=200) (n0:=10) (fn:=Try.f23) ?_
 rw [t11]
 refine ⟨rfl,fun _=>⟨fun h=>?_,fun h=>⟨fun h'=>?_,fun h'=>⟨rfl,?_,leB_enc p _ (by omega),?_⟩⟩⟩,fun h=>by cases h⟩
 ·rw [outB_lo h];exact ⟨rfl,rfl⟩
 ·rw [outB_hi h'];exact ⟨rfl,rfl⟩
 ·exact decide_eq_true (by have:=of_decide_eq_false h;omega)
 ·rw [outB_dec h h']
  refine ⟨rfl,?_⟩
  have:=of_decide_eq_false h
  have:=of_decide_eq_false h'
  simp only [Bool.false_eq_true,if_false,←send_w p n (by omega) (by omega)]
  rfl
theorem p_mask (G:Nat→List AV) (B:Nat):MaskOk (⟨Try.prog,G,B⟩:Ctx) 64 encP:=by
 intro p n
 refine Meth.of (C:=(⟨Try.prog,G,B⟩:Ctx)) (rest:=[.int .i64 (.var 2 n)]) (dg G B) (by kernel_rfl) (by kernel_rfl) (by kernel_rfl) (fuel:=200) (n0:=10) (fn:=Try.f64) ?_
 rw [t12]
 refine ⟨rfl,fun _=>⟨rfl,leB_enc p _ (by omega),?_,?_⟩,fun h=>by cases h⟩
 ·have:IntKind.wrap .i64 (u p.hd)=u p.hd:=i64_in (by have:=u_range p.hd;omega)
  rw [encP_2,this]
 ·have e:kAnd .u32 (IntKind.wrap .u32 n) 65532=u (w32 n &&& 65532#32):=by rw [kAnd_w,w32_wrap];rfl
  rw [e];rfl
theorem u32_back {a:Int}:(a==IntKind.wrap .i64 (IntKind.wrap .u32 a))=!(outB a 0 4294967295):=by
 rw [IntKind.wrap_u32,i64_in (by omega)]
 by_cases h:a<0∨4294967295<a
 ·rw [outB_true h];simp;omega
 ·rw [outB_false (by omega) (by omega)];simp;omega
theorem handle_w (p:Sg) (n a:Int) (h1:2≤n) (h2:n≤15):(encP p).set (n.toNat+3) (.int .u32 (IntKind.wrap .u32 a))=encP (handle p n a):=by
 rw [wrap_w32]
 show (AV.bool true::.int .u32 (u p.wt)::.int .u32 (u p.hd)::at16 p.at_).set (n.toNat+3) _=_
 simp only [List.set_cons_succ]
 show _=AV.bool true::.int .u32 (u p.wt)::.int .u32 (u p.hd)::at16 (updA p.at_ n.toNat (w32 a))
 congr 3
 apply List.ext_getElem?
 intro j
 rw [List.getElem?_set,at16_length]
 by_cases hj:j<16
 ·rw [at16_get _ hj,at16_get _ hj]
  unfold updA
  by_cases he:n.toNat=j
  ·subst he
   rw [if_pos rfl,if_pos (by omega),if_pos rfl,if_neg (by omega)]
  ·rw [if_neg he,if_neg (fun h=>he h.symm)]
 ·rw [List.getElem?_eq_none (by rw [at16_length];omega),List.getElem?_eq_none (by rw [at16_length];omega)]
  rw [if_neg (by omega)]
theorem p_handle (G:Nat→List AV) (B:Nat):HandleOk (⟨Try.prog,G,B⟩:Ctx) 73 encP:=by
 intro p n a
 refine Meth.of (C:=(⟨Try.prog,G,B⟩:Ctx)) (rest:=[.int .i64 (.var 2 n),.int .i64 (.var 3 a)]) (dg G B) (by kernel_rfl) (by kernel_rfl) (by kernel_rfl) (fuel:=200) (n0:=10) (fn:=Try.f73) ?_
 rw [t10,u32_back]
 refine ⟨rfl,fun _=>⟨fun h=>?_,fun h=>⟨fun h'=>?_,fun h'=>⟨fun h3=>?_,fun h3=>?_⟩⟩⟩,fun h=>by cases h⟩
 ·rw [outB_lo h];exact ⟨rfl,rfl⟩
 ·rw [outB_hi h'];exact ⟨rfl,rfl⟩
 ·have g1:=of_decide_eq_false h
  have g2:=of_decide_eq_false h'
  have h3:outB a 0 4294967295=false:=by simpa using h3
  refine ⟨decide_eq_true (by omega),decide_eq_true (by omega),encP_isI p (by omega),decide_eq_true (by omega),decide_eq_true (by omega),leB_enc p _ (by omega),?_⟩
  rw [outB_dec h h',h3]
  have:IntKind.wrap .i64 (u (p.at_ n.toNat))=u (p.at_ n.toNat):=i64_in (by have:=u_range (p.at_ n.toNat);omega)
  rw [encP_getI p (by omega),this]
  refine ⟨rfl,?_⟩
  simp only [Bool.or_self,Bool.false_eq_true,if_false,←handle_w p n a (by omega) (by omega)]
  rfl
 ·have h3:outB a 0 4294967295=true:=by simpa using h3
  rw [h3,Bool.or_true];exact ⟨rfl,rfl⟩
theorem subL_enc (p:Sg):subL (encP p) 0 19=encP p:=by
 unfold subL;rw [List.drop_zero,List.take_of_length_le (by rw [encP_length];omega)]
theorem p_copy (G:Nat→List AV) (B:Nat):NewOk (⟨Try.prog,G,B⟩:Ctx) 37 encP (fun _=>.ptr (.rw 1) 0) encP:=by
 intro p
 refine New.of (C:=(⟨Try.prog,G,B⟩:Ctx)) (dg G B) (by kernel_rfl) (by kernel_rfl) (by kernel_rfl) (encP_flat _ _) (encP_flat _ _) (by simp [bnd]) (by simp) (fuel:=200) (n0:=10) (fn:=Try.f37) ?_
 rw [t17]
 rw [subL_enc]
 exact ⟨rfl,fun _=>⟨leB_enc p _ (by omega),encP_cells p,by rw [encP_length];rfl,rfl,rfl⟩,fun h=>by cases h⟩
theorem p_child (G:Nat→List AV) (B:Nat):NewOk (⟨Try.prog,G,B⟩:Ctx) 58 encP (fun _=>.ptr (.rw 1) 0) (fun p=>encP (setW p 0#32)):=by
 intro p
 refine New.of (C:=(⟨Try.prog,G,B⟩:Ctx)) (dgood (inl:=[55,56,37]) (sums:=[]) (ls:=[]) (M:=0) (mix G B) (by kernel_rfl) .nil .nil) (by kernel_rfl) (by kernel_rfl) (by kernel_rfl) (encP_flat _ _) (encP_flat _ _) (by simp [bnd]) (by simp) (fuel:=200) (n0:=10) (fn:=Try.f58) ?_
 rw [t38]
 rw [subL_enc]
 exact ⟨rfl,fun _=>⟨leB_enc p _ (by omega),encP_cells p,by rw [encP_length];rfl,leB_enc p _ (by omega),rfl,rfl⟩,fun h=>by cases h⟩
end Go.Am
namespace Go.Am
open Go.Proofs Crc
set_option maxRecDepth 100000
theorem tk_body (G:Nat→List AV) (cs r:List AV) (i:Int) (Q:Ex→List AV→Hp→Prop) (R:AV→Hp→Prop):vT G Q R (dloop (Dc Try.prog [55,56] [] [] 0) 200 10 1 (loopN Try.f66 0) 63 [0,2,4,5] [.ptr (.rw 0) (.lit 0),.ptr (.rw 1) (.lit 0),.int .i64 (.lit 0),.int .i64 (.var 2 i)] [some ⟨1,.var 1 cs⟩,some ⟨1,.var 3 r⟩])=(
  (decide ((i:Int)≤15)=true→
 isI .u32 cs (1)=true∧
 isI .u32 cs (2)=true∧
 decide ((0:Int)≤i)=true∧
 (((kAnd .u32 (kShr .u32 (kAndNot .u32 (getI cs (1)) (getI cs (2))) (i)) (1):Int)==1)=true→
 Q (.exit 0) [.ptr (.rw 0) (0),.ptr (.rw 1) (0),.int .i64 (i),.int .i64 (i)] [some ⟨1,cs⟩,some ⟨1,r⟩])∧
 (((kAnd .u32 (kShr .u32 (kAndNot .u32 (getI cs (1)) (getI cs (2))) (i)) (1):Int)==1)=false→
 Q .normal [.ptr (.rw 0) (0),.ptr (.rw 1) (0),.int .i64 (0),.int .i64 (IntKind.wrap .i64 (i+1))] [some ⟨1,cs⟩,some ⟨1,r⟩]))∧
 (decide ((i:Int)≤15)=false→
 Q (.exit 0) [.ptr (.rw 0) (0),.ptr (.rw 1) (0),.int .i64 (0),.int .i64 (i)] [some ⟨1,cs⟩,some ⟨1,r⟩])):=by kernel_rfl
theorem pn_body1 (G:Nat→List AV) (cs ds:List AV) (i:Int) (n:Nat) (Q:Ex→List AV→Hp→Prop) (R:AV→Hp→Prop):vT G Q R (dloop (Dc Try.prog [55,56,57] [] [] 0) 200 10 1 (loopN Try.f25 0) 27 [0,3,4,5] [.ptr (.rw 0) (.lit 0),.ptr (.rw 1) (.lit 0),.func 57 [.ptr (.rw 1) (.lit 0)],.int .i64 (.var 2 i)] [some ⟨1,.var 1 cs⟩,some ⟨1,.of [.slice true (.rw 2) (.lit 0) (.var 4 n)]⟩,some ⟨1,.var 3 ds⟩])=(
  isB cs (0)=true∧
 (getB cs (0)=true→
 (decide ((i:Int)≤15)=true→
 isI .u32 cs (1)=true∧
 decide ((0:Int)≤i)=true∧
 (((kAnd .u32 (kShr .u32 (getI cs (1)) (i)) (1):Int)==1)=true→
 leB ((n+1)*8) (140737488355328)=true∧
 Nat.beq (List.length ds) (n)=true∧
 Q .normal [.ptr (.rw 0) (0),.ptr (.rw 1) (0),.func 57 [.ptr (.rw 1) (0)],.int .i64 (IntKind.wrap .i64 (i+1))] [some ⟨1,cs⟩,some ⟨1,([.slice true (.rw 4) (0) (n+1)]:List AV)⟩,none,some ⟨1,([.int .i64 (i)]:List AV)⟩,some ⟨1,(ds++([.int .i64 (i)]:List AV))⟩])∧
 (((kAnd .u32 (kShr .u32 (getI cs (1)) (i)) (1):Int)==1)=false→
 Q .normal [.ptr (.rw 0) (0),.ptr (.rw 1) (0),.func 57 [.ptr (.rw 1) (0)],.int .i64 (IntKind.wrap .i64 (i+1))] [some ⟨1,cs⟩,some ⟨1,([.slice true (.rw 2) (0) (n)]:List AV)⟩,some ⟨1,ds⟩]))∧
 (decide ((i:Int)≤15)=false→
 Q (.exit 0) [.ptr (.rw 0) (0),.ptr (.rw 1) (0),.func 57 [.ptr (.rw 1) (0)],.int .i64 (i)] [some ⟨1,cs⟩,some ⟨1,([.slice true (.rw 2) (0) (n)]:List AV)⟩,some ⟨1,ds⟩]))∧
 (getB cs (0)=false→
 Q (.exit 0) [.ptr (.rw 0) (0),.ptr (.rw 1) (0),.func 57 [.ptr (.rw 1) (0)],.int .i64 (i)] [some ⟨1,cs⟩,some ⟨1,([.slice true (.rw 2) (0) (n)]:List AV)⟩,some ⟨1,ds⟩])):=by kernel_rfl
theorem bit_eq (x:Wd) (i:Nat) (h:i<32):((kAnd .u32 (kShr .u32 (u x) (i:Int)) 1:Int)==1)=x.getLsbD i:=by
 rw [bit_sel x i h];cases x.getLsbD i<;>rfl
def tkNU:List AV→Int:=onP 0 fun p=>tkN p
theorem tk_loop (G:Nat→List AV) (B:Nat) (p:Sg) (r:List AV):AWp (⟨Try.prog,G,B⟩:Ctx) 1 (.loop (loopN Try.f66 0)) (fl 63 [0,2,4,5] [.ptr (.rw 0) 0,.ptr (.rw 1) 0,.int .i64 0,.int .i64 1]) [some ⟨1,encP p⟩,some ⟨1,r⟩]
  (lv 63 [0,2,4,5] fun e vs H=>e=.exit 0∧wk [.ptr (.rw 0) 0,.ptr (.rw 1) 0,.int .i64 (tkN p),.undef] vs∧H=[some ⟨1,encP p⟩,some ⟨1,r⟩]):=by
 let x:Wd:=p.wt &&& ~~~ p.hd
 refine aloop_lv (fun j vs H=>∃ i:Nat,1≤i∧i≤16∧j=16 - i∧lowFrom x (16 - i) i=tkN p∧vs=[.ptr (.rw 0) 0,.ptr (.rw 1) 0,.int .i64 0,.int .i64 (i:Int)]∧H=[some ⟨1,encP p⟩,some ⟨1,r⟩]) 15
  ⟨1,by omega,by omega,rfl,rfl,rfl,rfl⟩ ?_
 rintro j vs H ⟨i,hi1,hi2,rfl,hlow,rfl,rfl⟩
 refine dloop_ok (C:=(⟨Try.prog,G,B⟩:Ctx)) (dg G B) (fuel:=200) (n0:=10) (m:=1) (c:=loopN Try.f66 0) (vs:=[.ptr (.rw 0) (.lit 0),.ptr (.rw 1) (.lit 0),.int .i64 (.lit 0),.int .i64 (.var 2 (i:Int))]) (H:=[some ⟨1,.var 1 (encP p)⟩,some ⟨1,.var 3 r⟩]) (by simp) ?_
 rw [tk_body]
 rw [encP_1,encP_2,kAndNot_w,w32_u,w32_u]
 refine ⟨fun h=>⟨rfl,rfl,decide_eq_true (by omega),fun hb=>?_,fun hb=>?_⟩,fun h=>?_⟩
 ·have h:=of_decide_eq_true h
  rw [bit_eq x i (by omega)] at hb
  have:16 - i=(15 - i)+1:=by omega
  rw [this,lowFrom_succ,hb,if_pos rfl] at hlow
  rw [←hlow]
  exact ⟨rfl,by simp [wk],rfl⟩
 ·have h:=of_decide_eq_true h
  rw [bit_eq x i (by omega)] at hb
  have:16 - i=(15 - i)+1:=by omega
  rw [this,lowFrom_succ,hb,if_neg (by simp)] at hlow
  refine ⟨16 - (i+1),by omega,.inl ⟨i+1,by omega,by omega,rfl,?_,by rw [i64_in (by omega)];rfl,rfl⟩⟩
  rw [show 16 - (i+1)=15 - i by omega];exact hlow
 ·have h:=of_decide_eq_false h
  have:i=16:=by omega
  subst this
  rw [←hlow]
  exact ⟨rfl,by simp [wk,lowFrom],rfl⟩
def tkL:DL:=⟨0,63,[0,2,4,5],fun vs H=>match vs,H with
 | [.ptr (.rw 0) (.lit 0),.ptr (.rw 1) (.lit 0),.int .i64 (.lit 0),.int .i64 (.lit 1)],[some ⟨1,l⟩,some ⟨1,r⟩]=>
  some (.chk (.uf 1001 okU [.agg l]) (.one (.exit 0) [.ptr (.rw 0) (.lit 0),.ptr (.rw 1) (.lit 0),.int .i64 (.uf 1030 tkNU [.agg l]),.undef] [some ⟨1,l⟩,some ⟨1,r⟩]))
 | _,_=>none⟩
theorem tkNU_enc (p:Sg):tkNU [.agg (encP p)]=tkN p:=by simp only [tkNU,onP,decP_enc]
theorem tkL_ok (G:Nat→List AV) (B:Nat):DLoopOk (⟨Try.prog,G,B⟩:Ctx) 1 (loopN Try.f66 0) tkL:=by
 refine .of fun vs H o ho n Q hQ=>?_
 simp only [tkL] at ho
 split at ho
 ·rename_i l r
  simp only [Option.some.injEq] at ho
  subst ho
  obtain ⟨h1,h2⟩:=hQ
  simp only [vB,vVs,vV] at h1
  have hl:vL G l=encP (decP (vL G l)):=okP_eq h1
  refine lone ?_ h2
  simp only [tkL,vVs,vV,vR,vN,vI,vHp,List.map_cons,List.map_nil,Option.map_some,vBlk]
  rw [hl,tkNU_enc]
  exact tk_loop G B _ _
 ·simp at ho
theorem dgT (G:Nat→List AV) (B:Nat):DGood (⟨Try.prog,G,B⟩:Ctx) (Dc Try.prog [55] [] [tkL] 1) (loopsOf (bodyOf Try.f66)):=dgood (mix G B) (by kernel_rfl) .nil (.cast (.cons (i:=0) (by kernel_rfl) rfl (tkL_ok G B) .nil) (by kernel_rfl))
theorem t14 (G:Nat→List AV) (cs:List AV) (Q:Ex→List AV→Hp→Prop) (R:AV→Hp→Prop):vT G Q R (dcall (Dc Try.prog [55] [] [tkL] 1) 200 10 Try.f66 [.ptr (.rw 0) (.lit 0)] [some ⟨1,.var 1 cs⟩] 1)=(
  isB cs (0)=true∧
 (getB cs (0)=true→
 okU [.agg cs]=true∧
 (((tkNU [.agg cs]:Int)==0)=true→
 R (.tup [.agg ([.int .i64 (0),.bool (false),.int .u32 (0)]:List AV),.bool (false)]) [some ⟨1,cs⟩])∧
 (((tkNU [.agg cs]:Int)==0)=false→
 isI .u32 cs (1)=true∧
 decide ((0:Int)≤tkNU [.agg cs])=true∧
 leB (2) (List.length cs)=true∧
 decide ((0:Int)≤tkNU [.agg cs])=true∧
 decide ((tkNU [.agg cs]:Int)<16)=true∧
 isI .u32 (setPart cs (1) (.int .u32 (kAndNot .u32 (getI cs (1)) (kShl .u32 (1) (tkNU [.agg cs]))))) (Int.toNat (tkNU [.agg cs])+3)=true∧
 (((getI (setPart cs (1) (.int .u32 (kAndNot .u32 (getI cs (1)) (kShl .u32 (1) (tkNU [.agg cs]))))) (Int.toNat (tkNU [.agg cs])+3):Int)==1)=true→
 R (.tup [.agg ([.int .i64 (0),.bool (false),.int .u32 (0)]:List AV),.bool (false)]) [some ⟨1,(setPart cs (1) (.int .u32 (kAndNot .u32 (getI cs (1)) (kShl .u32 (1) (tkNU [.agg cs])))))⟩])∧
 (((getI (setPart cs (1) (.int .u32 (kAndNot .u32 (getI cs (1)) (kShl .u32 (1) (tkNU [.agg cs]))))) (Int.toNat (tkNU [.agg cs])+3):Int)==1)=false→
 decide ((0:Int)≤tkNU [.agg cs])=true∧
 decide ((tkNU [.agg cs]:Int)<16)=true∧
 isI .u32 (setPart cs (1) (.int .u32 (kAndNot .u32 (getI cs (1)) (kShl .u32 (1) (tkNU [.agg cs]))))) (Int.toNat (tkNU [.agg cs])+3)=true∧
 decide ((0:Int)≤tkNU [.agg cs])=true∧
 decide ((tkNU [.agg cs]:Int)<16)=true∧
 isI .u32 (setPart cs (1) (.int .u32 (kAndNot .u32 (getI cs (1)) (kShl .u32 (1) (tkNU [.agg cs]))))) (Int.toNat (tkNU [.agg cs])+3)=true∧
 R (.tup [.agg ([.int .i64 (tkNU [.agg cs]),.bool (((getI (setPart cs (1) (.int .u32 (kAndNot .u32 (getI cs (1)) (kShl .u32 (1) (tkNU [.agg cs]))))) (Int.toNat (tkNU [.agg cs])+3):Int)==0)),.int .u32 (getI (setPart cs (1) (.int .u32 (kAndNot .u32 (getI cs (1)) (kShl .u32 (1) (tkNU [.agg cs]))))) (Int.toNat (tkNU [.agg cs])+3))]:List AV),.bool (true)]) [some ⟨1,(setPart cs (1) (.int .u32 (kAndNot .u32 (getI cs (1)) (kShl .u32 (1) (tkNU [.agg cs])))))⟩])))∧
 (getB cs (0)=false→
 R (.tup [.agg ([.int .i64 (0),.bool (false),.int .u32 (0)]:List AV),.bool (false)]) [some ⟨1,cs⟩])):=by kernel_rfl
theorem take_w (p:Sg) (h0:tkN p≠0):setPart (encP p) 1 (.int .u32 (kAndNot .u32 (u p.wt) (kShl .u32 1 (tkN p:Int))))=encP (tkP p):=by
 have hlt:tkN p<16:=lowest_lt _
 have e:kAndNot .u32 (u p.wt) (kShl .u32 1 (tkN p:Int))=u ((p.wt &&& ~~~ bitN (tkN p)) &&& 65534#32):=by
  rw [kShl1 (by omega),kAndNot_w,w32_u,w32_u]
  congr 1
  conv=>lhs;rw [←p.hw]
  rw [BitVec.and_assoc,BitVec.and_assoc,BitVec.and_comm 65534#32]
 rw [e]
 unfold tkP
 rw [if_neg h0]
 rfl
theorem tkP_at (p:Sg) (i:Nat):(tkP p).at_ i=p.at_ i:=by unfold tkP;split<;>rfl
theorem p_take (G:Nat→List AV) (B:Nat):TakeOk (⟨Try.prog,G,B⟩:Ctx) 66 encP:=by
 intro p
 refine Meth.of (C:=(⟨Try.prog,G,B⟩:Ctx)) (rest:=[]) (dgT G B) (by kernel_rfl) (by kernel_rfl) (by kernel_rfl) (fuel:=200) (n0:=10) (fn:=Try.f66) ?_
 rw [t14,tkNU_enc,encP_1,Int.toNat_natCast]
 have hlt:tkN p<16:=lowest_lt _
 refine ⟨rfl,fun _=>⟨okU_enc p,fun h=>?_,fun h=>?_⟩,fun h=>by cases h⟩
 ·have h0:tkN p=0:=by have:=eq_of_beq h;omega
  refine ⟨by simp [takenV,tkSig,tkEnds,tkAt,tkOk,h0],by simp [tkP,h0]⟩
 ·have h0:tkN p≠0:=by
   intro h1;rw [h1] at h;cases h
  have hb:Nat.beq (tkN p) 0=false:=by
   cases h1:tkN p with
   | zero=>exact absurd h1 h0
   | succ n=>rfl
  rw [take_w p h0,encP_getI _ hlt,tkP_at]
  have a1:decide ((0:Int)≤(tkN p:Int))=true:=decide_eq_true (by omega)
  have a2:decide ((tkN p:Int)<16)=true:=decide_eq_true (by omega)
  have a3:=encP_isI (tkP p) hlt
  refine ⟨rfl,a1,leB_enc p _ (by omega),a1,a2,a3,fun h1=>?_,fun h1=>⟨a1,a2,a3,a1,a2,a3,?_⟩⟩
  ·have h1:p.at_ (tkN p)=1#32:=by
    have:=congrArg w32 (eq_of_beq h1)
    rw [w32_u] at this
    exact this
   exact ⟨by simp [takenV,tkSig,tkEnds,tkAt,tkOk,h1],rfl⟩
  ·have h1:(p.at_ (tkN p)==1#32)=false:=by
    rw [beq_eq_false_iff_ne]
    intro h
    rw [h] at h1
    cases h1
   have hok:tkOk p=true:=by simp [tkOk,hb,h1]
   have he:(u (p.at_ (tkN p))==0)=(p.at_ (tkN p)==0#32):=u_beq (p.at_ (tkN p)) 0#32
   refine ⟨?_,rfl⟩
   simp only [takenV,tkSig,tkEnds,tkAt,hok,if_true,Bool.true_and,he]
theorem dgN (G:Nat→List AV) (B:Nat):DGood (⟨Try.prog,G,B⟩:Ctx) (Dc Try.prog [55,56,57] [] [] 0) []:=dgood (mix G B) (by kernel_rfl) .nil .nil
theorem pn_loop (G:Nat→List AV) (B:Nat) (p:Sg):AWp (⟨Try.prog,G,B⟩:Ctx) 1 (.loop (loopN Try.f25 0)) (fl 27 [0,3,4,5] [.ptr (.rw 0) 0,.ptr (.rw 1) 0,.func 57 [.ptr (.rw 1) 0],.int .i64 1]) [some ⟨1,encP p⟩,some ⟨1,[.slice true (.rw 2) 0 0]⟩,some ⟨1,[]⟩]
  (lv 27 [0,3,4,5] fun e vs H=>e=.exit 0∧wk [.ptr (.rw 0) 0,.ptr (.rw 1) 0,.func 57 [.ptr (.rw 1) 0],.undef] vs∧H=[some ⟨1,encP p⟩,some ⟨1,[.slice true (.rw 2) 0 (pend p.wt).length]⟩,some ⟨1,nl (pend p.wt)⟩]):=by
 refine aloop_lv (fun j vs H=>∃ i:Nat,i≤15∧j=15 - i∧vs=[.ptr (.rw 0) 0,.ptr (.rw 1) 0,.func 57 [.ptr (.rw 1) 0],.int .i64 ((i+1:Nat):Int)]∧H=[some ⟨1,encP p⟩,some ⟨1,[.slice true (.rw 2) 0 (pendTo p.wt i).length]⟩,some ⟨1,nl (pendTo p.wt i)⟩]) 15
  ⟨0,by omega,rfl,rfl,rfl⟩ ?_
 rintro j vs H ⟨i,hi,rfl,rfl,rfl⟩
 refine dloop_ok (C:=(⟨Try.prog,G,B⟩:Ctx)) (dgN G B) (fuel:=200) (n0:=10) (m:=1) (c:=loopN Try.f25 0) (vs:=[.ptr (.rw 0) (.lit 0),.ptr (.rw 1) (.lit 0),.func 57 [.ptr (.rw 1) (.lit 0)],.int .i64 (.var 2 ((i+1:Nat):Int))])
  (H:=[some ⟨1,.var 1 (encP p)⟩,some ⟨1,.of [.slice true (.rw 2) (.lit 0) (.var 4 (pendTo p.wt i).length)]⟩,some ⟨1,.var 3 (nl (pendTo p.wt i))⟩]) (by simp) ?_
 rw [pn_body1,encP_1]
 have hlen:=pendTo_length p.wt i
 refine ⟨rfl,fun _=>⟨fun h=>⟨rfl,decide_eq_true (by omega),fun hb=>⟨leB_iff.2 (by omega),by rw [nl_length];exact Nat.beq_refl _,?_⟩,fun hb=>?_⟩,fun h=>?_⟩,fun h=>by cases h⟩
 ·have h:=of_decide_eq_true h
  rw [bit_eq _ _ (by omega)] at hb
  have hs:pendTo p.wt (i+1)=pendTo p.wt i++[i+1]:=by rw [pendTo_succ,hb];rfl
  refine ⟨15 - (i+1),by omega,.inr ⟨_,_,⟨i+1,by omega,rfl,rfl,rfl⟩,?_⟩⟩
  rw [hs]
  refine View.renM (θ:=[0,1,4]) (by simp) fixes1 (by decide) ⟨⟨encP_flat _ _,by rw [rens_flat _ _ (encP_flat 0 p)];rfl⟩,⟨by simp [bnds,bnd],by simp [rens,ren]⟩,⟨nl_flat _ _,by rw [nl_rens,nl_append];rfl⟩,trivial⟩ (by simp [bnds,bnd]) ?_
  have e5:=i64_in (n:=((i+1:Nat):Int)+1) (by omega)
  simp [rens,ren,wk] at e5 ⊢
  exact e5
 ·have h:=of_decide_eq_true h
  rw [bit_eq _ _ (by omega)] at hb
  have hs:pendTo p.wt (i+1)=pendTo p.wt i:=by rw [pendTo_succ,hb];simp
  refine ⟨15 - (i+1),by omega,.inl ⟨i+1,by omega,rfl,by rw [i64_in (by omega)];rfl,by rw [hs]⟩⟩
 ·have h:=of_decide_eq_false h
  have:i=15:=by omega
  subst this
  exact ⟨rfl,by simp [wk],rfl⟩
def pnL:DL:=⟨0,27,[0,3,4,5],fun vs H=>match vs,H with
 | [.ptr (.rw 0) (.lit 0),.ptr (.rw 1) (.lit 0),.func 57 [.ptr (.rw 1) (.lit 0)],.int .i64 (.lit 1)],[some ⟨1,l⟩,some ⟨1,.of [.nils]⟩]=>
  some (.chk (.uf 1001 okU [.agg l]) (.one (.exit 0) [.ptr (.rw 0) (.lit 0),.ptr (.rw 1) (.lit 0),.func 57 [.ptr (.rw 1) (.lit 0)],.undef] [some ⟨1,l⟩,some ⟨1,.of [.slice true (.rw 2) (.lit 0) (.uf 1021 pendNU [.agg l])]⟩,some ⟨1,.uf 1020 pendU [.agg l]⟩]))
 | _,_=>none⟩
theorem pnL_ok (G:Nat→List AV) (B:Nat):DLoopOk (⟨Try.prog,G,B⟩:Ctx) 1 (loopN Try.f25 0) pnL:=by
 refine .of fun vs H o ho n Q hQ=>?_
 simp only [pnL] at ho
 split at ho
 ·rename_i l
  simp only [Option.some.injEq] at ho
  subst ho
  obtain ⟨h1,h2⟩:=hQ
  simp only [vB,vVs,vV] at h1
  have hl:vL G l=encP (decP (vL G l)):=okP_eq h1
  refine lone ?_ h2
  simp only [pnL,vVs,vV,vR,vN,vI,vL,vHp,List.map_cons,List.map_nil,Option.map_some,vBlk]
  rw [hl,pendNU_enc,pendU_enc]
  exact AWp.nil (H:=[some ⟨1,encP _⟩,some ⟨1,[.slice true (.rw 2) 0 0]⟩]) 1 (by simp) (nilrs_refl _) ⟨⟨rfl,nilrs_refl _⟩,⟨rfl,.inr ⟨rfl,rfl⟩,trivial⟩,trivial⟩ (pn_loop G B _)
 ·simp at ho
theorem dgP (G:Nat→List AV) (B:Nat):DGood (⟨Try.prog,G,B⟩:Ctx) (Dc Try.prog [55] [] [pnL] 1) (loopsOf (bodyOf Try.f25)):=dgood (mix G B) (by kernel_rfl) .nil (.cast (.cons (i:=0) (by kernel_rfl) rfl (pnL_ok G B) .nil) (by kernel_rfl))
theorem t16 (G:Nat→List AV) (cs:List AV) (Q:Ex→List AV→Hp→Prop) (R:AV→Hp→Prop):vT G Q R (dcall (Dc Try.prog [55] [] [pnL] 1) 200 10 Try.f25 [.ptr (.rw 0) (.lit 0)] [some ⟨1,.var 1 cs⟩] 3)=(
  okU [.agg cs]=true∧
 R (.slice true (.rw 2) (0) (pendNU [.agg cs])) [some ⟨1,cs⟩,some ⟨1,([.slice true (.rw 2) (0) (pendNU [.agg cs])]:List AV)⟩,some ⟨1,(pendU [.agg cs])⟩]):=by kernel_rfl
theorem p_pend (G:Nat→List AV) (B:Nat):NewOk (⟨Try.prog,G,B⟩:Ctx) 25 encP (fun p=>.slice true (.rw 1) 0 (pend p.wt).length) (fun p=>nl (pend p.wt)):=by
 intro p
 have key:=dcall_ok (C:=(⟨Try.prog,G,B⟩:Ctx)) (f:=25) (R:=fun v' H'=>v'=.slice true (.rw 2) 0 (pend p.wt).length∧H'=[some ⟨1,encP p⟩,some ⟨1,[.slice true (.rw 2) 0 (pend p.wt).length]⟩,some ⟨1,nl (pend p.wt)⟩]) (dgP G B) (by kernel_rfl) (by kernel_rfl) (by kernel_rfl) (fuel:=200) (n0:=10) (keep:=3) (args:=[.ptr (.rw 0) (.lit 0)]) (H:=[some ⟨1,.var 1 (encP p)⟩]) (by
  rw [t16,pendNU_enc,pendU_enc]
  exact ⟨okU_enc p,rfl,rfl⟩)
 simp only [vVs,vV,vR,vN,vHp,List.map_cons,List.map_nil,Option.map_some,vBlk,vL] at key
 have key:=key.keep (by simp) (by simp [hpB,encP_flat,nl_flat,bnds,bnd]) (by simp [bnd]) (by simp)
 refine key.view fun v H' ⟨h1,h2⟩=>⟨_,_,⟨rfl,rfl⟩,?_⟩
 subst h1 h2
 refine View.renM (θ:=[0,2]) (by simp) fixes1 (by decide) ⟨⟨encP_flat _ _,by rw [rens_flat _ _ (encP_flat 0 p)];rfl⟩,⟨nl_flat _ _,by rw [nl_rens];rfl⟩,trivial⟩ (by simp [bnds,bnd]) ?_
 simp [rens,ren,wk]
end Go.Am
