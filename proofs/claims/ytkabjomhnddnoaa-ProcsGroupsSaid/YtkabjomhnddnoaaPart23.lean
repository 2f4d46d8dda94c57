/-
  Processes: the document's calls without loops: trees. Processes: the document's Mask and Handle.
-/
import Derived.Test.YtkabjomhnddnoaaBase10
import Derived.Test.YtkabjomhnddnoaaPart20
import Derived.Test.YtkabjomhnddnoaaPrT
import Derived.Test.YtkabjomhnddnoaaPart15
import Derived.Test.YtkabjomhnddnoaaPart14
namespace Go.Am
open Go.Proofs Crc
set_option maxRecDepth 100000
theorem u44 (G:Nat→List AV) (tb sl:List AV) (n a:Int) (Q:Ex→List AV→Hp→Prop) (R:AV→Hp→Prop):vT G Q R (dcall (Df Try.prog [(75,1,13)] [67,60] [] [] 0) 300 20 Try.f44 [.ptr (.rw 0) (.lit 0),.int .i64 (.var 3 n),.int .i64 (.var 4 a)] (hp3 [some ⟨1,.var 1 tb⟩] (.var 2 sl) []) 14)=(
  (decide ((n:Int)≥1)=true→
 (decide ((n:Int)≤12)=true→
 decide ((0:Int)≤n)=true∧
 decide ((n:Int)<13)=true∧
 isI .i64 tb ((Int.toNat (n))*6)=true∧
 (((getI tb ((Int.toNat (n))*6):Int)==n)=true→
 decide ((0:Int)≤n)=true∧
 decide ((n:Int)<13)=true∧
 isB tb ((Int.toNat (n))*6+4)=true∧
 (getB tb ((Int.toNat (n))*6+4)=true→
 R (.int .i64 (6)) ([some ⟨1,tb⟩]++rows13 sl))∧
 (getB tb ((Int.toNat (n))*6+4)=false→
 (decide ((a:Int)<1)=true→
 R (.int .i64 (2)) ([some ⟨1,tb⟩]++rows13 sl))∧
 (decide ((a:Int)<1)=false→
 (decide ((a:Int)>12)=true→
 R (.int .i64 (2)) ([some ⟨1,tb⟩]++rows13 sl))∧
 (decide ((a:Int)>12)=false→
 decide ((0:Int)≤n)=true∧
 decide ((n:Int)<13)=true∧
 leB ((Int.toNat (n))*6+3) (List.length tb)=true∧
 R (.int .i64 (0)) ([some ⟨1,(setPart tb ((Int.toNat (n))*6+2) (.int .i64 (a)))⟩]++rows13 sl)))))∧
 (((getI tb ((Int.toNat (n))*6):Int)==n)=false→
 R (.int .i64 (6)) ([some ⟨1,tb⟩]++rows13 sl)))∧
 (decide ((n:Int)≤12)=false→
 R (.int .i64 (6)) ([some ⟨1,tb⟩]++rows13 sl)))∧
 (decide ((n:Int)≥1)=false→
 R (.int .i64 (6)) ([some ⟨1,tb⟩]++rows13 sl))):=by kernel_rfl
theorem u45 (G:Nat→List AV) (tb sl:List AV) (n a:Int) (Q:Ex→List AV→Hp→Prop) (R:AV→Hp→Prop):vT G Q R (dcall (Df Try.prog [(75,1,13)] [67,60] [] [] 0) 300 20 Try.f45 [.ptr (.rw 0) (.lit 0),.int .i64 (.var 3 n),.int .i64 (.var 4 a)] (hp3 [some ⟨1,.var 1 tb⟩] (.var 2 sl) []) 14)=(
  (decide ((n:Int)≥1)=true→
 (decide ((n:Int)≤12)=true→
 decide ((0:Int)≤n)=true∧
 decide ((n:Int)<13)=true∧
 isI .i64 tb ((Int.toNat (n))*6)=true∧
 (((getI tb ((Int.toNat (n))*6):Int)==n)=true→
 decide ((0:Int)≤n)=true∧
 decide ((n:Int)<13)=true∧
 isB tb ((Int.toNat (n))*6+4)=true∧
 (getB tb ((Int.toNat (n))*6+4)=true→
 R (.int .i64 (6)) ([some ⟨1,tb⟩]++rows13 sl))∧
 (getB tb ((Int.toNat (n))*6+4)=false→
 (decide ((a:Int)<0)=true→
 R (.int .i64 (2)) ([some ⟨1,tb⟩]++rows13 sl))∧
 (decide ((a:Int)<0)=false→
 (decide ((a:Int)>65535)=true→
 R (.int .i64 (2)) ([some ⟨1,tb⟩]++rows13 sl))∧
 (decide ((a:Int)>65535)=false→
 decide ((0:Int)≤n)=true∧
 decide ((n:Int)<13)=true∧
 isI .i64 tb ((Int.toNat (n))*6+3)=true∧
 (((getI tb ((Int.toNat (n))*6+3):Int)==0)=true→
 decide ((0:Int)≤n)=true∧
 decide ((n:Int)<13)=true∧
 leB ((Int.toNat (n))*6+4) (List.length tb)=true∧
 R (.int .i64 (0)) ([some ⟨1,(setPart tb ((Int.toNat (n))*6+3) (.int .i64 (a)))⟩]++rows13 sl))∧
 (((getI tb ((Int.toNat (n))*6+3):Int)==0)=false→
 R (.int .i64 (8)) ([some ⟨1,tb⟩]++rows13 sl))))))∧
 (((getI tb ((Int.toNat (n))*6):Int)==n)=false→
 R (.int .i64 (6)) ([some ⟨1,tb⟩]++rows13 sl)))∧
 (decide ((n:Int)≤12)=false→
 R (.int .i64 (6)) ([some ⟨1,tb⟩]++rows13 sl)))∧
 (decide ((n:Int)≥1)=false→
 R (.int .i64 (6)) ([some ⟨1,tb⟩]++rows13 sl))):=by kernel_rfl
theorem u48 (G:Nat→List AV) (rd:List AV→Bool) (pu:List AV→List AV) (tb sl:List AV) (n a:Int) (Q:Ex→List AV→Hp→Prop) (R:AV→Hp→Prop):vT G Q R (dcall (Df Try.prog [(75,1,13)] [67,60] [(72,fMaskS (sideQ (rd) (pu)))] [] 0) 300 20 Try.f48 [.ptr (.rw 0) (.lit 0),.int .i64 (.var 3 n),.int .i64 (.var 4 a)] (hp3 [some ⟨1,.var 1 tb⟩] (.var 2 sl) []) 14)=(
  (decide ((n:Int)≥1)=true→
 (decide ((n:Int)≤12)=true→
 decide ((0:Int)≤n)=true∧
 decide ((n:Int)<13)=true∧
 isI .i64 tb ((Int.toNat (n))*6)=true∧
 (((getI tb ((Int.toNat (n))*6):Int)==n)=true→
 decide ((0:Int)≤n)=true∧
 decide ((n:Int)<13)=true∧
 isB tb ((Int.toNat (n))*6+4)=true∧
 (getB tb ((Int.toNat (n))*6+4)=true→
 R (.tup [.int .i64 (0),.int .i64 (6)]) ([some ⟨1,tb⟩]++rows13 sl))∧
 (getB tb ((Int.toNat (n))*6+4)=false→
 decide ((0:Int)≤n)=true∧
 decide ((n:Int)<13)=true∧
 (isNilA tb (Int.toNat (n)+78)=true→
 False)∧
 (isNilA tb (Int.toNat (n)+78)=false→
 isPA 1 13 tb (Int.toNat (n)+78)=true∧
 Nat.beq (foA tb (Int.toNat (n)+78)) (0)=true∧
 leB (fkA 1 tb (Int.toNat (n)+78)+1) (13)=true∧
 rowsA sl (rp 13 sl)=true∧
 leB (fkA 1 tb (Int.toNat (n)+78)+1) (List.length sl)=true∧
 (rd) [.agg (rowA sl (fkA 1 tb (Int.toNat (n)+78)))]=true∧
 R (.tup [.int .i64 (heldU [.agg ((pu) [.agg (rowA sl (fkA 1 tb (Int.toNat (n)+78)))])]),.int .i64 (0)]) ([some ⟨1,tb⟩]++rows13 (putA sl (fkA 1 tb (Int.toNat (n)+78)) (encRU [.agg (maskU [.agg ((pu) [.agg (rowA sl (fkA 1 tb (Int.toNat (n)+78)))]),.int .i64 (a)])]))))))∧
 (((getI tb ((Int.toNat (n))*6):Int)==n)=false→
 R (.tup [.int .i64 (0),.int .i64 (6)]) ([some ⟨1,tb⟩]++rows13 sl)))∧
 (decide ((n:Int)≤12)=false→
 R (.tup [.int .i64 (0),.int .i64 (6)]) ([some ⟨1,tb⟩]++rows13 sl)))∧
 (decide ((n:Int)≥1)=false→
 R (.tup [.int .i64 (0),.int .i64 (6)]) ([some ⟨1,tb⟩]++rows13 sl))):=by kernel_rfl
theorem u50 (G:Nat→List AV) (rd:List AV→Bool) (pu:List AV→List AV) (tb sl:List AV) (n a q:Int) (Q:Ex→List AV→Hp→Prop) (R:AV→Hp→Prop):vT G Q R (dcall (Df Try.prog [(75,1,13)] [67,60] [(74,fHandleS (sideQ (rd) (pu)))] [] 0) 300 20 Try.f50 [.ptr (.rw 0) (.lit 0),.int .i64 (.var 3 n),.int .i64 (.var 4 a),.int .i64 (.var 5 q)] (hp3 [some ⟨1,.var 1 tb⟩] (.var 2 sl) []) 14)=(
  (decide ((n:Int)≥1)=true→
 (decide ((n:Int)≤12)=true→
 decide ((0:Int)≤n)=true∧
 decide ((n:Int)<13)=true∧
 isI .i64 tb ((Int.toNat (n))*6)=true∧
 (((getI tb ((Int.toNat (n))*6):Int)==n)=true→
 decide ((0:Int)≤n)=true∧
 decide ((n:Int)<13)=true∧
 isB tb ((Int.toNat (n))*6+4)=true∧
 (getB tb ((Int.toNat (n))*6+4)=true→
 R (.tup [.int .i64 (0),.int .i64 (6)]) ([some ⟨1,tb⟩]++rows13 sl))∧
 (getB tb ((Int.toNat (n))*6+4)=false→
 (decide ((a:Int)<0)=true→
 R (.tup [.int .i64 (0),.int .i64 (2)]) ([some ⟨1,tb⟩]++rows13 sl))∧
 (decide ((a:Int)<0)=false→
 (decide ((a:Int)>99)=true→
 R (.tup [.int .i64 (0),.int .i64 (2)]) ([some ⟨1,tb⟩]++rows13 sl))∧
 (decide ((a:Int)>99)=false→
 decide ((0:Int)≤n)=true∧
 decide ((n:Int)<13)=true∧
 (isNilA tb (Int.toNat (n)+78)=true→
 False)∧
 (isNilA tb (Int.toNat (n)+78)=false→
 isPA 1 13 tb (Int.toNat (n)+78)=true∧
 Nat.beq (foA tb (Int.toNat (n)+78)) (0)=true∧
 leB (fkA 1 tb (Int.toNat (n)+78)+1) (13)=true∧
 rowsA sl (rp 13 sl)=true∧
 leB (fkA 1 tb (Int.toNat (n)+78)+1) (List.length sl)=true∧
 (rd) [.agg (rowA sl (fkA 1 tb (Int.toNat (n)+78)))]=true∧
 R (.tup [.int .i64 (handleVU [.agg ((pu) [.agg (rowA sl (fkA 1 tb (Int.toNat (n)+78)))]),.int .i64 (a),.int .i64 (q)]),.int .i64 (handleEU [.int .i64 (a),.int .i64 (q)])]) ([some ⟨1,tb⟩]++rows13 (putA sl (fkA 1 tb (Int.toNat (n)+78)) (encRU [.agg (handleXU [.agg ((pu) [.agg (rowA sl (fkA 1 tb (Int.toNat (n)+78)))]),.int .i64 (a),.int .i64 (q)])]))))))))∧
 (((getI tb ((Int.toNat (n))*6):Int)==n)=false→
 R (.tup [.int .i64 (0),.int .i64 (6)]) ([some ⟨1,tb⟩]++rows13 sl)))∧
 (decide ((n:Int)≤12)=false→
 R (.tup [.int .i64 (0),.int .i64 (6)]) ([some ⟨1,tb⟩]++rows13 sl)))∧
 (decide ((n:Int)≥1)=false→
 R (.tup [.int .i64 (0),.int .i64 (6)]) ([some ⟨1,tb⟩]++rows13 sl))):=by kernel_rfl
theorem hU (G:Nat→List AV) (s:Ptb):vHp G (hp3 [some ⟨1,.var 1 (encU 1 s)⟩] (.var 2 (setsL encR s)) [])=can tsR s:=hp_can (t:=tsR) (s:=s)
theorem isU_tree (b:Nat) {s:Ptb} {n:Int} {A B:Prop} (h1:isP s n=true→A) (h2:isP s n=false→B) :
  (decide (n≥1)=true→(decide (n≤12)=true→decide ((0:Int)≤n)=true∧decide ((n:Int)<13)=true∧isI .i64 (encU b s) (n.toNat*6)=true∧((getI (encU b s) (n.toNat*6)==n)=true→A)∧((getI (encU b s) (n.toNat*6)==n)=false→B))∧(decide (n≤12)=false→B))∧(decide (n≥1)=false→B):=by
 have ff:¬(1≤n∧n≤12∧(s.at_ n.toNat).num=n)→isP s n=false:=fun h=>by
  cases e:isP s n with
  | false=>rfl
  | true=>exact absurd (isP_iff.1 e) h
 refine ⟨fun a1=>⟨fun a2=>?_,fun a2=>h2 (ff fun h=>?_)⟩,fun a1=>h2 (ff fun h=>?_)⟩
 ·have a1:=of_decide_eq_true a1
  have a2:=of_decide_eq_true a2
  have t:=U_num (b:=b) (s:=s) (n:=n.toNat) (by omega)
  refine ⟨decide_eq_true (by omega),decide_eq_true (by omega),t.1,fun h=>h1 (isP_iff.2 ⟨by omega,a2,?_⟩),fun h=>h2 (ff fun h'=>?_)⟩
  ·rw [t.2] at h;exact eq_of_beq h
  ·rw [t.2,h'.2.2,beq_self_eq_true] at h;cases h
 ·have:=of_decide_eq_false a2;omega
 ·have:=of_decide_eq_false a1;omega
theorem liveU_tree (b:Nat) {s:Ptb} {n:Int} {A B:Prop} (h1:live s n=true→A) (h2:live s n=false→B) :
  (decide (n≥1)=true→(decide (n≤12)=true→decide ((0:Int)≤n)=true∧decide ((n:Int)<13)=true∧isI .i64 (encU b s) (n.toNat*6)=true∧
   ((getI (encU b s) (n.toNat*6)==n)=true→decide ((0:Int)≤n)=true∧decide ((n:Int)<13)=true∧isB (encU b s) (n.toNat*6+4)=true∧(getB (encU b s) (n.toNat*6+4)=true→B)∧(getB (encU b s) (n.toNat*6+4)=false→A))∧
   ((getI (encU b s) (n.toNat*6)==n)=false→B))∧(decide (n≤12)=false→B))∧(decide (n≥1)=false→B):=by
 refine isU_tree b (fun h=>?_) fun h=>h2 (by unfold live;rw [h];rfl)
 obtain ⟨a1,a2,a3⟩:=isP_iff.1 h
 have t:=U_en (b:=b) (s:=s) (n:=n.toNat) (by omega)
 refine ⟨decide_eq_true (by omega),decide_eq_true (by omega),t.1,fun h'=>h2 ?_,fun h'=>h1 ?_⟩
 ·rw [t.2] at h';unfold live;rw [h,h'];rfl
 ·rw [t.2] at h';unfold live;rw [h,h'];rfl
theorem dgU {G:Nat→List AV} {B:Nat} {fn:Func} {sums:List (Nat×DSum)} (h:loopsOf (bodyOf fn)=[]) (hs:DSumsOk (⟨Try.prog,G,B⟩:Ctx) sums):DGood (⟨Try.prog,G,B⟩:Ctx) (Df Try.prog [(75,1,13)] [67,60] sums [] 0) (loopsOf (bodyOf fn)):=by
 rw [h];exact dgoodf (mix G B) (by kernel_rfl) hs .nil
theorem u_stay (G : Nat → List AV) (B : Nat) {f : FuncId} {fn : Func} {sums : List (Nat × DSum)} {s s' : Ptb} {rest : List EV} {v : AV} (hl : loopsOf (bodyOf fn) = []) (hs : DSumsOk (⟨Try.prog, G, B⟩ : Ctx) sums) (hf : Try.prog.funcs[f]? = some fn) (hb : fn.body = some (bodyOf fn)) (hn : (fn.name == "runtime.NumGoroutine") = false) (hv : bnd 0 v = true)
  (h:vT G (fun _ _ _=>False) (fun v' H'=>v'=v∧Seen tsR s' 13 H') (dcall (Df Try.prog [(75,1,13)] [67,60] sums [] 0) 300 20 fn (.ptr (.rw 0) (.lit 0)::rest) (hp3 [some ⟨1,.var 1 (encU 1 s)⟩] (.var 2 (setsL encR s)) []) 14)) :
  ACalls (⟨Try.prog,G,B⟩:Ctx) f (.ptr (.rw 0) 0::vVs G rest) (can tsR s) fun v' H'=>v'=v∧H'=can tsR s':=by
 have:=dcall_ok (C:=(⟨Try.prog,G,B⟩:Ctx)) (f:=f) (R:=fun v' H'=>v'=v∧Seen tsR s' 13 H') (dgU (B:=B) hl hs) hf hb hn h
 rw [hU] at this
 exact pm_stay tsR_ok this hv
theorem seenU_same {s:Ptb}:Seen tsR s 13 (some ⟨1,encU 1 s⟩::(List.range 13).map fun n=>some ⟨1,rowA (setsL encR s) n⟩):=seen_rows (t:=tsR) rfl tsR_ok (sets_same (t:=tsR) (s:=s) fun _ _ h=>h)
theorem seenU_updC {s:Ptb} {c:Nat} {x:Pc} {l:List AV} (h:l=encU 1 (updC s c x)):Seen tsR (updC s c x) 13 (some ⟨1,l⟩::(List.range 13).map fun n=>some ⟨1,rowA (setsL encR s) n⟩):=seen_rows (t:=tsR) h tsR_ok (sets_same (t:=tsR) (s:=s) fun _ _ h=>h)
theorem r_group (G:Nat→List AV) (B:Nat) {s:Ptb} (n a:Int):ACalls (⟨Try.prog,G,B⟩:Ctx) 44 [.ptr (.rw 0) 0,.int .i64 n,.int .i64 a] (can tsR s) fun v H'=>v=.int .i64 (groupE s n a)∧H'=can tsR (groupX s n a):=by
 refine u_stay G B (fn:=Try.f44) (rest:=[.int .i64 (.var 3 n),.int .i64 (.var 4 a)]) (by kernel_rfl) .nil (by kernel_rfl) (by kernel_rfl) (by kernel_rfl) rfl ?_
 rw [u44]
 refine liveU_tree 1 (fun hl=>?_) fun hl=>?_
 ·have h:=live_iff.1 hl
  refine ⟨fun h1=>?_,fun h1=>⟨fun h2=>?_,fun h2=>⟨decide_eq_true (by omega),decide_eq_true (by omega),leB_iff.2 (by rw [encU_len];omega),?_⟩⟩⟩
  ·have h1:=of_decide_eq_true h1
   unfold groupE groupX
   rw [if_pos hl,if_pos hl,if_pos (by omega),if_pos (by omega)];exact ⟨rfl,seenU_same⟩
  ·have h2:=of_decide_eq_true h2
   unfold groupE groupX
   rw [if_pos hl,if_pos hl,if_pos (by omega),if_pos (by omega)];exact ⟨rfl,seenU_same⟩
  ·have h1:=of_decide_eq_false h1
   have h2:=of_decide_eq_false h2
   unfold groupE groupX
   rw [if_pos hl,if_pos hl,if_neg (by omega),if_neg (by omega)]
   exact ⟨rfl,seenU_updC (U_set (k:=2) (by omega) (by omega) (by intro l h;cases h) (fun j hj=>by
    match j,hj with
    | 0,_ | 1,_ | 2,_ | 3,_ | 4,_ | 5,_=>rfl))⟩
 ·unfold groupE groupX
  rw [hl];exact ⟨rfl,seenU_same⟩
theorem r_user (G:Nat→List AV) (B:Nat) {s:Ptb} (n a:Int):ACalls (⟨Try.prog,G,B⟩:Ctx) 45 [.ptr (.rw 0) 0,.int .i64 n,.int .i64 a] (can tsR s) fun v H'=>v=.int .i64 (userE s n a)∧H'=can tsR (userX s n a):=by
 refine u_stay G B (fn:=Try.f45) (rest:=[.int .i64 (.var 3 n),.int .i64 (.var 4 a)]) (by kernel_rfl) .nil (by kernel_rfl) (by kernel_rfl) (by kernel_rfl) rfl ?_
 rw [u45]
 refine liveU_tree 1 (fun hl=>?_) fun hl=>?_
 ·have h:=live_iff.1 hl
  have t:=U_usr (b:=1) (s:=s) (n:=n.toNat) (by omega)
  rw [t.2]
  refine ⟨fun h1=>?_,fun h1=>⟨fun h2=>?_,fun h2=>⟨decide_eq_true (by omega),decide_eq_true (by omega),t.1,fun h3=>⟨decide_eq_true (by omega),decide_eq_true (by omega),leB_iff.2 (by rw [encU_len];omega),?_⟩,fun h3=>?_⟩⟩⟩
  ·have h1:=of_decide_eq_true h1
   unfold userE userX
   rw [if_pos hl,if_pos hl,if_pos (by omega),if_pos (by omega)];exact ⟨rfl,seenU_same⟩
  ·have h2:=of_decide_eq_true h2
   unfold userE userX
   rw [if_pos hl,if_pos hl,if_pos (by omega),if_pos (by omega)];exact ⟨rfl,seenU_same⟩
  ·have h1:=of_decide_eq_false h1
   have h2:=of_decide_eq_false h2
   have h3:=eq_of_beq h3
   unfold userE userX
   have hr:¬(a<0∨65535<a):=by omega
   rw [if_pos hl,if_pos hl,if_neg hr,if_neg hr,if_pos h3,if_pos h3]
   exact ⟨rfl,seenU_updC (U_set (k:=3) (by omega) (by omega) (by intro l h;cases h) (fun j hj=>by
    match j,hj with
    | 0,_ | 1,_ | 2,_ | 3,_ | 4,_ | 5,_=>rfl))⟩
  ·have h1:=of_decide_eq_false h1
   have h2:=of_decide_eq_false h2
   have h3:¬(s.at_ n.toNat).usr=0:=fun e=>by rw [e] at h3;cases h3
   unfold userE userX
   have hr:¬(a<0∨65535<a):=by omega
   rw [if_pos hl,if_pos hl,if_neg hr,if_neg hr,if_neg h3,if_neg h3]
   exact ⟨rfl,seenU_same⟩
 ·unfold userE userX
  rw [hl];exact ⟨rfl,seenU_same⟩
end Go.Am
namespace Go.Am
open Go.Proofs Crc
set_option maxRecDepth 100000
theorem famU_facts {s:Ptb} {n:Nat} {p:Sg} (hn:n<13) (hp:s.sg n=some p):isNilA (encU 1 s) (n+78)=false∧isPA 1 13 (encU 1 s) (n+78)=true∧fkA 1 (encU 1 s) (n+78)=n∧foA (encU 1 s) (n+78)=0∧rowA (setsL encR s) n=encR p:=by
 have h:=U_ptr (b:=1) (s:=s) hn
 have e:=ptr_fam hn h (by rw [hp];rfl)
 exact ⟨by rw [ptr_nil h,hp];rfl,e.1,e.2.1,e.2.2,by rw [rowA_sets hn,hp];rfl⟩
theorem seenU_updS {s:Ptb} {c:Nat} {q p:Sg} {l:List AV} (hp:s.sg c=some p) (hl:l=encR q):Seen tsR (updS s c (some q)) 13 (some ⟨1,encU 1 s⟩::(List.range 13).map fun n=>some ⟨1,rowA (putA (setsL encR s) c l) n⟩):=by
 subst hl
 refine seen_rows (t:=tsR) ?_ tsR_ok (sets_put (t:=tsR))
 show encW (ptrs 1 s) s=encW (ptrs 1 (updS s c (some q))) s
 rw [ptrs_updS hp]
theorem updS_self {s:Ptb} {c:Nat} {p:Sg} (hp:s.sg c=some p):updS s c (some p)=s:=by
 unfold updS
 have:(fun j=>if j=c then some p else s.sg j)=s.sg:=by
  funext j
  by_cases e:j=c
  ·subst e;rw [if_pos rfl,hp]
  ·rw [if_neg e]
 rw [this]
theorem r_maskM (G:Nat→List AV) (B:Nat) {s:Ptb} (hw:Wf s) (n a:Int):ACalls (⟨Try.prog,G,B⟩:Ctx) 48 [.ptr (.rw 0) 0,.int .i64 n,.int .i64 a] (can tsR s) fun v H'=>v=.tup [.int .i64 (maskV s n),.int .i64 (askE s n)]∧H'=can tsR (maskX s n a):=by
 refine u_stay G B (fn:=Try.f48) (rest:=[.int .i64 (.var 3 n),.int .i64 (.var 4 a)]) (by kernel_rfl) (.cons (fMaskS_ok (sideD_ok G) (r_mask' G B)) .nil) (by kernel_rfl) (by kernel_rfl) (by kernel_rfl) rfl ?_
 unfold sideD
 rw [u48]
 refine liveU_tree 1 (fun hl=>?_) fun hl=>?_
 ·have h:=live_iff.1 hl
  have hi:isP s n=true:=isP_iff.2 ⟨h.1,h.2.1,h.2.2.1⟩
  obtain ⟨p,hp⟩:=hw.live_sg hi
  obtain ⟨e1,e2,e3,e4,e5⟩:=famU_facts (by omega) hp
  have ed:sgD s n.toNat=p:=by unfold sgD;rw [hp];rfl
  refine ⟨decide_eq_true (by omega),decide_eq_true (by omega),(fun h=>by rw [e1] at h;cases h),fun _=>?_⟩
  rw [e3,e4,e5,toPU_enc]
  refine ⟨e2,rfl,leB_iff.2 (by omega),rowsA_same _ 13,leB_iff.2 (by rw [setsL_len];omega),okRd_enc p,?_⟩
  unfold maskV askE maskX
  rw [if_pos hl,if_pos hl,if_pos hl,ed,heldU_enc]
  exact ⟨rfl,seenU_updS hp (by rw [maskU_enc,encRU_enc])⟩
 ·unfold maskV askE maskX
  rw [hl];exact ⟨rfl,seenU_same⟩
theorem r_handleM (G:Nat→List AV) (B:Nat) {s:Ptb} (hw:Wf s) (n a q:Int):ACalls (⟨Try.prog,G,B⟩:Ctx) 50 [.ptr (.rw 0) 0,.int .i64 n,.int .i64 a,.int .i64 q] (can tsR s) fun v H'=>v=.tup [.int .i64 (handV s n a q),.int .i64 (handE s n a q)]∧H'=can tsR (handX s n a q):=by
 refine u_stay G B (fn:=Try.f50) (rest:=[.int .i64 (.var 3 n),.int .i64 (.var 4 a),.int .i64 (.var 5 q)]) (by kernel_rfl) (.cons (fHandleS_ok (sideD_ok G) (r_handle' G B)) .nil) (by kernel_rfl) (by kernel_rfl) (by kernel_rfl) rfl ?_
 unfold sideD
 rw [u50]
 refine liveU_tree 1 (fun hl=>?_) fun hl=>?_
 ·have h:=live_iff.1 hl
  have hi:isP s n=true:=isP_iff.2 ⟨h.1,h.2.1,h.2.2.1⟩
  obtain ⟨p,hp⟩:=hw.live_sg hi
  obtain ⟨e1,e2,e3,e4,e5⟩:=famU_facts (by omega) hp
  have ed:sgD s n.toNat=p:=by unfold sgD;rw [hp];rfl
  refine ⟨fun h1=>?_,fun h1=>⟨fun h2=>?_,fun h2=>⟨decide_eq_true (by omega),decide_eq_true (by omega),(fun h=>by rw [e1] at h;cases h),fun _=>?_⟩⟩⟩
  ·have h1:=of_decide_eq_true h1
   unfold handV handE handX
   rw [if_pos hl,if_pos hl,if_pos hl,if_pos (by omega),if_pos (by omega),if_pos (by omega)];exact ⟨rfl,seenU_same⟩
  ·have h2:=of_decide_eq_true h2
   unfold handV handE handX
   rw [if_pos hl,if_pos hl,if_pos hl,if_pos (by omega),if_pos (by omega),if_pos (by omega)];exact ⟨rfl,seenU_same⟩
  ·have h1:=of_decide_eq_false h1
   have h2:=of_decide_eq_false h2
   rw [e3,e4,e5,toPU_enc]
   refine ⟨e2,rfl,leB_iff.2 (by omega),rowsA_same _ 13,leB_iff.2 (by rw [setsL_len];omega),okRd_enc p,?_⟩
   unfold handV handE handX
   rw [if_pos hl,if_pos hl,if_pos hl]
   by_cases hr:15<a
   ·have hE:handleE a q=true:=by
     have:outB a 2 15=true:=by unfold outB;simp;omega
     unfold handleE;rw [this];rfl
    rw [if_pos (.inr hr),if_pos (.inr hr),if_pos (.inr hr)]
    refine ⟨by simp only [handleVU,handleEU,decP_enc,handleV,hE];rfl,?_⟩
    have hs:=seenU_updS (s:=s) (c:=n.toNat) (q:=p) (p:=p) (l:=encRU [.agg (handleXU [.agg (encP p),.int .i64 a,.int .i64 q])]) hp (by simp only [handleXU,decP_enc,handleX,hE,if_true,encRU_enc])
    rw [updS_self hp] at hs
    exact hs
   ·have hr:¬(a<0∨15<a):=by omega
    rw [if_neg hr,if_neg hr,if_neg hr,ed]
    refine ⟨?_,seenU_updS hp (by simp only [handleXU,decP_enc,encRU_enc])⟩
    simp only [handleVU,handleEU,decP_enc]
 ·unfold handV handE handX
  rw [hl];exact ⟨rfl,seenU_same⟩
end Go.Am
namespace Go.Am
open Go.Proofs Crc
set_option maxRecDepth 100000
theorem tu_c (G:Nat→List AV) (rd okP2:List AV→Bool) (pu xoP:List AV→List AV) (tb sl:List AV) (n:Int) (Q:Ex→List AV→Hp→Prop) (R:AV→Hp→Prop):vT G Q R (dcall (Df Try.prog [(75,1,13)] [67,60] [(75,fTakeS (sideQ (rd) (pu))),(42,objF 2251 okP2 xoP tsR .move endK)] [] 0) 300 40 Try.f51 [.ptr (.rw 0) (.lit 0),.int .i64 (.var 3 n)] (hp3 [some ⟨1,.var 1 tb⟩] (.var 2 sl) []) 40)=(
  (decide ((n:Int)≥1)=true→
 (decide ((n:Int)≤12)=true→
 decide ((0:Int)≤n)=true∧
 decide ((n:Int)<13)=true∧
 isI .i64 tb ((Int.toNat (n))*6)=true∧
 (((getI tb ((Int.toNat (n))*6):Int)==n)=true→
 decide ((0:Int)≤n)=true∧
 decide ((n:Int)<13)=true∧
 isB tb ((Int.toNat (n))*6+4)=true∧
 (getB tb ((Int.toNat (n))*6+4)=true→
 R (.tup [.agg ([.int .i64 (0),.bool (false),.int .u32 (0)]:List AV),.bool (false)]) ([some ⟨1,tb⟩]++(rows13 sl++[some ⟨1,([.int .i64 (0),.bool (false),.int .u32 (0)]:List AV)⟩])))∧
 (getB tb ((Int.toNat (n))*6+4)=false→
 decide ((0:Int)≤n)=true∧
 decide ((n:Int)<13)=true∧
 (isNilA tb (Int.toNat (n)+78)=true→
 False)∧
 (isNilA tb (Int.toNat (n)+78)=false→
 isPA 1 13 tb (Int.toNat (n)+78)=true∧
 Nat.beq (foA tb (Int.toNat (n)+78)) (0)=true∧
 leB (fkA 1 tb (Int.toNat (n)+78)+1) (13)=true∧
 rowsA sl (rp 13 sl)=true∧
 leB (fkA 1 tb (Int.toNat (n)+78)+1) (List.length sl)=true∧
 (rd) [.agg (rowA sl (fkA 1 tb (Int.toNat (n)+78)))]=true∧
 (tkOkU [.agg ((pu) [.agg (rowA sl (fkA 1 tb (Int.toNat (n)+78)))])]=true→
 (tkEndsU [.agg ((pu) [.agg (rowA sl (fkA 1 tb (Int.toNat (n)+78)))])]=true→
 rowsA (putA sl (fkA 1 tb (Int.toNat (n)+78)) (encRU [.agg (tkU [.agg ((pu) [.agg (rowA sl (fkA 1 tb (Int.toNat (n)+78)))])])])) [.agg (putA sl (fkA 1 tb (Int.toNat (n)+78)) (encRU [.agg (tkU [.agg ((pu) [.agg (rowA sl (fkA 1 tb (Int.toNat (n)+78)))])])])),.agg (putA sl (fkA 1 tb (Int.toNat (n)+78)) (encRU [.agg (tkU [.agg ((pu) [.agg (rowA sl (fkA 1 tb (Int.toNat (n)+78)))])])])),.agg (putA sl (fkA 1 tb (Int.toNat (n)+78)) (encRU [.agg (tkU [.agg ((pu) [.agg (rowA sl (fkA 1 tb (Int.toNat (n)+78)))])])])),.agg (putA sl (fkA 1 tb (Int.toNat (n)+78)) (encRU [.agg (tkU [.agg ((pu) [.agg (rowA sl (fkA 1 tb (Int.toNat (n)+78)))])])])),.agg (putA sl (fkA 1 tb (Int.toNat (n)+78)) (encRU [.agg (tkU [.agg ((pu) [.agg (rowA sl (fkA 1 tb (Int.toNat (n)+78)))])])])),.agg (putA sl (fkA 1 tb (Int.toNat (n)+78)) (encRU [.agg (tkU [.agg ((pu) [.agg (rowA sl (fkA 1 tb (Int.toNat (n)+78)))])])])),.agg (putA sl (fkA 1 tb (Int.toNat (n)+78)) (encRU [.agg (tkU [.agg ((pu) [.agg (rowA sl (fkA 1 tb (Int.toNat (n)+78)))])])])),.agg (putA sl (fkA 1 tb (Int.toNat (n)+78)) (encRU [.agg (tkU [.agg ((pu) [.agg (rowA sl (fkA 1 tb (Int.toNat (n)+78)))])])])),.agg (putA sl (fkA 1 tb (Int.toNat (n)+78)) (encRU [.agg (tkU [.agg ((pu) [.agg (rowA sl (fkA 1 tb (Int.toNat (n)+78)))])])])),.agg (putA sl (fkA 1 tb (Int.toNat (n)+78)) (encRU [.agg (tkU [.agg ((pu) [.agg (rowA sl (fkA 1 tb (Int.toNat (n)+78)))])])])),.agg (putA sl (fkA 1 tb (Int.toNat (n)+78)) (encRU [.agg (tkU [.agg ((pu) [.agg (rowA sl (fkA 1 tb (Int.toNat (n)+78)))])])])),.agg (putA sl (fkA 1 tb (Int.toNat (n)+78)) (encRU [.agg (tkU [.agg ((pu) [.agg (rowA sl (fkA 1 tb (Int.toNat (n)+78)))])])])),.agg (putA sl (fkA 1 tb (Int.toNat (n)+78)) (encRU [.agg (tkU [.agg ((pu) [.agg (rowA sl (fkA 1 tb (Int.toNat (n)+78)))])])]))]=true∧
 (okP2) [.agg tb,.agg (putA sl (fkA 1 tb (Int.toNat (n)+78)) (encRU [.agg (tkU [.agg ((pu) [.agg (rowA sl (fkA 1 tb (Int.toNat (n)+78)))])])]))]=true∧
 R (.tup [.agg ([.int .i64 (tkSigU [.agg ((pu) [.agg (rowA sl (fkA 1 tb (Int.toNat (n)+78)))])]),.bool (tkEndsU [.agg ((pu) [.agg (rowA sl (fkA 1 tb (Int.toNat (n)+78)))])]),.int .u32 (tkAtU [.agg ((pu) [.agg (rowA sl (fkA 1 tb (Int.toNat (n)+78)))])])]:List AV),.bool (tkOkU [.agg ((pu) [.agg (rowA sl (fkA 1 tb (Int.toNat (n)+78)))])])]) (([some ⟨1,((tabF tsR) [.int .i64 (16),.agg ((xX2 endX) [.agg ((xoP) [.agg tb,.agg (putA sl (fkA 1 tb (Int.toNat (n)+78)) (encRU [.agg (tkU [.agg ((pu) [.agg (rowA sl (fkA 1 tb (Int.toNat (n)+78)))])])]))]),.int .i64 (n),.int .i64 (IntKind.wrap .i64 (128+tkSigU [.agg ((pu) [.agg (rowA sl (fkA 1 tb (Int.toNat (n)+78)))])]))])])⟩,none,none,none,none,none,none,none,none,none,none,none,none,none,some ⟨1,([.int .i64 (tkSigU [.agg ((pu) [.agg (rowA sl (fkA 1 tb (Int.toNat (n)+78)))])]),.bool (tkEndsU [.agg ((pu) [.agg (rowA sl (fkA 1 tb (Int.toNat (n)+78)))])]),.int .u32 (tkAtU [.agg ((pu) [.agg (rowA sl (fkA 1 tb (Int.toNat (n)+78)))])])]:List AV)⟩,some ⟨1,([.int .i64 (tkSigU [.agg ((pu) [.agg (rowA sl (fkA 1 tb (Int.toNat (n)+78)))])]),.bool (tkEndsU [.agg ((pu) [.agg (rowA sl (fkA 1 tb (Int.toNat (n)+78)))])]),.int .u32 (tkAtU [.agg ((pu) [.agg (rowA sl (fkA 1 tb (Int.toNat (n)+78)))])])]:List AV)⟩]++setU ((xX2 endX) [.agg ((xoP) [.agg tb,.agg (putA sl (fkA 1 tb (Int.toNat (n)+78)) (encRU [.agg (tkU [.agg ((pu) [.agg (rowA sl (fkA 1 tb (Int.toNat (n)+78)))])])]))]),.int .i64 (n),.int .i64 (IntKind.wrap .i64 (128+tkSigU [.agg ((pu) [.agg (rowA sl (fkA 1 tb (Int.toNat (n)+78)))])]))]))))∧
 (tkEndsU [.agg ((pu) [.agg (rowA sl (fkA 1 tb (Int.toNat (n)+78)))])]=false→
 R (.tup [.agg ([.int .i64 (tkSigU [.agg ((pu) [.agg (rowA sl (fkA 1 tb (Int.toNat (n)+78)))])]),.bool (tkEndsU [.agg ((pu) [.agg (rowA sl (fkA 1 tb (Int.toNat (n)+78)))])]),.int .u32 (tkAtU [.agg ((pu) [.agg (rowA sl (fkA 1 tb (Int.toNat (n)+78)))])])]:List AV),.bool (tkOkU [.agg ((pu) [.agg (rowA sl (fkA 1 tb (Int.toNat (n)+78)))])])]) ([some ⟨1,tb⟩]++(rows13 (putA sl (fkA 1 tb (Int.toNat (n)+78)) (encRU [.agg (tkU [.agg ((pu) [.agg (rowA sl (fkA 1 tb (Int.toNat (n)+78)))])])]))++([some ⟨1,([.int .i64 (tkSigU [.agg ((pu) [.agg (rowA sl (fkA 1 tb (Int.toNat (n)+78)))])]),.bool (tkEndsU [.agg ((pu) [.agg (rowA sl (fkA 1 tb (Int.toNat (n)+78)))])]),.int .u32 (tkAtU [.agg ((pu) [.agg (rowA sl (fkA 1 tb (Int.toNat (n)+78)))])])]:List AV)⟩,some ⟨1,([.int .i64 (tkSigU [.agg ((pu) [.agg (rowA sl (fkA 1 tb (Int.toNat (n)+78)))])]),.bool (tkEndsU [.agg ((pu) [.agg (rowA sl (fkA 1 tb (Int.toNat (n)+78)))])]),.int .u32 (tkAtU [.agg ((pu) [.agg (rowA sl (fkA 1 tb (Int.toNat (n)+78)))])])]:List AV)⟩])))))∧
 (tkOkU [.agg ((pu) [.agg (rowA sl (fkA 1 tb (Int.toNat (n)+78)))])]=false→
 R (.tup [.agg ([.int .i64 (tkSigU [.agg ((pu) [.agg (rowA sl (fkA 1 tb (Int.toNat (n)+78)))])]),.bool (tkEndsU [.agg ((pu) [.agg (rowA sl (fkA 1 tb (Int.toNat (n)+78)))])]),.int .u32 (tkAtU [.agg ((pu) [.agg (rowA sl (fkA 1 tb (Int.toNat (n)+78)))])])]:List AV),.bool (tkOkU [.agg ((pu) [.agg (rowA sl (fkA 1 tb (Int.toNat (n)+78)))])])]) ([some ⟨1,tb⟩]++(rows13 (putA sl (fkA 1 tb (Int.toNat (n)+78)) (encRU [.agg (tkU [.agg ((pu) [.agg (rowA sl (fkA 1 tb (Int.toNat (n)+78)))])])]))++([some ⟨1,([.int .i64 (tkSigU [.agg ((pu) [.agg (rowA sl (fkA 1 tb (Int.toNat (n)+78)))])]),.bool (tkEndsU [.agg ((pu) [.agg (rowA sl (fkA 1 tb (Int.toNat (n)+78)))])]),.int .u32 (tkAtU [.agg ((pu) [.agg (rowA sl (fkA 1 tb (Int.toNat (n)+78)))])])]:List AV)⟩,some ⟨1,([.int .i64 (tkSigU [.agg ((pu) [.agg (rowA sl (fkA 1 tb (Int.toNat (n)+78)))])]),.bool (tkEndsU [.agg ((pu) [.agg (rowA sl (fkA 1 tb (Int.toNat (n)+78)))])]),.int .u32 (tkAtU [.agg ((pu) [.agg (rowA sl (fkA 1 tb (Int.toNat (n)+78)))])])]:List AV)⟩])))))))∧
 (((getI tb ((Int.toNat (n))*6):Int)==n)=false→
 R (.tup [.agg ([.int .i64 (0),.bool (false),.int .u32 (0)]:List AV),.bool (false)]) ([some ⟨1,tb⟩]++(rows13 sl++[some ⟨1,([.int .i64 (0),.bool (false),.int .u32 (0)]:List AV)⟩]))))∧
 (decide ((n:Int)≤12)=false→
 R (.tup [.agg ([.int .i64 (0),.bool (false),.int .u32 (0)]:List AV),.bool (false)]) ([some ⟨1,tb⟩]++(rows13 sl++[some ⟨1,([.int .i64 (0),.bool (false),.int .u32 (0)]:List AV)⟩]))))∧
 (decide ((n:Int)≥1)=false→
 R (.tup [.agg ([.int .i64 (0),.bool (false),.int .u32 (0)]:List AV),.bool (false)]) ([some ⟨1,tb⟩]++(rows13 sl++[some ⟨1,([.int .i64 (0),.bool (false),.int .u32 (0)]:List AV)⟩])))):=by kernel_rfl
end Go.Am
namespace Go.Am
open Go.Proofs Crc
set_option maxRecDepth 100000
theorem eu_l0 (G:Nat→List AV) (tb sl z:List AV) (n:Int) (i:Nat) (Q:Ex→List AV→Hp→Prop) (R:AV→Hp→Prop):vT G Q R (dloop (Dc Try.prog [] [] [] 0) 300 40 14 (loopN Try.f42 0) 117 [0,1,8] [.ptr (.rw 0) (.lit 0),.int .i64 (.var 3 n),.int .i64 (.ofN (.var 8 i))] (hp3 [some ⟨1,.var 1 tb⟩] (.var 2 sl) [some ⟨1,.var 23 z⟩]))=(
  (decide ((((i:Nat):Int):Int)≤12)=true→
 decide ((0:Int)≤((i:Nat):Int))=true∧
 decide ((((i:Nat):Int):Int)<13)=true∧
 isI .i64 tb ((i)*6)=true∧
 (((getI tb ((i)*6):Int)==((i:Nat):Int))=true→
 decide ((0:Int)≤((i:Nat):Int))=true∧
 decide ((((i:Nat):Int):Int)<13)=true∧
 isI .i64 tb ((i)*6+1)=true∧
 (((getI tb ((i)*6+1):Int)==n)=true→
 decide ((0:Int)≤((i:Nat):Int))=true∧
 decide ((((i:Nat):Int):Int)<13)=true∧
 leB ((i)*6+2) (List.length tb)=true∧
 Q .normal [.ptr (.rw 0) (0),.int .i64 (n),.int .i64 (IntKind.wrap .i64 (((i:Nat):Int)+1))] ([some ⟨1,(setPart tb ((i)*6+1) (.int .i64 (1)))⟩]++(rows13 sl++[some ⟨1,z⟩])))∧
 (((getI tb ((i)*6+1):Int)==n)=false→
 Q .normal [.ptr (.rw 0) (0),.int .i64 (n),.int .i64 (IntKind.wrap .i64 (((i:Nat):Int)+1))] ([some ⟨1,tb⟩]++(rows13 sl++[some ⟨1,z⟩]))))∧
 (((getI tb ((i)*6):Int)==((i:Nat):Int))=false→
 Q .normal [.ptr (.rw 0) (0),.int .i64 (n),.int .i64 (IntKind.wrap .i64 (((i:Nat):Int)+1))] ([some ⟨1,tb⟩]++(rows13 sl++[some ⟨1,z⟩]))))∧
 (decide ((((i:Nat):Int):Int)≤12)=false→
 Q (.exit 0) [.ptr (.rw 0) (0),.int .i64 (n),.int .i64 (((i:Nat):Int))] ([some ⟨1,tb⟩]++(rows13 sl++[some ⟨1,z⟩])))):=by kernel_rfl
theorem eu_l2 (G:Nat→List AV) (tb sl z:List AV) (i:Nat) (Q:Ex→List AV→Hp→Prop) (R:AV→Hp→Prop):vT G Q R (dloop (Dc Try.prog [69] [] [] 0) 300 40 14 (loopN Try.f42 1) 117 [0,9] [.ptr (.rw 0) (.lit 0),.int .i64 (.ofN (.var 8 i))] (hp3 [some ⟨1,.var 1 tb⟩] (.var 2 sl) [some ⟨1,.var 23 z⟩]))=(
  (decide ((((i:Nat):Int):Int)≤12)=true→
 isB tb (10)=true∧
 (getB tb (10)=true→
 decide ((0:Int)≤((i:Nat):Int))=true∧
 decide ((((i:Nat):Int):Int)<13)=true∧
 isI .i64 tb ((i)*6)=true∧
 (((getI tb ((i)*6):Int)==((i:Nat):Int))=true→
 decide ((0:Int)≤((i:Nat):Int))=true∧
 decide ((((i:Nat):Int):Int)<13)=true∧
 isB tb ((i)*6+4)=true∧
 (getB tb ((i)*6+4)=true→
 decide ((0:Int)≤((i:Nat):Int))=true∧
 decide ((((i:Nat):Int):Int)<13)=true∧
 isI .i64 tb ((i)*6+1)=true∧
 (((getI tb ((i)*6+1):Int)==1)=true→
 decide ((0:Int)≤((i:Nat):Int))=true∧
 decide ((((i:Nat):Int):Int)<13)=true∧
 leB ((i)*6+6) (List.length tb)=true∧
 decide ((0:Int)≤((i:Nat):Int))=true∧
 decide ((((i:Nat):Int):Int)<13)=true∧
 leB (i+79) (List.length (setPart tb ((i)*6) (.agg ([.int .i64 (0),.int .i64 (0),.int .i64 (0),.int .i64 (0),.bool (false),.int .i64 (0)]:List AV))))=true∧
 Q .normal [.ptr (.rw 0) (0),.int .i64 (IntKind.wrap .i64 (((i:Nat):Int)+1))] ([some ⟨1,(setPart (setPart tb ((i)*6) (.agg ([.int .i64 (0),.int .i64 (0),.int .i64 (0),.int .i64 (0),.bool (false),.int .i64 (0)]:List AV))) (i+78) (.nilp))⟩]++(rows13 sl++[some ⟨1,z⟩])))∧
 (((getI tb ((i)*6+1):Int)==1)=false→
 Q .normal [.ptr (.rw 0) (0),.int .i64 (IntKind.wrap .i64 (((i:Nat):Int)+1))] ([some ⟨1,tb⟩]++(rows13 sl++[some ⟨1,z⟩]))))∧
 (getB tb ((i)*6+4)=false→
 Q .normal [.ptr (.rw 0) (0),.int .i64 (IntKind.wrap .i64 (((i:Nat):Int)+1))] ([some ⟨1,tb⟩]++(rows13 sl++[some ⟨1,z⟩]))))∧
 (((getI tb ((i)*6):Int)==((i:Nat):Int))=false→
 Q .normal [.ptr (.rw 0) (0),.int .i64 (IntKind.wrap .i64 (((i:Nat):Int)+1))] ([some ⟨1,tb⟩]++(rows13 sl++[some ⟨1,z⟩]))))∧
 (getB tb (10)=false→
 Q (.exit 2) [.ptr (.rw 0) (0),.int .i64 (((i:Nat):Int))] ([some ⟨1,tb⟩]++(rows13 sl++[some ⟨1,z⟩]))))∧
 (decide ((((i:Nat):Int):Int)≤12)=false→
 Q (.exit 2) [.ptr (.rw 0) (0),.int .i64 (((i:Nat):Int))] ([some ⟨1,tb⟩]++(rows13 sl++[some ⟨1,z⟩])))):=by kernel_rfl
theorem eu_c (G:Nat→List AV) (rd rl rm:List AV→Bool) (pu:List AV→List AV) (tb sl z t2 t3:List AV) (n a:Int) (Q:Ex→List AV→Hp→Prop) (R:AV→Hp→Prop):vT G Q R (dcall (Df Try.prog [(75,1,13)] [67,60] [(68,fChildS (sideQ (rd) (pu)))] [DLat 2376 (rl) 0 117 [0,1,8] (.one (.exit 0) [.ptr (.rw 0) (.lit 0),.undef,.undef] (hp3 [some ⟨1,.var 21 t2⟩] (.var 2 sl) [some ⟨1,.var 23 z⟩])),DLat 2377 (rm) 2 117 [0,9] (.one (.exit 2) [.ptr (.rw 0) (.lit 0),.undef] (hp3 [some ⟨1,.var 26 t3⟩] (.var 2 sl) [some ⟨1,.var 23 z⟩]))] 14) 300 40 Try.f42 [.ptr (.rw 0) (.lit 0),.int .i64 (.var 3 n),.int .i64 (.var 4 a)] (hp3 [some ⟨1,.var 1 tb⟩] (.var 2 sl) []) 15)=(
  (decide ((n:Int)≥1)=true→
 (decide ((n:Int)≤12)=true→
 decide ((0:Int)≤n)=true∧
 decide ((n:Int)<13)=true∧
 isI .i64 tb ((Int.toNat (n))*6)=true∧
 (((getI tb ((Int.toNat (n))*6):Int)==n)=true→
 decide ((0:Int)≤n)=true∧
 decide ((n:Int)<13)=true∧
 isB tb ((Int.toNat (n))*6+4)=true∧
 (getB tb ((Int.toNat (n))*6+4)=true→
 R (.int .i64 (6)) ([some ⟨1,tb⟩]++rows13 sl))∧
 (getB tb ((Int.toNat (n))*6+4)=false→
 decide ((0:Int)≤n)=true∧
 decide ((n:Int)<13)=true∧
 leB ((Int.toNat (n))*6+5) (List.length tb)=true∧
 decide ((0:Int)≤n)=true∧
 decide ((n:Int)<13)=true∧
 leB ((Int.toNat (n))*6+6) (List.length (setPart tb ((Int.toNat (n))*6+4) (.bool (true))))=true∧
 decide ((0:Int)≤n)=true∧
 decide ((n:Int)<13)=true∧
 (isNilA (setPart (setPart tb ((Int.toNat (n))*6+4) (.bool (true))) ((Int.toNat (n))*6+5) (.int .i64 (Int.tmod (IntKind.wrap .i64 (Int.tmod (a) (256)+256)) (256)))) (Int.toNat (n)+78)=true→
 False)∧
 (isNilA (setPart (setPart tb ((Int.toNat (n))*6+4) (.bool (true))) ((Int.toNat (n))*6+5) (.int .i64 (Int.tmod (IntKind.wrap .i64 (Int.tmod (a) (256)+256)) (256)))) (Int.toNat (n)+78)=false→
 isPA 1 13 (setPart (setPart tb ((Int.toNat (n))*6+4) (.bool (true))) ((Int.toNat (n))*6+5) (.int .i64 (Int.tmod (IntKind.wrap .i64 (Int.tmod (a) (256)+256)) (256)))) (Int.toNat (n)+78)=true∧
 Nat.beq (foA (setPart (setPart tb ((Int.toNat (n))*6+4) (.bool (true))) ((Int.toNat (n))*6+5) (.int .i64 (Int.tmod (IntKind.wrap .i64 (Int.tmod (a) (256)+256)) (256)))) (Int.toNat (n)+78)) (0)=true∧
 leB (fkA 1 (setPart (setPart tb ((Int.toNat (n))*6+4) (.bool (true))) ((Int.toNat (n))*6+5) (.int .i64 (Int.tmod (IntKind.wrap .i64 (Int.tmod (a) (256)+256)) (256)))) (Int.toNat (n)+78)+1) (13)=true∧
 rowsA sl (rp 13 sl)=true∧
 leB (fkA 1 (setPart (setPart tb ((Int.toNat (n))*6+4) (.bool (true))) ((Int.toNat (n))*6+5) (.int .i64 (Int.tmod (IntKind.wrap .i64 (Int.tmod (a) (256)+256)) (256)))) (Int.toNat (n)+78)+1) (List.length sl)=true∧
 (rd) [.agg (rowA sl (fkA 1 (setPart (setPart tb ((Int.toNat (n))*6+4) (.bool (true))) ((Int.toNat (n))*6+5) (.int .i64 (Int.tmod (IntKind.wrap .i64 (Int.tmod (a) (256)+256)) (256)))) (Int.toNat (n)+78)))]=true∧
 decide ((0:Int)≤n)=true∧
 decide ((n:Int)<13)=true∧
 leB (Int.toNat (n)+79) (List.length (setPart (setPart tb ((Int.toNat (n))*6+4) (.bool (true))) ((Int.toNat (n))*6+5) (.int .i64 (Int.tmod (IntKind.wrap .i64 (Int.tmod (a) (256)+256)) (256)))))=true∧
 (rl) [.agg ([.ptr (.rw 0) (0),.int .i64 (n),.int .i64 (1)]:List AV),.agg ((tp3 [.tup [.int .i64 (1),.agg (setPart (setPart (setPart tb ((Int.toNat (n))*6+4) (.bool (true))) ((Int.toNat (n))*6+5) (.int .i64 (Int.tmod (IntKind.wrap .i64 (Int.tmod (a) (256)+256)) (256)))) (Int.toNat (n)+78) (.ptr (.rw 14) (0)))]] sl [.tup [.int .i64 (1),.agg (encRU [.agg (childU [.agg ((pu) [.agg (rowA sl (fkA 1 (setPart (setPart tb ((Int.toNat (n))*6+4) (.bool (true))) ((Int.toNat (n))*6+5) (.int .i64 (Int.tmod (IntKind.wrap .i64 (Int.tmod (a) (256)+256)) (256)))) (Int.toNat (n)+78)))])])])]]):List AV)]=true∧
 (rm) [.agg ([.ptr (.rw 0) (0),.int .i64 (1)]:List AV),.agg ((tp3 [.tup [.int .i64 (1),.agg t2]] sl [.tup [.int .i64 (1),.agg z]]):List AV)]=true∧
 R (.int .i64 (0)) ([some ⟨1,t3⟩]++(rows13 sl++[some ⟨1,z⟩])))))∧
 (((getI tb ((Int.toNat (n))*6):Int)==n)=false→
 R (.int .i64 (6)) ([some ⟨1,tb⟩]++rows13 sl)))∧
 (decide ((n:Int)≤12)=false→
 R (.int .i64 (6)) ([some ⟨1,tb⟩]++rows13 sl)))∧
 (decide ((n:Int)≥1)=false→
 R (.int .i64 (6)) ([some ⟨1,tb⟩]++rows13 sl))):=by kernel_rfl
end Go.Am
namespace Go.Am
open Go.Proofs Crc
set_option maxRecDepth 100000
theorem fu_b (G:Nat→List AV) (rd:List AV→Bool) (pu:List AV→List AV) (tb sl:List AV) (n:Int) (i:Nat) (Q:Ex→List AV→Hp→Prop) (R:AV→Hp→Prop):vT G Q R (dloop (Df Try.prog [(75,1,13)] [67,60] [(68,fChildS (sideQ (rd) (pu)))] [] 0) 300 40 14 (loopN Try.f41 0) 61 [0,1,4,5,7] [.ptr (.rw 0) (.lit 0),.int .i64 (.var 3 n),.int .i64 (.lit 0),.int .i64 (.lit 0),.int .i64 (.ofN (.var 8 i))] (hp3 [some ⟨1,.var 1 tb⟩] (.var 2 sl) []))=(
  (decide ((((i:Nat):Int):Int)≤12)=true→
 decide ((0:Int)≤((i:Nat):Int))=true∧
 decide ((((i:Nat):Int):Int)<13)=true∧
 isI .i64 tb ((i)*6)=true∧
 (((getI tb ((i)*6):Int)==0)=true→
 decide ((0:Int)≤n)=true∧
 decide ((n:Int)<13)=true∧
 isI .i64 tb ((Int.toNat (n))*6+2)=true∧
 decide ((0:Int)≤n)=true∧
 decide ((n:Int)<13)=true∧
 isI .i64 tb ((Int.toNat (n))*6+3)=true∧
 decide ((0:Int)≤((i:Nat):Int))=true∧
 decide ((((i:Nat):Int):Int)<13)=true∧
 leB ((i)*6+6) (List.length tb)=true∧
 decide ((0:Int)≤n)=true∧
 decide ((n:Int)<13)=true∧
 (isNilA (setPart tb ((i)*6) (.agg ([.int .i64 (((i:Nat):Int)),.int .i64 (n),.int .i64 (getI tb ((Int.toNat (n))*6+2)),.int .i64 (getI tb ((Int.toNat (n))*6+3)),.bool (false),.int .i64 (0)]:List AV))) (Int.toNat (n)+78)=true→
 False)∧
 (isNilA (setPart tb ((i)*6) (.agg ([.int .i64 (((i:Nat):Int)),.int .i64 (n),.int .i64 (getI tb ((Int.toNat (n))*6+2)),.int .i64 (getI tb ((Int.toNat (n))*6+3)),.bool (false),.int .i64 (0)]:List AV))) (Int.toNat (n)+78)=false→
 isPA 1 13 (setPart tb ((i)*6) (.agg ([.int .i64 (((i:Nat):Int)),.int .i64 (n),.int .i64 (getI tb ((Int.toNat (n))*6+2)),.int .i64 (getI tb ((Int.toNat (n))*6+3)),.bool (false),.int .i64 (0)]:List AV))) (Int.toNat (n)+78)=true∧
 Nat.beq (foA (setPart tb ((i)*6) (.agg ([.int .i64 (((i:Nat):Int)),.int .i64 (n),.int .i64 (getI tb ((Int.toNat (n))*6+2)),.int .i64 (getI tb ((Int.toNat (n))*6+3)),.bool (false),.int .i64 (0)]:List AV))) (Int.toNat (n)+78)) (0)=true∧
 leB (fkA 1 (setPart tb ((i)*6) (.agg ([.int .i64 (((i:Nat):Int)),.int .i64 (n),.int .i64 (getI tb ((Int.toNat (n))*6+2)),.int .i64 (getI tb ((Int.toNat (n))*6+3)),.bool (false),.int .i64 (0)]:List AV))) (Int.toNat (n)+78)+1) (13)=true∧
 rowsA sl (rp 13 sl)=true∧
 leB (fkA 1 (setPart tb ((i)*6) (.agg ([.int .i64 (((i:Nat):Int)),.int .i64 (n),.int .i64 (getI tb ((Int.toNat (n))*6+2)),.int .i64 (getI tb ((Int.toNat (n))*6+3)),.bool (false),.int .i64 (0)]:List AV))) (Int.toNat (n)+78)+1) (List.length sl)=true∧
 (rd) [.agg (rowA sl (fkA 1 (setPart tb ((i)*6) (.agg ([.int .i64 (((i:Nat):Int)),.int .i64 (n),.int .i64 (getI tb ((Int.toNat (n))*6+2)),.int .i64 (getI tb ((Int.toNat (n))*6+3)),.bool (false),.int .i64 (0)]:List AV))) (Int.toNat (n)+78)))]=true∧
 decide ((0:Int)≤((i:Nat):Int))=true∧
 decide ((((i:Nat):Int):Int)<13)=true∧
 leB (i+79) (List.length (setPart tb ((i)*6) (.agg ([.int .i64 (((i:Nat):Int)),.int .i64 (n),.int .i64 (getI tb ((Int.toNat (n))*6+2)),.int .i64 (getI tb ((Int.toNat (n))*6+3)),.bool (false),.int .i64 (0)]:List AV))))=true∧
 Q .ret [.ptr (.rw 0) (0),.int .i64 (n),.int .i64 (((i:Nat):Int)),.int .i64 (0),.int .i64 (((i:Nat):Int))] ([some ⟨1,(setPart (setPart tb ((i)*6) (.agg ([.int .i64 (((i:Nat):Int)),.int .i64 (n),.int .i64 (getI tb ((Int.toNat (n))*6+2)),.int .i64 (getI tb ((Int.toNat (n))*6+3)),.bool (false),.int .i64 (0)]:List AV))) (i+78) (.ptr (.rw 14) (0)))⟩]++(rows13 sl++([some ⟨1,(encRU [.agg (childU [.agg ((pu) [.agg (rowA sl (fkA 1 (setPart tb ((i)*6) (.agg ([.int .i64 (((i:Nat):Int)),.int .i64 (n),.int .i64 (getI tb ((Int.toNat (n))*6+2)),.int .i64 (getI tb ((Int.toNat (n))*6+3)),.bool (false),.int .i64 (0)]:List AV))) (Int.toNat (n)+78)))])])])⟩])))))∧
 (((getI tb ((i)*6):Int)==0)=false→
 Q .normal [.ptr (.rw 0) (0),.int .i64 (n),.int .i64 (0),.int .i64 (0),.int .i64 (IntKind.wrap .i64 (((i:Nat):Int)+1))] ([some ⟨1,tb⟩]++rows13 sl)))∧
 (decide ((((i:Nat):Int):Int)≤12)=false→
 Q (.exit 0) [.ptr (.rw 0) (0),.int .i64 (n),.int .i64 (0),.int .i64 (0),.int .i64 (((i:Nat):Int))] ([some ⟨1,tb⟩]++rows13 sl))):=by kernel_rfl
theorem fu_c (G:Nat→List AV) (rl:List AV→Bool) (tb sl tf z:List AV) (n:Int) (c:Nat) (fb:Bool) (Q:Ex→List AV→Hp→Prop) (R:AV→Hp→Prop):vT G Q R (dcall (Dc Try.prog [67,60] [] [DLat 2375 (rl) 0 61 [0,1,4,5,7] (.tst (.var 9 fb) (.one .ret [.undef,.undef,.int .i64 (.ofN (.var 6 c)),.int .i64 (.lit 0),.undef] (hp3 [some ⟨1,.var 21 tf⟩] (.var 2 sl) [some ⟨1,.var 23 z⟩])) (.one (.exit 0) [.undef,.undef,.int .i64 (.lit 0),.int .i64 (.lit 0),.undef] (hp3 [some ⟨1,.var 1 tb⟩] (.var 2 sl) [])))] 14) 300 40 Try.f41 [.ptr (.rw 0) (.lit 0),.int .i64 (.var 3 n)] (hp3 [some ⟨1,.var 1 tb⟩] (.var 2 sl) []) 15)=(
  (decide ((n:Int)≥1)=true→
 (decide ((n:Int)≤12)=true→
 decide ((0:Int)≤n)=true∧
 decide ((n:Int)<13)=true∧
 isI .i64 tb ((Int.toNat (n))*6)=true∧
 (((getI tb ((Int.toNat (n))*6):Int)==n)=true→
 decide ((0:Int)≤n)=true∧
 decide ((n:Int)<13)=true∧
 isB tb ((Int.toNat (n))*6+4)=true∧
 (getB tb ((Int.toNat (n))*6+4)=true→
 R (.tup [.int .i64 (0),.int .i64 (6)]) ([some ⟨1,tb⟩]++rows13 sl))∧
 (getB tb ((Int.toNat (n))*6+4)=false→
 (rl) [.agg ([.ptr (.rw 0) (0),.int .i64 (n),.int .i64 (0),.int .i64 (0),.int .i64 (1)]:List AV),.agg ((tp3 [.tup [.int .i64 (1),.agg tb]] sl []):List AV)]=true∧
 (fb=true→
 R (.tup [.int .i64 (((c:Nat):Int)),.int .i64 (0)]) ([some ⟨1,tf⟩]++(rows13 sl++[some ⟨1,z⟩])))∧
 (fb=false→
 R (.tup [.int .i64 (0),.int .i64 (5)]) ([some ⟨1,tb⟩]++rows13 sl))))∧
 (((getI tb ((Int.toNat (n))*6):Int)==n)=false→
 R (.tup [.int .i64 (0),.int .i64 (6)]) ([some ⟨1,tb⟩]++rows13 sl)))∧
 (decide ((n:Int)≤12)=false→
 R (.tup [.int .i64 (0),.int .i64 (6)]) ([some ⟨1,tb⟩]++rows13 sl)))∧
 (decide ((n:Int)≥1)=false→
 R (.tup [.int .i64 (0),.int .i64 (6)]) ([some ⟨1,tb⟩]++rows13 sl))):=by kernel_rfl
end Go.Am
