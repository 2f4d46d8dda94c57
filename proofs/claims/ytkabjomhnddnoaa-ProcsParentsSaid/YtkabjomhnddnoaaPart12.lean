/-
  Processes: the program's calls without loops. Processes: the program's Children: a round.
-/
import Derived.Test.YtkabjomhnddnoaaBase10
import Derived.Test.YtkabjomhnddnoaaPart11
import Derived.Test.YtkabjomhnddnoaaBase5
namespace Go.Am
open Go.Proofs Crc
set_option maxRecDepth 100000
theorem q28 (G:Nat→List AV) (tb sl:List AV) (n a:Int) (Q:Ex→List AV→Hp→Prop) (R:AV→Hp→Prop):vT G Q R (dcall (Df Try.prog [(48,1,13)] [36,38,39,20] [] [] 0) 300 20 Try.f28 [.ptr (.rw 0) (.lit 0),.int .i64 (.var 3 n),.int .i64 (.var 4 a)] (hp3 [some ⟨1,.var 1 tb⟩] (.var 2 sl) []) 14)=(
  isB tb (0)=true∧
 (getB tb (0)=true→
 isB tb (0)=true∧
 getB tb (0)=true∧
 (decide ((n:Int)≥1)=true→
 (decide ((n:Int)≤12)=true→
 decide ((0:Int)≤n)=true∧
 decide ((n:Int)<13)=true∧
 isI .i64 tb ((Int.toNat (n))*7+1)=true∧
 (((getI tb ((Int.toNat (n))*7+1):Int)==n)=true→
 decide ((0:Int)≤n)=true∧
 decide ((n:Int)<13)=true∧
 isB tb ((Int.toNat (n))*7+5)=true∧
 (getB tb ((Int.toNat (n))*7+5)=true→
 R (.int .i64 (6)) ([some ⟨1,tb⟩]++rows13 sl))∧
 (getB tb ((Int.toNat (n))*7+5)=false→
 (decide ((a:Int)<1)=true→
 R (.int .i64 (2)) ([some ⟨1,tb⟩]++rows13 sl))∧
 (decide ((a:Int)<1)=false→
 (decide ((a:Int)>12)=true→
 R (.int .i64 (2)) ([some ⟨1,tb⟩]++rows13 sl))∧
 (decide ((a:Int)>12)=false→
 decide ((0:Int)≤n)=true∧
 decide ((n:Int)<13)=true∧
 leB ((Int.toNat (n))*7+4) (List.length tb)=true∧
 R (.int .i64 (0)) ([some ⟨1,(setPart tb ((Int.toNat (n))*7+3) (.int .i64 (a)))⟩]++rows13 sl)))))∧
 (((getI tb ((Int.toNat (n))*7+1):Int)==n)=false→
 R (.int .i64 (6)) ([some ⟨1,tb⟩]++rows13 sl)))∧
 (decide ((n:Int)≤12)=false→
 R (.int .i64 (6)) ([some ⟨1,tb⟩]++rows13 sl)))∧
 (decide ((n:Int)≥1)=false→
 R (.int .i64 (6)) ([some ⟨1,tb⟩]++rows13 sl)))∧
 (getB tb (0)=false→
 R (.int .i64 (1)) ([some ⟨1,tb⟩]++rows13 sl))):=by kernel_rfl
theorem q32 (G:Nat→List AV) (tb sl:List AV) (n a:Int) (Q:Ex→List AV→Hp→Prop) (R:AV→Hp→Prop):vT G Q R (dcall (Df Try.prog [(48,1,13)] [36,38,39,20] [] [] 0) 300 20 Try.f32 [.ptr (.rw 0) (.lit 0),.int .i64 (.var 3 n),.int .i64 (.var 4 a)] (hp3 [some ⟨1,.var 1 tb⟩] (.var 2 sl) []) 14)=(
  isB tb (0)=true∧
 (getB tb (0)=true→
 isB tb (0)=true∧
 getB tb (0)=true∧
 (decide ((n:Int)≥1)=true→
 (decide ((n:Int)≤12)=true→
 decide ((0:Int)≤n)=true∧
 decide ((n:Int)<13)=true∧
 isI .i64 tb ((Int.toNat (n))*7+1)=true∧
 (((getI tb ((Int.toNat (n))*7+1):Int)==n)=true→
 decide ((0:Int)≤n)=true∧
 decide ((n:Int)<13)=true∧
 isB tb ((Int.toNat (n))*7+5)=true∧
 (getB tb ((Int.toNat (n))*7+5)=true→
 R (.int .i64 (6)) ([some ⟨1,tb⟩]++rows13 sl))∧
 (getB tb ((Int.toNat (n))*7+5)=false→
 (((a:Int)==IntKind.wrap .i64 (IntKind.wrap .u16 (a)))=true→
 decide ((0:Int)≤n)=true∧
 decide ((n:Int)<13)=true∧
 isI .i64 tb ((Int.toNat (n))*7+4)=true∧
 (((getI tb ((Int.toNat (n))*7+4):Int)==0)=true→
 decide ((0:Int)≤n)=true∧
 decide ((n:Int)<13)=true∧
 leB ((Int.toNat (n))*7+5) (List.length tb)=true∧
 R (.int .i64 (0)) ([some ⟨1,(setPart tb ((Int.toNat (n))*7+4) (.int .i64 (a)))⟩]++rows13 sl))∧
 (((getI tb ((Int.toNat (n))*7+4):Int)==0)=false→
 R (.int .i64 (8)) ([some ⟨1,tb⟩]++rows13 sl)))∧
 (((a:Int)==IntKind.wrap .i64 (IntKind.wrap .u16 (a)))=false→
 R (.int .i64 (2)) ([some ⟨1,tb⟩]++rows13 sl))))∧
 (((getI tb ((Int.toNat (n))*7+1):Int)==n)=false→
 R (.int .i64 (6)) ([some ⟨1,tb⟩]++rows13 sl)))∧
 (decide ((n:Int)≤12)=false→
 R (.int .i64 (6)) ([some ⟨1,tb⟩]++rows13 sl)))∧
 (decide ((n:Int)≥1)=false→
 R (.int .i64 (6)) ([some ⟨1,tb⟩]++rows13 sl)))∧
 (getB tb (0)=false→
 R (.int .i64 (1)) ([some ⟨1,tb⟩]++rows13 sl))):=by kernel_rfl
theorem q47 (G:Nat→List AV) (tb sl:List AV) (n a:Int) (Q:Ex→List AV→Hp→Prop) (R:AV→Hp→Prop):vT G Q R (dcall (Df Try.prog [(48,1,13)] [36,38,39,20] [(64,fMaskS sideP)] [] 0) 300 20 Try.f47 [.ptr (.rw 0) (.lit 0),.int .i64 (.var 3 n),.int .i64 (.var 4 a)] (hp3 [some ⟨1,.var 1 tb⟩] (.var 2 sl) []) 14)=(
  isB tb (0)=true∧
 (getB tb (0)=true→
 isB tb (0)=true∧
 getB tb (0)=true∧
 (decide ((n:Int)≥1)=true→
 (decide ((n:Int)≤12)=true→
 decide ((0:Int)≤n)=true∧
 decide ((n:Int)<13)=true∧
 isI .i64 tb ((Int.toNat (n))*7+1)=true∧
 (((getI tb ((Int.toNat (n))*7+1):Int)==n)=true→
 decide ((0:Int)≤n)=true∧
 decide ((n:Int)<13)=true∧
 isB tb ((Int.toNat (n))*7+5)=true∧
 (getB tb ((Int.toNat (n))*7+5)=true→
 R (.tup [.int .i64 (0),.int .i64 (6)]) ([some ⟨1,tb⟩]++rows13 sl))∧
 (getB tb ((Int.toNat (n))*7+5)=false→
 decide ((0:Int)≤n)=true∧
 decide ((n:Int)<13)=true∧
 (isNilA tb ((Int.toNat (n))*7+7)=true→
 False)∧
 (isNilA tb ((Int.toNat (n))*7+7)=false→
 isPA 1 13 tb ((Int.toNat (n))*7+7)=true∧
 Nat.beq (foA tb ((Int.toNat (n))*7+7)) (0)=true∧
 leB (fkA 1 tb ((Int.toNat (n))*7+7)+1) (13)=true∧
 rowsA sl (rp 13 sl)=true∧
 leB (fkA 1 tb ((Int.toNat (n))*7+7)+1) (List.length sl)=true∧
 okU [.agg (rowA sl (fkA 1 tb ((Int.toNat (n))*7+7)))]=true∧
 R (.tup [.int .i64 (heldU [.agg (rowA sl (fkA 1 tb ((Int.toNat (n))*7+7)))]),.int .i64 (0)]) ([some ⟨1,tb⟩]++rows13 (putA sl (fkA 1 tb ((Int.toNat (n))*7+7)) (maskU [.agg (rowA sl (fkA 1 tb ((Int.toNat (n))*7+7))),.int .i64 (a)]))))))∧
 (((getI tb ((Int.toNat (n))*7+1):Int)==n)=false→
 R (.tup [.int .i64 (0),.int .i64 (6)]) ([some ⟨1,tb⟩]++rows13 sl)))∧
 (decide ((n:Int)≤12)=false→
 R (.tup [.int .i64 (0),.int .i64 (6)]) ([some ⟨1,tb⟩]++rows13 sl)))∧
 (decide ((n:Int)≥1)=false→
 R (.tup [.int .i64 (0),.int .i64 (6)]) ([some ⟨1,tb⟩]++rows13 sl)))∧
 (getB tb (0)=false→
 R (.tup [.int .i64 (0),.int .i64 (1)]) ([some ⟨1,tb⟩]++rows13 sl))):=by kernel_rfl
theorem q49 (G:Nat→List AV) (tb sl:List AV) (n a q:Int) (Q:Ex→List AV→Hp→Prop) (R:AV→Hp→Prop):vT G Q R (dcall (Df Try.prog [(48,1,13)] [36,38,39,20] [(73,fHandleS sideP)] [] 0) 300 20 Try.f49 [.ptr (.rw 0) (.lit 0),.int .i64 (.var 3 n),.int .i64 (.var 4 a),.int .i64 (.var 5 q)] (hp3 [some ⟨1,.var 1 tb⟩] (.var 2 sl) []) 14)=(
  isB tb (0)=true∧
 (getB tb (0)=true→
 isB tb (0)=true∧
 getB tb (0)=true∧
 (decide ((n:Int)≥1)=true→
 (decide ((n:Int)≤12)=true→
 decide ((0:Int)≤n)=true∧
 decide ((n:Int)<13)=true∧
 isI .i64 tb ((Int.toNat (n))*7+1)=true∧
 (((getI tb ((Int.toNat (n))*7+1):Int)==n)=true→
 decide ((0:Int)≤n)=true∧
 decide ((n:Int)<13)=true∧
 isB tb ((Int.toNat (n))*7+5)=true∧
 (getB tb ((Int.toNat (n))*7+5)=true→
 R (.tup [.int .i64 (0),.int .i64 (6)]) ([some ⟨1,tb⟩]++rows13 sl))∧
 (getB tb ((Int.toNat (n))*7+5)=false→
 (decide ((a:Int)<0)=true→
 R (.tup [.int .i64 (0),.int .i64 (2)]) ([some ⟨1,tb⟩]++rows13 sl))∧
 (decide ((a:Int)<0)=false→
 (decide ((a:Int)>15)=true→
 R (.tup [.int .i64 (0),.int .i64 (2)]) ([some ⟨1,tb⟩]++rows13 sl))∧
 (decide ((a:Int)>15)=false→
 decide ((0:Int)≤n)=true∧
 decide ((n:Int)<13)=true∧
 (isNilA tb ((Int.toNat (n))*7+7)=true→
 False)∧
 (isNilA tb ((Int.toNat (n))*7+7)=false→
 isPA 1 13 tb ((Int.toNat (n))*7+7)=true∧
 Nat.beq (foA tb ((Int.toNat (n))*7+7)) (0)=true∧
 leB (fkA 1 tb ((Int.toNat (n))*7+7)+1) (13)=true∧
 rowsA sl (rp 13 sl)=true∧
 leB (fkA 1 tb ((Int.toNat (n))*7+7)+1) (List.length sl)=true∧
 okU [.agg (rowA sl (fkA 1 tb ((Int.toNat (n))*7+7)))]=true∧
 R (.tup [.int .i64 (handleVU [.agg (rowA sl (fkA 1 tb ((Int.toNat (n))*7+7))),.int .i64 (a),.int .i64 (q)]),.int .i64 (handleEU [.int .i64 (a),.int .i64 (q)])]) ([some ⟨1,tb⟩]++rows13 (putA sl (fkA 1 tb ((Int.toNat (n))*7+7)) (handleXU [.agg (rowA sl (fkA 1 tb ((Int.toNat (n))*7+7))),.int .i64 (a),.int .i64 (q)]))))))))∧
 (((getI tb ((Int.toNat (n))*7+1):Int)==n)=false→
 R (.tup [.int .i64 (0),.int .i64 (6)]) ([some ⟨1,tb⟩]++rows13 sl)))∧
 (decide ((n:Int)≤12)=false→
 R (.tup [.int .i64 (0),.int .i64 (6)]) ([some ⟨1,tb⟩]++rows13 sl)))∧
 (decide ((n:Int)≥1)=false→
 R (.tup [.int .i64 (0),.int .i64 (6)]) ([some ⟨1,tb⟩]++rows13 sl)))∧
 (getB tb (0)=false→
 R (.tup [.int .i64 (0),.int .i64 (1)]) ([some ⟨1,tb⟩]++rows13 sl))):=by kernel_rfl
theorem q16 (G:Nat→List AV) (tb sl:List AV) (n:Int) (Q:Ex→List AV→Hp→Prop) (R:AV→Hp→Prop):vT G Q R (dcall (Df Try.prog [(48,1,13)] [36,38,39,20] [] [] 0) 300 20 Try.f16 [.ptr (.rw 0) (.lit 0),.int .i64 (.var 3 n)] (hp3 [some ⟨1,.var 1 tb⟩] (.var 2 sl) []) 14)=(
  isB tb (0)=true∧
 (getB tb (0)=true→
 (decide ((n:Int)≥1)=true→
 (decide ((n:Int)≤12)=true→
 decide ((0:Int)≤n)=true∧
 decide ((n:Int)<13)=true∧
 isI .i64 tb ((Int.toNat (n))*7+1)=true∧
 (((getI tb ((Int.toNat (n))*7+1):Int)==n)=true→
 decide ((0:Int)≤n)=true∧
 decide ((n:Int)<13)=true∧
 leB ((Int.toNat (n))*7+7) (List.length tb)=true∧
 cellsB (subL tb ((Int.toNat (n))*7+1) (6))=true∧
 Nat.beq (List.length (subL tb ((Int.toNat (n))*7+1) (6))) (6)=true∧
 leB (6) (List.length (subL tb ((Int.toNat (n))*7+1) (6)))=true∧
 R (.tup [.agg (subL (subL tb ((Int.toNat (n))*7+1) (6)) (0) (6)),.bool (true)]) ([some ⟨1,tb⟩]++rows13 sl))∧
 (((getI tb ((Int.toNat (n))*7+1):Int)==n)=false→
 R (.tup [.agg ([.int .i64 (0),.int .i64 (0),.int .i64 (0),.int .i64 (0),.bool (false),.int .i64 (0)]:List AV),.bool (false)]) ([some ⟨1,tb⟩]++rows13 sl)))∧
 (decide ((n:Int)≤12)=false→
 R (.tup [.agg ([.int .i64 (0),.int .i64 (0),.int .i64 (0),.int .i64 (0),.bool (false),.int .i64 (0)]:List AV),.bool (false)]) ([some ⟨1,tb⟩]++rows13 sl)))∧
 (decide ((n:Int)≥1)=false→
 R (.tup [.agg ([.int .i64 (0),.int .i64 (0),.int .i64 (0),.int .i64 (0),.bool (false),.int .i64 (0)]:List AV),.bool (false)]) ([some ⟨1,tb⟩]++rows13 sl)))∧
 (getB tb (0)=false→
 R (.tup [.agg ([.int .i64 (0),.int .i64 (0),.int .i64 (0),.int .i64 (0),.bool (false),.int .i64 (0)]:List AV),.bool (false)]) ([some ⟨1,tb⟩]++rows13 sl))):=by kernel_rfl
theorem q20 (G:Nat→List AV) (tb sl:List AV) (n:Int) (Q:Ex→List AV→Hp→Prop) (R:AV→Hp→Prop):vT G Q R (dcall (Df Try.prog [(48,1,13)] [36,38,39,20] [] [] 0) 300 20 Try.f20 [.ptr (.rw 0) (.lit 0),.int .i64 (.var 3 n)] (hp3 [some ⟨1,.var 1 tb⟩] (.var 2 sl) []) 14)=(
  isB tb (0)=true∧
 (getB tb (0)=true→
 (decide ((n:Int)≥1)=true→
 (decide ((n:Int)≤12)=true→
 decide ((0:Int)≤n)=true∧
 decide ((n:Int)<13)=true∧
 isI .i64 tb ((Int.toNat (n))*7+1)=true∧
 (((getI tb ((Int.toNat (n))*7+1):Int)==n)=true→
 decide ((0:Int)≤n)=true∧
 decide ((n:Int)<13)=true∧
 isB tb ((Int.toNat (n))*7+5)=true∧
 R (.bool ((!(getB tb ((Int.toNat (n))*7+5))))) ([some ⟨1,tb⟩]++rows13 sl))∧
 (((getI tb ((Int.toNat (n))*7+1):Int)==n)=false→
 R (.bool (false)) ([some ⟨1,tb⟩]++rows13 sl)))∧
 (decide ((n:Int)≤12)=false→
 R (.bool (false)) ([some ⟨1,tb⟩]++rows13 sl)))∧
 (decide ((n:Int)≥1)=false→
 R (.bool (false)) ([some ⟨1,tb⟩]++rows13 sl)))∧
 (getB tb (0)=false→
 R (.bool (false)) ([some ⟨1,tb⟩]++rows13 sl))):=by kernel_rfl
theorem q22 (G:Nat→List AV) (tb sl:List AV) (n:Int) (Q:Ex→List AV→Hp→Prop) (R:AV→Hp→Prop):vT G Q R (dcall (Df Try.prog [(48,1,13)] [36,38,39,20] [(37,fCopyS sideP)] [] 0) 300 20 Try.f22 [.ptr (.rw 0) (.lit 0),.int .i64 (.var 3 n)] (hp3 [some ⟨1,.var 1 tb⟩] (.var 2 sl) []) 15)=(
  isB tb (0)=true∧
 (getB tb (0)=true→
 (decide ((n:Int)≥1)=true→
 (decide ((n:Int)≤12)=true→
 decide ((0:Int)≤n)=true∧
 decide ((n:Int)<13)=true∧
 isI .i64 tb ((Int.toNat (n))*7+1)=true∧
 (((getI tb ((Int.toNat (n))*7+1):Int)==n)=true→
 decide ((0:Int)≤n)=true∧
 decide ((n:Int)<13)=true∧
 (isNilA tb ((Int.toNat (n))*7+7)=true→
 False)∧
 (isNilA tb ((Int.toNat (n))*7+7)=false→
 isPA 1 13 tb ((Int.toNat (n))*7+7)=true∧
 Nat.beq (foA tb ((Int.toNat (n))*7+7)) (0)=true∧
 leB (fkA 1 tb ((Int.toNat (n))*7+7)+1) (13)=true∧
 rowsA sl (rp 13 sl)=true∧
 leB (fkA 1 tb ((Int.toNat (n))*7+7)+1) (List.length sl)=true∧
 okU [.agg (rowA sl (fkA 1 tb ((Int.toNat (n))*7+7)))]=true∧
 R (.ptr (.rw 14) (0)) ([some ⟨1,tb⟩]++(rows13 sl++[some ⟨1,(rowA sl (fkA 1 tb ((Int.toNat (n))*7+7)))⟩]))))∧
 (((getI tb ((Int.toNat (n))*7+1):Int)==n)=false→
 R (.nilp) ([some ⟨1,tb⟩]++rows13 sl)))∧
 (decide ((n:Int)≤12)=false→
 R (.nilp) ([some ⟨1,tb⟩]++rows13 sl)))∧
 (decide ((n:Int)≥1)=false→
 R (.nilp) ([some ⟨1,tb⟩]++rows13 sl)))∧
 (getB tb (0)=false→
 R (.nilp) ([some ⟨1,tb⟩]++rows13 sl))):=by kernel_rfl
theorem hT (G:Nat→List AV) (s:Ptb):vHp G (hp3 [some ⟨1,.var 1 (encT 1 s)⟩] (.var 2 (setsL encP s)) [])=can tsP s:=hp_can (t:=tsP) (s:=s)
theorem isP_tree (b:Nat) {s:Ptb} {n:Int} {A B:Prop} (h1:isP s n=true→A) (h2:isP s n=false→B) :
  (decide (n≥1)=true→(decide (n≤12)=true→decide ((0:Int)≤n)=true∧decide ((n:Int)<13)=true∧isI .i64 (encT b s) (n.toNat*7+1)=true∧((getI (encT b s) (n.toNat*7+1)==n)=true→A)∧((getI (encT b s) (n.toNat*7+1)==n)=false→B))∧(decide (n≤12)=false→B))∧(decide (n≥1)=false→B):=by
 have ff:¬(1≤n∧n≤12∧(s.at_ n.toNat).num=n)→isP s n=false:=fun h=>by
  cases e:isP s n with
  | false=>rfl
  | true=>exact absurd (isP_iff.1 e) h
 refine ⟨fun a1=>⟨fun a2=>?_,fun a2=>h2 (ff fun h=>?_)⟩,fun a1=>h2 (ff fun h=>?_)⟩
 ·have a1:=of_decide_eq_true a1
  have a2:=of_decide_eq_true a2
  have t:=T_num (b:=b) (s:=s) (n:=n.toNat) (by omega)
  refine ⟨decide_eq_true (by omega),decide_eq_true (by omega),t.1,fun h=>h1 (isP_iff.2 ⟨by omega,a2,?_⟩),fun h=>h2 (ff fun h'=>?_)⟩
  ·rw [t.2] at h;exact eq_of_beq h
  ·rw [t.2,h'.2.2,beq_self_eq_true] at h;cases h
 ·have:=of_decide_eq_false a2;omega
 ·have:=of_decide_eq_false a1;omega
theorem live_tree (b:Nat) {s:Ptb} {n:Int} {A B:Prop} (h1:live s n=true→A) (h2:live s n=false→B) :
  (decide (n≥1)=true→(decide (n≤12)=true→decide ((0:Int)≤n)=true∧decide ((n:Int)<13)=true∧isI .i64 (encT b s) (n.toNat*7+1)=true∧
   ((getI (encT b s) (n.toNat*7+1)==n)=true→decide ((0:Int)≤n)=true∧decide ((n:Int)<13)=true∧isB (encT b s) (n.toNat*7+5)=true∧(getB (encT b s) (n.toNat*7+5)=true→B)∧(getB (encT b s) (n.toNat*7+5)=false→A))∧
   ((getI (encT b s) (n.toNat*7+1)==n)=false→B))∧(decide (n≤12)=false→B))∧(decide (n≥1)=false→B):=by
 refine isP_tree b (fun h=>?_) fun h=>h2 (by unfold live;rw [h];rfl)
 obtain ⟨a1,a2,a3⟩:=isP_iff.1 h
 have t:=T_en (b:=b) (s:=s) (n:=n.toNat) (by omega)
 refine ⟨decide_eq_true (by omega),decide_eq_true (by omega),t.1,fun h'=>h2 ?_,fun h'=>h1 ?_⟩
 ·rw [t.2] at h';unfold live;rw [h,h'];rfl
 ·rw [t.2] at h';unfold live;rw [h,h'];rfl
theorem dgM {G:Nat→List AV} {B:Nat} {fn:Func} {sums:List (Nat×DSum)} (h:loopsOf (bodyOf fn)=[]) (hs:DSumsOk (⟨Try.prog,G,B⟩:Ctx) sums):DGood (⟨Try.prog,G,B⟩:Ctx) (Df Try.prog [(48,1,13)] [36,38,39,20] sums [] 0) (loopsOf (bodyOf fn)):=by
 rw [h];exact dgoodf (mix G B) (by kernel_rfl) hs .nil
theorem m_stay (G : Nat → List AV) (B : Nat) {f : FuncId} {fn : Func} {sums : List (Nat × DSum)} {s s' : Ptb} {rest : List EV} {v : AV} (hl : loopsOf (bodyOf fn) = []) (hs : DSumsOk (⟨Try.prog, G, B⟩ : Ctx) sums) (hf : Try.prog.funcs[f]? = some fn) (hb : fn.body = some (bodyOf fn)) (hn : (fn.name == "runtime.NumGoroutine") = false) (hv : bnd 0 v = true)
  (h:vT G (fun _ _ _=>False) (fun v' H'=>v'=v∧Seen tsP s' 13 H') (dcall (Df Try.prog [(48,1,13)] [36,38,39,20] sums [] 0) 300 20 fn (.ptr (.rw 0) (.lit 0)::rest) (hp3 [some ⟨1,.var 1 (encT 1 s)⟩] (.var 2 (setsL encP s)) []) 14)) :
  ACalls (⟨Try.prog,G,B⟩:Ctx) f (.ptr (.rw 0) 0::vVs G rest) (can tsP s) fun v' H'=>v'=v∧H'=can tsP s':=by
 have:=dcall_ok (C:=(⟨Try.prog,G,B⟩:Ctx)) (f:=f) (R:=fun v' H'=>v'=v∧Seen tsP s' 13 H') (dgM (B:=B) hl hs) hf hb hn h
 rw [hT] at this
 exact pm_stay tsP_ok this hv
theorem seen_same {s:Ptb}:Seen tsP s 13 (some ⟨1,encT 1 s⟩::(List.range 13).map fun n=>some ⟨1,rowA (setsL encP s) n⟩):=seen_rows (t:=tsP) rfl tsP_ok (sets_same (t:=tsP) (s:=s) fun _ _ h=>h)
theorem seen_updC {s:Ptb} {c:Nat} {x:Pc} {l:List AV} (h:l=encT 1 (updC s c x)):Seen tsP (updC s c x) 13 (some ⟨1,l⟩::(List.range 13).map fun n=>some ⟨1,rowA (setsL encP s) n⟩):=seen_rows (t:=tsP) h tsP_ok (sets_same (t:=tsP) (s:=s) fun _ _ h=>h)
theorem seen_updS {s:Ptb} {c:Nat} {q p:Sg} {l:List AV} (hp:s.sg c=some p) (hl:l=encP q):Seen tsP (updS s c (some q)) 13 (some ⟨1,encT 1 s⟩::(List.range 13).map fun n=>some ⟨1,rowA (putA (setsL encP s) c l) n⟩):=by
 subst hl
 refine seen_rows (t:=tsP) ?_ tsP_ok (sets_put (t:=tsP))
 show encV (ptrs 1 s) s=encV (ptrs 1 (updS s c (some q))) s
 rw [ptrs_updS hp]
theorem p_group (G:Nat→List AV) (B:Nat) {s:Ptb} (n a:Int):ACalls (⟨Try.prog,G,B⟩:Ctx) 28 [.ptr (.rw 0) 0,.int .i64 n,.int .i64 a] (can tsP s) fun v H'=>v=.int .i64 (groupE s n a)∧H'=can tsP (groupX s n a):=by
 refine m_stay G B (fn:=Try.f28) (rest:=[.int .i64 (.var 3 n),.int .i64 (.var 4 a)]) (by kernel_rfl) .nil (by kernel_rfl) (by kernel_rfl) (by kernel_rfl) rfl ?_
 rw [q28]
 refine ⟨rfl,fun _=>⟨rfl,rfl,live_tree 1 (fun hl=>?_) fun hl=>?_⟩,fun h=>by cases h⟩
 ·have h:=live_iff.1 hl
  refine ⟨fun h1=>?_,fun h1=>⟨fun h2=>?_,fun h2=>⟨decide_eq_true (by omega),decide_eq_true (by omega),leB_iff.2 (by rw [encT_len];omega),?_⟩⟩⟩
  ·have h1:=of_decide_eq_true h1
   unfold groupE groupX
   rw [if_pos hl,if_pos hl,if_pos (by omega),if_pos (by omega)];exact ⟨rfl,seen_same⟩
  ·have h2:=of_decide_eq_true h2
   unfold groupE groupX
   rw [if_pos hl,if_pos hl,if_pos (by omega),if_pos (by omega)];exact ⟨rfl,seen_same⟩
  ·have h1:=of_decide_eq_false h1
   have h2:=of_decide_eq_false h2
   unfold groupE groupX
   rw [if_pos hl,if_pos hl,if_neg (by omega),if_neg (by omega)]
   exact ⟨rfl,seen_updC (T_set (k:=2) (by omega) (by intro l h;cases h) (fun j hj=>by
    match j,hj with
    | 0,_ | 1,_ | 2,_ | 3,_ | 4,_ | 5,_ | 6,_=>rfl))⟩
 ·unfold groupE groupX
  rw [hl];exact ⟨rfl,seen_same⟩
theorem fam_facts {s:Ptb} {n:Nat} {p:Sg} (hn:n<13) (hp:s.sg n=some p):isNilA (encT 1 s) (n*7+7)=false∧isPA 1 13 (encT 1 s) (n*7+7)=true∧fkA 1 (encT 1 s) (n*7+7)=n∧foA (encT 1 s) (n*7+7)=0∧rowA (setsL encP s) n=encP p:=by
 have h:=T_ptr (b:=1) (s:=s) hn
 have e:=ptr_fam hn h (by rw [hp];rfl)
 exact ⟨by rw [ptr_nil h,hp];rfl,e.1,e.2.1,e.2.2,by rw [rowA_sets hn,hp];rfl⟩
theorem u16_in {a:Int}:(a==IntKind.wrap .i64 (IntKind.wrap .u16 a))=decide (0≤a∧a≤65535):=by
 have e:IntKind.wrap .u16 a=a % 65536:=rfl
 rw [e,i64_in (by omega),Bool.eq_iff_iff,beq_iff_eq,decide_eq_true_iff]
 omega
theorem p_user (G:Nat→List AV) (B:Nat) {s:Ptb} (n a:Int):ACalls (⟨Try.prog,G,B⟩:Ctx) 32 [.ptr (.rw 0) 0,.int .i64 n,.int .i64 a] (can tsP s) fun v H'=>v=.int .i64 (userE s n a)∧H'=can tsP (userX s n a):=by
 refine m_stay G B (fn:=Try.f32) (rest:=[.int .i64 (.var 3 n),.int .i64 (.var 4 a)]) (by kernel_rfl) .nil (by kernel_rfl) (by kernel_rfl) (by kernel_rfl) rfl ?_
 rw [q32,u16_in]
 refine ⟨rfl,fun _=>⟨rfl,rfl,live_tree 1 (fun hl=>?_) fun hl=>?_⟩,fun h=>by cases h⟩
 ·have h:=live_iff.1 hl
  have t:=T_usr (b:=1) (s:=s) (n:=n.toNat) (by omega)
  refine ⟨fun h1=>⟨decide_eq_true (by omega),decide_eq_true (by omega),t.1,fun h2=>⟨decide_eq_true (by omega),decide_eq_true (by omega),leB_iff.2 (by rw [encT_len];omega),?_⟩,fun h2=>?_⟩,fun h1=>?_⟩
  ·have h1:=of_decide_eq_true h1
   rw [t.2] at h2
   have h2:=eq_of_beq h2
   unfold userE userX
   have hr:¬(a<0∨65535<a):=by omega
   rw [if_pos hl,if_pos hl,if_neg hr,if_neg hr,if_pos h2,if_pos h2]
   exact ⟨rfl,seen_updC (T_set (k:=3) (by omega) (by intro l h;cases h) (fun j hj=>by
    match j,hj with
    | 0,_ | 1,_ | 2,_ | 3,_ | 4,_ | 5,_ | 6,_=>rfl))⟩
  ·have h1:=of_decide_eq_true h1
   rw [t.2] at h2
   have h2:¬(s.at_ n.toNat).usr=0:=fun e=>by rw [e] at h2;cases h2
   unfold userE userX
   have hr:¬(a<0∨65535<a):=by omega
   rw [if_pos hl,if_pos hl,if_neg hr,if_neg hr,if_neg h2,if_neg h2]
   exact ⟨rfl,seen_same⟩
  ·have h1:=of_decide_eq_false h1
   unfold userE userX
   rw [if_pos hl,if_pos hl,if_pos (by omega),if_pos (by omega)];exact ⟨rfl,seen_same⟩
 ·unfold userE userX
  rw [hl];exact ⟨rfl,seen_same⟩
theorem p_maskM (G:Nat→List AV) (B:Nat) {s:Ptb} (hw:Wf s) (n a:Int):ACalls (⟨Try.prog,G,B⟩:Ctx) 47 [.ptr (.rw 0) 0,.int .i64 n,.int .i64 a] (can tsP s) fun v H'=>v=.tup [.int .i64 (maskV s n),.int .i64 (askE s n)]∧H'=can tsP (maskX s n a):=by
 refine m_stay G B (fn:=Try.f47) (rest:=[.int .i64 (.var 3 n),.int .i64 (.var 4 a)]) (by kernel_rfl) (.cons (fMaskS_ok (sideP_ok G) (p_mask G B)) .nil) (by kernel_rfl) (by kernel_rfl) (by kernel_rfl) rfl ?_
 rw [q47]
 refine ⟨rfl,fun _=>⟨rfl,rfl,live_tree 1 (fun hl=>?_) fun hl=>?_⟩,fun h=>by cases h⟩
 ·have h:=live_iff.1 hl
  have hi:isP s n=true:=isP_iff.2 ⟨h.1,h.2.1,h.2.2.1⟩
  obtain ⟨p,hp⟩:=hw.live_sg hi
  obtain ⟨e1,e2,e3,e4,e5⟩:=fam_facts (by omega) hp
  have ed:sgD s n.toNat=p:=by unfold sgD;rw [hp];rfl
  refine ⟨decide_eq_true (by omega),decide_eq_true (by omega),(fun h=>by rw [e1] at h;cases h),fun _=>?_⟩
  rw [e3,e4,e5]
  refine ⟨e2,rfl,leB_iff.2 (by omega),rowsA_same _ 13,leB_iff.2 (by rw [setsL_len];omega),okU_enc p,?_⟩
  unfold maskV askE maskX
  rw [if_pos hl,if_pos hl,if_pos hl,ed,heldU_enc]
  exact ⟨rfl,seen_updS hp (maskU_enc p a)⟩
 ·unfold maskV askE maskX
  rw [hl];exact ⟨rfl,seen_same⟩
theorem p_handleM (G:Nat→List AV) (B:Nat) {s:Ptb} (hw:Wf s) (n a q:Int):ACalls (⟨Try.prog,G,B⟩:Ctx) 49 [.ptr (.rw 0) 0,.int .i64 n,.int .i64 a,.int .i64 q] (can tsP s) fun v H'=>v=.tup [.int .i64 (handV s n a q),.int .i64 (handE s n a q)]∧H'=can tsP (handX s n a q):=by
 refine m_stay G B (fn:=Try.f49) (rest:=[.int .i64 (.var 3 n),.int .i64 (.var 4 a),.int .i64 (.var 5 q)]) (by kernel_rfl) (.cons (fHandleS_ok (sideP_ok G) (p_handle G B)) .nil) (by kernel_rfl) (by kernel_rfl) (by kernel_rfl) rfl ?_
 rw [q49]
 refine ⟨rfl,fun _=>⟨rfl,rfl,live_tree 1 (fun hl=>?_) fun hl=>?_⟩,fun h=>by cases h⟩
 ·have h:=live_iff.1 hl
  have hi:isP s n=true:=isP_iff.2 ⟨h.1,h.2.1,h.2.2.1⟩
  obtain ⟨p,hp⟩:=hw.live_sg hi
  obtain ⟨e1,e2,e3,e4,e5⟩:=fam_facts (by omega) hp
  have ed:sgD s n.toNat=p:=by unfold sgD;rw [hp];rfl
  refine ⟨fun h1=>?_,fun h1=>⟨fun h2=>?_,fun h2=>⟨decide_eq_true (by omega),decide_eq_true (by omega),(fun h=>by rw [e1] at h;cases h),fun _=>?_⟩⟩⟩
  ·have h1:=of_decide_eq_true h1
   unfold handV handE handX
   rw [if_pos hl,if_pos hl,if_pos hl,if_pos (by omega),if_pos (by omega),if_pos (by omega)];exact ⟨rfl,seen_same⟩
  ·have h2:=of_decide_eq_true h2
   unfold handV handE handX
   rw [if_pos hl,if_pos hl,if_pos hl,if_pos (by omega),if_pos (by omega),if_pos (by omega)];exact ⟨rfl,seen_same⟩
  ·have h1:=of_decide_eq_false h1
   have h2:=of_decide_eq_false h2
   rw [e3,e4,e5]
   refine ⟨e2,rfl,leB_iff.2 (by omega),rowsA_same _ 13,leB_iff.2 (by rw [setsL_len];omega),okU_enc p,?_⟩
   unfold handV handE handX
   have hr:¬(a<0∨15<a):=by omega
   rw [if_pos hl,if_pos hl,if_pos hl,if_neg hr,if_neg hr,if_neg hr,ed]
   refine ⟨?_,seen_updS hp (by simp only [handleXU,decP_enc])⟩
   simp only [handleVU,handleEU,decP_enc]
 ·unfold handV handE handX
  rw [hl];exact ⟨rfl,seen_same⟩
theorem p_tell (G:Nat→List AV) (B:Nat) {s:Ptb} (n:Int):ACalls (⟨Try.prog,G,B⟩:Ctx) 16 [.ptr (.rw 0) 0,.int .i64 n] (can tsP s) fun v H'=>v=.tup [.agg (rowU (tellX s n)),.bool (isP s n)]∧H'=can tsP s:=by
 refine m_stay G B (fn:=Try.f16) (rest:=[.int .i64 (.var 3 n)]) (by kernel_rfl) .nil (by kernel_rfl) (by kernel_rfl) (by kernel_rfl) rfl ?_
 rw [q16]
 refine ⟨rfl,fun _=>isP_tree 1 (fun hl=>?_) fun hl=>?_,fun h=>by cases h⟩
 ·have h:=isP_iff.1 hl
  have e:subL (encT 1 s) (n.toNat*7+1) 6=rowU (s.at_ n.toNat):=by
   have r:=T_row (b:=1) (s:=s) (n:=n.toNat) (by omega)
   have:subL (encT 1 s) (n.toNat*7+1) 6=(subL (encT 1 s) (n.toNat*7+1) 7).take 6:=by unfold subL;rw [List.take_take];rfl
   rw [this,r];rfl
  rw [e]
  refine ⟨decide_eq_true (by omega),decide_eq_true (by omega),leB_iff.2 (by rw [encT_len];omega),rfl,rfl,rfl,?_⟩
  unfold tellX
  rw [if_pos hl,hl]
  exact ⟨rfl,seen_same⟩
 ·unfold tellX
  rw [hl];exact ⟨rfl,seen_same⟩
theorem p_lives (G:Nat→List AV) (B:Nat) {s:Ptb} (n:Int):ACalls (⟨Try.prog,G,B⟩:Ctx) 20 [.ptr (.rw 0) 0,.int .i64 n] (can tsP s) fun v H'=>v=.bool (live s n)∧H'=can tsP s:=by
 refine m_stay G B (fn:=Try.f20) (rest:=[.int .i64 (.var 3 n)]) (by kernel_rfl) .nil (by kernel_rfl) (by kernel_rfl) (by kernel_rfl) rfl ?_
 rw [q20]
 refine ⟨rfl,fun _=>isP_tree 1 (fun hl=>?_) fun hl=>?_,fun h=>by cases h⟩
 ·have h:=isP_iff.1 hl
  have t:=T_en (b:=1) (s:=s) (n:=n.toNat) (by omega)
  refine ⟨decide_eq_true (by omega),decide_eq_true (by omega),t.1,?_⟩
  rw [t.2]
  unfold live
  rw [hl]
  exact ⟨rfl,seen_same⟩
 ·unfold live
  rw [hl];exact ⟨rfl,seen_same⟩
end Go.Am
namespace Go.Am
open Go.Proofs Crc
set_option maxRecDepth 100000
def HKd (T S Z:EL) (n:EI) (c:EN) (rc ys:EL):DHp:=[some ⟨1,T⟩,some ⟨1,.row S (.lit 0)⟩,some ⟨1,.row S (.lit 1)⟩,some ⟨1,.row S (.lit 2)⟩,some ⟨1,.row S (.lit 3)⟩,some ⟨1,.row S (.lit 4)⟩,some ⟨1,.row S (.lit 5)⟩,some ⟨1,.row S (.lit 6)⟩,some ⟨1,.row S (.lit 7)⟩,some ⟨1,.row S (.lit 8)⟩,some ⟨1,.row S (.lit 9)⟩,some ⟨1,.row S (.lit 10)⟩,some ⟨1,.row S (.lit 11)⟩,some ⟨1,.row S (.lit 12)⟩,some ⟨1,Z⟩,some ⟨1,.of [.int .i64 n]⟩,some ⟨1,.of [.slice true (.rw 19) (.lit 0) c]⟩,some ⟨1,.of [.ptr (.rw 0) (.lit 0)]⟩,some ⟨4294967291,rc⟩,some ⟨1,ys⟩]
theorem k_as (G:Nat→List AV) (tb sl z rc ys xr:List AV) (n:Int) (c:Nat) (x0 x1 x2 x3:Int) (xb:Bool) (x5:Int) (Q:Ex→List AV→Hp→Prop) (R:AV→Hp→Prop):vT G Q R (dloop (Dc Try.prog [] [] [] 0) 200 60 21 (rgA (loopN Try.f31 0)) 24 [3,5,8,9,6] [.ptr (.rw 15) (.lit 0),.ptr (.rw 16) (.lit 0),.func 76 [.ptr (.rw 17) (.lit 0)],.agg (.of [.int .i64 (.var 11 x0),.int .i64 (.var 12 x1),.int .i64 (.var 13 x2),.int .i64 (.var 14 x3),.bool (.var 15 xb),.int .i64 (.var 16 x5)]),.undef] ((HKd (.var 1 tb) (.var 2 sl) (.var 5 z) (.var 3 n) (.var 4 c) (.var 24 rc) (.var 22 ys))++[some ⟨1,.var 23 xr⟩]))=(
  Q .normal [.ptr (.rw 15) (0),.ptr (.rw 16) (0),.func 76 [.ptr (.rw 17) (0)],.agg ([.int .i64 (x0),.int .i64 (x1),.int .i64 (x2),.int .i64 (x3),.bool (xb),.int .i64 (x5)]:List AV),.ptr (.rw 21) (0)] ([some ⟨1,tb⟩]++(rows13 sl++[some ⟨1,z⟩,some ⟨1,([.int .i64 (n)]:List AV)⟩,some ⟨1,([.slice true (.rw 19) (0) (c)]:List AV)⟩,some ⟨1,([.ptr (.rw 0) (0)]:List AV)⟩,some ⟨4294967291,rc⟩,some ⟨1,ys⟩,some ⟨1,xr⟩,some ⟨1,([.int .i64 (x0),.int .i64 (x1),.int .i64 (x2),.int .i64 (x3),.bool (xb),.int .i64 (x5)]:List AV)⟩]))):=by kernel_rfl
theorem k_bd (G:Nat→List AV) (tb sl z rc ys xr:List AV) (n:Int) (c:Nat) (x0 x1 x2 x3:Int) (xb:Bool) (x5:Int) (Q:Ex→List AV→Hp→Prop) (R:AV→Hp→Prop):vT G Q R (dloop (Dc Try.prog [] [] [] 0) 300 60 21 (rgB (loopN Try.f31 0)) 24 [3,5,8,9,6] [.ptr (.rw 15) (.lit 0),.ptr (.rw 16) (.lit 0),.func 76 [.ptr (.rw 17) (.lit 0)],.agg (.of [.int .i64 (.var 11 x0),.int .i64 (.var 12 x1),.int .i64 (.var 13 x2),.int .i64 (.var 14 x3),.bool (.var 15 xb),.int .i64 (.var 16 x5)]),.ptr (.rw 21) (.lit 0)] (((HKd (.var 1 tb) (.var 2 sl) (.var 5 z) (.var 3 n) (.var 4 c) (.var 24 rc) (.var 22 ys))++[some ⟨1,.var 23 xr⟩])++[some ⟨1,(.of [.int .i64 (.var 11 x0),.int .i64 (.var 12 x1),.int .i64 (.var 13 x2),.int .i64 (.var 14 x3),.bool (.var 15 xb),.int .i64 (.var 16 x5)])⟩]))=(
  (decide ((n:Int)≥1)=true→
 (((x1:Int)==n)=true→
 leB ((c+1)*8) (140737488355328)=true∧
 Nat.beq (List.length ys) (c)=true∧
 Q .normal [.ptr (.rw 15) (0),.ptr (.rw 16) (0),.func 76 [.ptr (.rw 17) (0)],.agg ([.int .i64 (x0),.int .i64 (x1),.int .i64 (x2),.int .i64 (x3),.bool (xb),.int .i64 (x5)]:List AV),.ptr (.rw 21) (0)] ([some ⟨1,tb⟩]++(rows13 sl++([some ⟨1,z⟩,some ⟨1,([.int .i64 (n)]:List AV)⟩,some ⟨1,([.slice true (.rw 23) (0) (c+1)]:List AV)⟩,some ⟨1,([.ptr (.rw 0) (0)]:List AV)⟩,some ⟨4294967291,rc⟩,none,some ⟨1,xr⟩,some ⟨1,([.int .i64 (x0),.int .i64 (x1),.int .i64 (x2),.int .i64 (x3),.bool (xb),.int .i64 (x5)]:List AV)⟩,some ⟨1,([.int .i64 (x0)]:List AV)⟩,some ⟨1,(ys++([.int .i64 (x0)]:List AV))⟩]))))∧
 (((x1:Int)==n)=false→
 Q .normal [.ptr (.rw 15) (0),.ptr (.rw 16) (0),.func 76 [.ptr (.rw 17) (0)],.agg ([.int .i64 (x0),.int .i64 (x1),.int .i64 (x2),.int .i64 (x3),.bool (xb),.int .i64 (x5)]:List AV),.ptr (.rw 21) (0)] ([some ⟨1,tb⟩]++(rows13 sl++[some ⟨1,z⟩,some ⟨1,([.int .i64 (n)]:List AV)⟩,some ⟨1,([.slice true (.rw 19) (0) (c)]:List AV)⟩,some ⟨1,([.ptr (.rw 0) (0)]:List AV)⟩,some ⟨4294967291,rc⟩,some ⟨1,ys⟩,some ⟨1,xr⟩,some ⟨1,([.int .i64 (x0),.int .i64 (x1),.int .i64 (x2),.int .i64 (x3),.bool (xb),.int .i64 (x5)]:List AV)⟩]))))∧
 (decide ((n:Int)≥1)=false→
 Q .normal [.ptr (.rw 15) (0),.ptr (.rw 16) (0),.func 76 [.ptr (.rw 17) (0)],.agg ([.int .i64 (x0),.int .i64 (x1),.int .i64 (x2),.int .i64 (x3),.bool (xb),.int .i64 (x5)]:List AV),.ptr (.rw 21) (0)] ([some ⟨1,tb⟩]++(rows13 sl++[some ⟨1,z⟩,some ⟨1,([.int .i64 (n)]:List AV)⟩,some ⟨1,([.slice true (.rw 19) (0) (c)]:List AV)⟩,some ⟨1,([.ptr (.rw 0) (0)]:List AV)⟩,some ⟨4294967291,rc⟩,some ⟨1,ys⟩,some ⟨1,xr⟩,some ⟨1,([.int .i64 (x0),.int .i64 (x1),.int .i64 (x2),.int .i64 (x3),.bool (xb),.int .i64 (x5)]:List AV)⟩])))):=by kernel_rfl
theorem k_it (G:Nat→List AV) (ry:List AV→Bool) (tb sl z rc ys ar yn:List AV) (n:Int) (c i:Nat) (kb:Bool) (Q:Ex→List AV→Hp→Prop) (R:AV→Hp→Prop):vT G Q R (dloop (Dr Try.prog [] [] [] [] (yAt 2300 18 ry (.tst (.var 19 kb) (.one (.bool (.lit true)) [.app 19 ⟨1,.var 21 yn⟩,.set 16 ⟨1,.of [.slice true (.rw 21) (.lit 0) (.add (.var 4 c) (.lit 1))]⟩]) (.one (.bool (.lit true)) []))) 19) 300 60 19 (loopN Try.f76 0) 27 [0,11,12] [.yld 18,.agg (.var 25 ar),.int .i64 (.ofN (.var 6 i))] (HKd (.var 1 tb) (.var 2 sl) (.var 5 z) (.var 3 n) (.var 4 c) (.var 24 rc) (.var 22 ys)))=(
  (decide ((((i:Nat):Int):Int)<13)=true→
 decide ((0:Int)≤((i:Nat):Int))=true∧
 decide ((((i:Nat):Int):Int)<13)=true∧
 leB ((i)*7+7) (List.length ar)=true∧
 cellsB (subL ar ((i)*7) (7))=true∧
 Nat.beq (List.length (subL ar ((i)*7) (7))) (7)=true∧
 isI .i64 (subL ar ((i)*7) (7)) (0)=true∧
 (decide ((getI (subL ar ((i)*7) (7)) (0):Int)>0)=true→
 leB (6) (List.length (subL ar ((i)*7) (7)))=true∧
 (ry) [.agg ([.agg (subL (subL ar ((i)*7) (7)) (0) (6))]:List AV),.agg ((tp3 [.tup [.int .i64 (1),.agg tb]] sl [.tup [.int .i64 (1),.agg z],.tup [.int .i64 (1),.agg ([.int .i64 (n)]:List AV)],.tup [.int .i64 (1),.agg ([.slice true (.rw 19) (0) (c)]:List AV)],.tup [.int .i64 (1),.agg ([.ptr (.rw 0) (0)]:List AV)],.tup [.int .i64 (4294967291),.agg rc],.tup [.int .i64 (1),.agg ys],.tup [.int .i64 (1),.agg (subL ar ((i)*7) (7))]]):List AV)]=true∧
 (kb=true→
 Q .normal [.yld 18,.agg ar,.int .i64 (IntKind.wrap .i64 (((i:Nat):Int)+1))] ([some ⟨1,tb⟩]++(rows13 sl++[some ⟨1,z⟩,some ⟨1,([.int .i64 (n)]:List AV)⟩,some ⟨1,([.slice true (.rw 21) (0) (c+1)]:List AV)⟩,some ⟨1,([.ptr (.rw 0) (0)]:List AV)⟩,some ⟨4294967291,rc⟩,none,some ⟨1,(subL ar ((i)*7) (7))⟩,some ⟨1,yn⟩])))∧
 (kb=false→
 Q .normal [.yld 18,.agg ar,.int .i64 (IntKind.wrap .i64 (((i:Nat):Int)+1))] ([some ⟨1,tb⟩]++(rows13 sl++[some ⟨1,z⟩,some ⟨1,([.int .i64 (n)]:List AV)⟩,some ⟨1,([.slice true (.rw 19) (0) (c)]:List AV)⟩,some ⟨1,([.ptr (.rw 0) (0)]:List AV)⟩,some ⟨4294967291,rc⟩,some ⟨1,ys⟩,some ⟨1,(subL ar ((i)*7) (7))⟩]))))∧
 (decide ((getI (subL ar ((i)*7) (7)) (0):Int)>0)=false→
 Q .normal [.yld 18,.agg ar,.int .i64 (IntKind.wrap .i64 (((i:Nat):Int)+1))] ([some ⟨1,tb⟩]++(rows13 sl++[some ⟨1,z⟩,some ⟨1,([.int .i64 (n)]:List AV)⟩,some ⟨1,([.slice true (.rw 19) (0) (c)]:List AV)⟩,some ⟨1,([.ptr (.rw 0) (0)]:List AV)⟩,some ⟨4294967291,rc⟩,some ⟨1,ys⟩,some ⟨1,(subL ar ((i)*7) (7))⟩]))))∧
 (decide ((((i:Nat):Int):Int)<13)=false→
 Q (.exit 0) [.yld 18,.agg ar,.int .i64 (((i:Nat):Int))] ([some ⟨1,tb⟩]++(rows13 sl++[some ⟨1,z⟩,some ⟨1,([.int .i64 (n)]:List AV)⟩,some ⟨1,([.slice true (.rw 19) (0) (c)]:List AV)⟩,some ⟨1,([.ptr (.rw 0) (0)]:List AV)⟩,some ⟨4294967291,rc⟩,some ⟨1,ys⟩])))):=by kernel_rfl
def ptC (s:Ptb) (c:Nat):Nat→AV:=fun n=>match s.sg n with
 | none=>.nilp
 | some _=>.ptr (.rw (if n=c then 14 else 1+n)) 0
def B15 (s:Ptb) (cc:Nat) (sl z:List AV):Hp:=some ⟨1,encV (ptC s cc) s⟩::((List.range 13).map (fun n=>some ⟨1,rowA sl n⟩)++[some ⟨1,z⟩])
structure Flt (sl z:List AV):Prop where
 rows:∀ n,n<13→bnds 0 (rowA sl n)=true
 z:bnds 0 z=true
theorem B15_len {s:Ptb} {cc:Nat} {sl z:List AV}:(B15 s cc sl z).length=15:=by simp [B15]
theorem tb15 (s:Ptb) (cc:Nat) {m:Nat} (hm:15≤m):bnds m (encV (ptC s cc) s)=true:=by
 refine tsP_ok.bnd m (ptC s cc) s fun n hn=>?_
 unfold ptC
 split
 ·rfl
 ·have:(if n=cc then 14 else 1+n)<m:=by split<;>omega
  simpa [bnd] using this
theorem B15_at {s:Ptb} {cc:Nat} {sl z:List AV} (hf:Flt sl z) {i:Nat} {b:Blk} (hb:(B15 s cc sl z)[i]?=some (some b)):bnds 15 b.cells=true:=by
 have hi:=(List.getElem?_eq_some_iff.1 hb).1
 rw [B15_len] at hi
 unfold B15 at hb
 by_cases h0:i=0
 ·subst h0
  simp only [List.getElem?_cons_zero,Option.some.injEq] at hb
  subst hb
  exact tb15 s cc (Nat.le_refl 15)
 ·obtain ⟨n,rfl⟩:∃ n,i=n+1:=⟨i - 1,by omega⟩
  rw [List.getElem?_cons_succ] at hb
  by_cases h1:n<13
  ·rw [List.getElem?_append_left (by simpa using h1),List.getElem?_map,List.getElem?_range h1] at hb
   simp only [Option.map_some,Option.some.injEq] at hb
   subst hb
   exact bnds_mono (Nat.zero_le _) _ (hf.rows n h1)
  ·have:n=13:=by omega
   subst this
   rw [List.getElem?_append_right (by simp)] at hb
   simp at hb
   subst hb
   exact bnds_mono (Nat.zero_le _) _ hf.z
theorem B15_bnd {s:Ptb} {cc:Nat} {sl z:List AV} (hf:Flt sl z) {m:Nat} (hm:15≤m):hpB m (B15 s cc sl z)=true:=
 hpB_of fun _ _ hb=>bnds_mono hm _ (B15_at hf hb)
where
 hpB_of {m:Nat}:∀ {H:Hp},(∀ (i:Nat) b,H[i]?=some (some b)→bnds m b.cells=true)→hpB m H=true
  | [],_=>rfl
  | none::H,h=>by simp only [hpB];exact hpB_of fun i b hb=>h (i+1) b hb
  | some b::H,h=>by
   simp only [hpB,Bool.and_eq_true]
   exact ⟨h 0 b rfl,hpB_of fun i b hb=>h (i+1) b hb⟩
theorem blks_b15 {s:Ptb} {cc:Nat} {sl z:List AV} (hfl:Flt sl z) {θ:List Nat} {H' E:Hp} {n:Nat} {js:List Nat} (hn:15≤n) (hf:∀ i,i<15→θ.getD i 0=i) (hH:H'.take 15=B15 s cc sl z) (hE:blks θ H' n js E):blks θ H' n ([0,1,2,3,4,5,6,7,8,9,10,11,12,13,14]++js) (B15 s cc sl z++E):=by
 have key:∀ (k:Nat) (L:Hp) (is:List Nat),is=List.range' k L.length→(∀ (i:Nat) b,L[i]?=some b→(B15 s cc sl z)[k+i]?=some b)→k+L.length≤15→blks θ H' n (is++js) (L++E):=by
  intro k L
  induction L generalizing k with
  | nil=>intro is h _ _;subst h;exact hE
  | cons b L ih=>
   intro is h hL hk
   subst h
   simp only [List.length_cons,List.range'_succ,List.cons_append]
   have ih':=ih (k+1) _ rfl (fun i b hb=>by
    have:=hL (i+1) b hb
    rwa [show k+1+i=k+(i+1) by omega]) (by simp at hk;omega)
   have h0:=hL 0 b rfl
   rw [Nat.add_zero] at h0
   have hH0:H'[k]?=some b:=by
    have:(H'.take 15)[k]?=some b:=by rw [hH];exact h0
    rw [List.getElem?_take] at this
    split at this
    ·exact this
    ·cases this
   cases b with
   | none=>exact ⟨(List.getElem?_eq_some_iff.1 hH0).1,ih'⟩
   | some b=>
    refine ⟨⟨?_,?_⟩,ih'⟩
    ·exact bnds_mono hn _ (B15_at hfl h0)
    ·rw [rens_fix hf _ (B15_at hfl h0)]
     exact hH0
 exact key 0 (B15 s cc sl z) [0,1,2,3,4,5,6,7,8,9,10,11,12,13,14] (by rw [B15_len];rfl) (fun i b hb=>by rw [Nat.zero_add];exact hb) (by rw [B15_len];omega)
def hpK (s:Ptb) (cc:Nat) (sl z:List AV) (n:Int) (c:Nat) (rc ys:List AV):Hp:=B15 s cc sl z++[some ⟨1,[.int .i64 n]⟩,some ⟨1,[.slice true (.rw 19) 0 c]⟩,some ⟨1,[.ptr (.rw 0) 0]⟩,some ⟨4294967291,rc⟩,some ⟨1,ys⟩]
theorem hK (G:Nat→List AV) (s:Ptb) (cc:Nat) (sl z:List AV) (n:Int) (c:Nat) (rc ys:List AV):vHp G (HKd (.var 1 (encV (ptC s cc) s)) (.var 2 sl) (.var 5 z) (.var 3 n) (.var 4 c) (.var 24 rc) (.var 22 ys))=hpK s cc sl z n c rc ys:=rfl
theorem hKx (G:Nat→List AV) (s:Ptb) (cc:Nat) (sl z:List AV) (n:Int) (c:Nat) (rc ys xr:List AV):vHp G (HKd (.var 1 (encV (ptC s cc) s)) (.var 2 sl) (.var 5 z) (.var 3 n) (.var 4 c) (.var 24 rc) (.var 22 ys)++[some ⟨1,.var 23 xr⟩])=hpK s cc sl z n c rc ys++[some ⟨1,xr⟩]:=rfl
def F0k:Fr:=fl 24 [3,5,8] [.ptr (.rw 15) 0,.ptr (.rw 16) 0,.func 76 [.ptr (.rw 17) 0]]
noncomputable def rcK (p:Nat):List AV:=rcA (loopN Try.f31 0) p F0k
theorem N31_eq:loopN Try.f31 0=.rangeFunc (rgG (loopN Try.f31 0)) (rgP (loopN Try.f31 0)) (rgA (loopN Try.f31 0)) (rgB (loopN Try.f31 0)):=by kernel_rfl
theorem rcK_b (q:Nat):bnds 18 (rcK q)=true:=by kernel_rfl
end Go.Am
