/-
  Processes: the program's calls without loops. Processes: the program's Children: a round.
-/
import Derived.Test.YtkabjomhnddnoaaBase10
import Derived.Test.YtkabjomhnddnoaaPart11
import Derived.Test.YtkabjomhnddnoaaBase5
namespace Go.Am
open Go.Proofs Crc
set_option maxRecDepth 100000
theorem q28 (G:Nat→List AV) (tb sl:List AV) (n a:Int) (Q:Ex→List AV→Hp→Prop) (R:AV→Hp→Prop):vT G Q R (D0 (Df Try.prog [(48,1,13)] [36,38,39,20] [] [] 0) 300 20 Try.f28 [.ptr (.rw 0) (.lit 0),.int .i64 (.var 3 n),.int .i64 (.var 4 a)] (hp3 [some ⟨1,.var 1 tb⟩] (.var 2 sl) []) 14)=(
  isB tb (0)=true∧(A5 tb (0)=true→isB tb (0)=true∧A5 tb (0)=true∧(decide ((n:Int)≥1)=true→(decide ((n:Int)≤12)=true→decide ((0:Int)≤n)=true∧decide ((n:Int)<13)=true∧isI .i64 tb ((Int.toNat (n))*7+1)=true∧(((A0 tb ((Int.toNat (n))*7+1):Int)==n)=true→decide ((0:Int)≤n)=true∧decide ((n:Int)<13)=true∧isB tb ((Int.toNat (n))*7+5)=true∧(A5 tb ((Int.toNat (n))*7+5)=true→R (.int .i64 (6)) ([some ⟨1,tb⟩]++A2 sl))∧(A5 tb ((Int.toNat (n))*7+5)=false→(decide ((a:Int)<1)=true→R (.int .i64 (2)) ([some ⟨1,tb⟩]++A2 sl))∧(decide ((a:Int)<1)=false→(decide ((a:Int)>12)=true→R (.int .i64 (2)) ([some ⟨1,tb⟩]++A2 sl))∧(decide ((a:Int)>12)=false→decide ((0:Int)≤n)=true∧decide ((n:Int)<13)=true∧leB ((Int.toNat (n))*7+4) (List.length tb)=true∧R (.int .i64 (0)) ([some ⟨1,(setPart tb ((Int.toNat (n))*7+3) (.int .i64 (a)))⟩]++A2 sl)))))∧(((A0 tb ((Int.toNat (n))*7+1):Int)==n)=false→R (.int .i64 (6)) ([some ⟨1,tb⟩]++A2 sl)))∧(decide ((n:Int)≤12)=false→R (.int .i64 (6)) ([some ⟨1,tb⟩]++A2 sl)))∧(decide ((n:Int)≥1)=false→R (.int .i64 (6)) ([some ⟨1,tb⟩]++A2 sl)))∧(A5 tb (0)=false→R (.int .i64 (1)) ([some ⟨1,tb⟩]++A2 sl))):=by kernel_rfl
theorem q32 (G:Nat→List AV) (tb sl:List AV) (n a:Int) (Q:Ex→List AV→Hp→Prop) (R:AV→Hp→Prop):vT G Q R (D0 (Df Try.prog [(48,1,13)] [36,38,39,20] [] [] 0) 300 20 Try.f32 [.ptr (.rw 0) (.lit 0),.int .i64 (.var 3 n),.int .i64 (.var 4 a)] (hp3 [some ⟨1,.var 1 tb⟩] (.var 2 sl) []) 14)=(
  isB tb (0)=true∧(A5 tb (0)=true→isB tb (0)=true∧A5 tb (0)=true∧(decide ((n:Int)≥1)=true→(decide ((n:Int)≤12)=true→decide ((0:Int)≤n)=true∧decide ((n:Int)<13)=true∧isI .i64 tb ((Int.toNat (n))*7+1)=true∧(((A0 tb ((Int.toNat (n))*7+1):Int)==n)=true→decide ((0:Int)≤n)=true∧decide ((n:Int)<13)=true∧isB tb ((Int.toNat (n))*7+5)=true∧(A5 tb ((Int.toNat (n))*7+5)=true→R (.int .i64 (6)) ([some ⟨1,tb⟩]++A2 sl))∧(A5 tb ((Int.toNat (n))*7+5)=false→(((a:Int)==IntKind.wrap .i64 (IntKind.wrap .u16 (a)))=true→decide ((0:Int)≤n)=true∧decide ((n:Int)<13)=true∧isI .i64 tb ((Int.toNat (n))*7+4)=true∧(((A0 tb ((Int.toNat (n))*7+4):Int)==0)=true→decide ((0:Int)≤n)=true∧decide ((n:Int)<13)=true∧leB ((Int.toNat (n))*7+5) (List.length tb)=true∧R (.int .i64 (0)) ([some ⟨1,(setPart tb ((Int.toNat (n))*7+4) (.int .i64 (a)))⟩]++A2 sl))∧(((A0 tb ((Int.toNat (n))*7+4):Int)==0)=false→R (.int .i64 (8)) ([some ⟨1,tb⟩]++A2 sl)))∧(((a:Int)==IntKind.wrap .i64 (IntKind.wrap .u16 (a)))=false→R (.int .i64 (2)) ([some ⟨1,tb⟩]++A2 sl))))∧(((A0 tb ((Int.toNat (n))*7+1):Int)==n)=false→R (.int .i64 (6)) ([some ⟨1,tb⟩]++A2 sl)))∧(decide ((n:Int)≤12)=false→R (.int .i64 (6)) ([some ⟨1,tb⟩]++A2 sl)))∧(decide ((n:Int)≥1)=false→R (.int .i64 (6)) ([some ⟨1,tb⟩]++A2 sl)))∧(A5 tb (0)=false→R (.int .i64 (1)) ([some ⟨1,tb⟩]++A2 sl))):=by kernel_rfl
theorem q47 (G:Nat→List AV) (tb sl:List AV) (n a:Int) (Q:Ex→List AV→Hp→Prop) (R:AV→Hp→Prop):vT G Q R (D0 (Df Try.prog [(48,1,13)] [36,38,39,20] [(64,oM N0)] [] 0) 300 20 Try.f47 [.ptr (.rw 0) (.lit 0),.int .i64 (.var 3 n),.int .i64 (.var 4 a)] (hp3 [some ⟨1,.var 1 tb⟩] (.var 2 sl) []) 14)=(
  isB tb (0)=true∧(A5 tb (0)=true→isB tb (0)=true∧A5 tb (0)=true∧(decide ((n:Int)≥1)=true→(decide ((n:Int)≤12)=true→decide ((0:Int)≤n)=true∧decide ((n:Int)<13)=true∧isI .i64 tb ((Int.toNat (n))*7+1)=true∧(((A0 tb ((Int.toNat (n))*7+1):Int)==n)=true→decide ((0:Int)≤n)=true∧decide ((n:Int)<13)=true∧isB tb ((Int.toNat (n))*7+5)=true∧(A5 tb ((Int.toNat (n))*7+5)=true→R (.tup [.int .i64 (0),.int .i64 (6)]) ([some ⟨1,tb⟩]++A2 sl))∧(A5 tb ((Int.toNat (n))*7+5)=false→decide ((0:Int)≤n)=true∧decide ((n:Int)<13)=true∧(B4 tb ((Int.toNat (n))*7+7)=true→False)∧(B4 tb ((Int.toNat (n))*7+7)=false→J4 1 13 tb ((Int.toNat (n))*7+7)=true∧Nat.beq (K4 tb ((Int.toNat (n))*7+7)) (0)=true∧leB (A4 1 tb ((Int.toNat (n))*7+7)+1) (13)=true∧rowsA sl (rp 13 sl)=true∧leB (A4 1 tb ((Int.toNat (n))*7+7)+1) (List.length sl)=true∧okU [.agg (A1 sl (A4 1 tb ((Int.toNat (n))*7+7)))]=true∧R (.tup [.int .i64 (Eo [.agg (A1 sl (A4 1 tb ((Int.toNat (n))*7+7)))]),.int .i64 (0)]) ([some ⟨1,tb⟩]++A2 (D5 sl (A4 1 tb ((Int.toNat (n))*7+7)) (Gs [.agg (A1 sl (A4 1 tb ((Int.toNat (n))*7+7))),.int .i64 (a)]))))))∧(((A0 tb ((Int.toNat (n))*7+1):Int)==n)=false→R (.tup [.int .i64 (0),.int .i64 (6)]) ([some ⟨1,tb⟩]++A2 sl)))∧(decide ((n:Int)≤12)=false→R (.tup [.int .i64 (0),.int .i64 (6)]) ([some ⟨1,tb⟩]++A2 sl)))∧(decide ((n:Int)≥1)=false→R (.tup [.int .i64 (0),.int .i64 (6)]) ([some ⟨1,tb⟩]++A2 sl)))∧(A5 tb (0)=false→R (.tup [.int .i64 (0),.int .i64 (1)]) ([some ⟨1,tb⟩]++A2 sl))):=by kernel_rfl
theorem q49 (G:Nat→List AV) (tb sl:List AV) (n a q:Int) (Q:Ex→List AV→Hp→Prop) (R:AV→Hp→Prop):vT G Q R (D0 (Df Try.prog [(48,1,13)] [36,38,39,20] [(73,bN N0)] [] 0) 300 20 Try.f49 [.ptr (.rw 0) (.lit 0),.int .i64 (.var 3 n),.int .i64 (.var 4 a),.int .i64 (.var 5 q)] (hp3 [some ⟨1,.var 1 tb⟩] (.var 2 sl) []) 14)=(
  isB tb (0)=true∧(A5 tb (0)=true→isB tb (0)=true∧A5 tb (0)=true∧(decide ((n:Int)≥1)=true→(decide ((n:Int)≤12)=true→decide ((0:Int)≤n)=true∧decide ((n:Int)<13)=true∧isI .i64 tb ((Int.toNat (n))*7+1)=true∧(((A0 tb ((Int.toNat (n))*7+1):Int)==n)=true→decide ((0:Int)≤n)=true∧decide ((n:Int)<13)=true∧isB tb ((Int.toNat (n))*7+5)=true∧(A5 tb ((Int.toNat (n))*7+5)=true→R (.tup [.int .i64 (0),.int .i64 (6)]) ([some ⟨1,tb⟩]++A2 sl))∧(A5 tb ((Int.toNat (n))*7+5)=false→(decide ((a:Int)<0)=true→R (.tup [.int .i64 (0),.int .i64 (2)]) ([some ⟨1,tb⟩]++A2 sl))∧(decide ((a:Int)<0)=false→(decide ((a:Int)>15)=true→R (.tup [.int .i64 (0),.int .i64 (2)]) ([some ⟨1,tb⟩]++A2 sl))∧(decide ((a:Int)>15)=false→decide ((0:Int)≤n)=true∧decide ((n:Int)<13)=true∧(B4 tb ((Int.toNat (n))*7+7)=true→False)∧(B4 tb ((Int.toNat (n))*7+7)=false→J4 1 13 tb ((Int.toNat (n))*7+7)=true∧Nat.beq (K4 tb ((Int.toNat (n))*7+7)) (0)=true∧leB (A4 1 tb ((Int.toNat (n))*7+7)+1) (13)=true∧rowsA sl (rp 13 sl)=true∧leB (A4 1 tb ((Int.toNat (n))*7+7)+1) (List.length sl)=true∧okU [.agg (A1 sl (A4 1 tb ((Int.toNat (n))*7+7)))]=true∧R (.tup [.int .i64 (Fy [.agg (A1 sl (A4 1 tb ((Int.toNat (n))*7+7))),.int .i64 (a),.int .i64 (q)]),.int .i64 (Fz [.int .i64 (a),.int .i64 (q)])]) ([some ⟨1,tb⟩]++A2 (D5 sl (A4 1 tb ((Int.toNat (n))*7+7)) (Fx [.agg (A1 sl (A4 1 tb ((Int.toNat (n))*7+7))),.int .i64 (a),.int .i64 (q)]))))))))∧(((A0 tb ((Int.toNat (n))*7+1):Int)==n)=false→R (.tup [.int .i64 (0),.int .i64 (6)]) ([some ⟨1,tb⟩]++A2 sl)))∧(decide ((n:Int)≤12)=false→R (.tup [.int .i64 (0),.int .i64 (6)]) ([some ⟨1,tb⟩]++A2 sl)))∧(decide ((n:Int)≥1)=false→R (.tup [.int .i64 (0),.int .i64 (6)]) ([some ⟨1,tb⟩]++A2 sl)))∧(A5 tb (0)=false→
 R (.tup [.int .i64 (0),.int .i64 (1)]) ([some ⟨1,tb⟩]++A2 sl))):=by kernel_rfl
theorem q16 (G:Nat→List AV) (tb sl:List AV) (n:Int) (Q:Ex→List AV→Hp→Prop) (R:AV→Hp→Prop):vT G Q R (D0 (Df Try.prog [(48,1,13)] [36,38,39,20] [] [] 0) 300 20 Try.f16 [.ptr (.rw 0) (.lit 0),.int .i64 (.var 3 n)] (hp3 [some ⟨1,.var 1 tb⟩] (.var 2 sl) []) 14)=(
  isB tb (0)=true∧(A5 tb (0)=true→(decide ((n:Int)≥1)=true→(decide ((n:Int)≤12)=true→decide ((0:Int)≤n)=true∧decide ((n:Int)<13)=true∧isI .i64 tb ((Int.toNat (n))*7+1)=true∧(((A0 tb ((Int.toNat (n))*7+1):Int)==n)=true→decide ((0:Int)≤n)=true∧decide ((n:Int)<13)=true∧leB ((Int.toNat (n))*7+7) (List.length tb)=true∧cellsB (subL tb ((Int.toNat (n))*7+1) (6))=true∧Nat.beq (List.length (subL tb ((Int.toNat (n))*7+1) (6))) (6)=true∧leB (6) (List.length (subL tb ((Int.toNat (n))*7+1) (6)))=true∧R (.tup [.agg (subL (subL tb ((Int.toNat (n))*7+1) (6)) (0) (6)),.bool (true)]) ([some ⟨1,tb⟩]++A2 sl))∧(((A0 tb ((Int.toNat (n))*7+1):Int)==n)=false→R (.tup [.agg ([.int .i64 (0),.int .i64 (0),.int .i64 (0),.int .i64 (0),.bool (false),.int .i64 (0)]:List AV),.bool (false)]) ([some ⟨1,tb⟩]++A2 sl)))∧(decide ((n:Int)≤12)=false→R (.tup [.agg ([.int .i64 (0),.int .i64 (0),.int .i64 (0),.int .i64 (0),.bool (false),.int .i64 (0)]:List AV),.bool (false)]) ([some ⟨1,tb⟩]++A2 sl)))∧(decide ((n:Int)≥1)=false→R (.tup [.agg ([.int .i64 (0),.int .i64 (0),.int .i64 (0),.int .i64 (0),.bool (false),.int .i64 (0)]:List AV),.bool (false)]) ([some ⟨1,tb⟩]++A2 sl)))∧(A5 tb (0)=false→R (.tup [.agg ([.int .i64 (0),.int .i64 (0),.int .i64 (0),.int .i64 (0),.bool (false),.int .i64 (0)]:List AV),.bool (false)]) ([some ⟨1,tb⟩]++A2 sl))):=by kernel_rfl
theorem q20 (G:Nat→List AV) (tb sl:List AV) (n:Int) (Q:Ex→List AV→Hp→Prop) (R:AV→Hp→Prop):vT G Q R (D0 (Df Try.prog [(48,1,13)] [36,38,39,20] [] [] 0) 300 20 Try.f20 [.ptr (.rw 0) (.lit 0),.int .i64 (.var 3 n)] (hp3 [some ⟨1,.var 1 tb⟩] (.var 2 sl) []) 14)=(
  isB tb (0)=true∧(A5 tb (0)=true→(decide ((n:Int)≥1)=true→(decide ((n:Int)≤12)=true→decide ((0:Int)≤n)=true∧decide ((n:Int)<13)=true∧isI .i64 tb ((Int.toNat (n))*7+1)=true∧(((A0 tb ((Int.toNat (n))*7+1):Int)==n)=true→decide ((0:Int)≤n)=true∧decide ((n:Int)<13)=true∧isB tb ((Int.toNat (n))*7+5)=true∧R (.bool ((!(A5 tb ((Int.toNat (n))*7+5))))) ([some ⟨1,tb⟩]++A2 sl))∧(((A0 tb ((Int.toNat (n))*7+1):Int)==n)=false→R (.bool (false)) ([some ⟨1,tb⟩]++A2 sl)))∧(decide ((n:Int)≤12)=false→R (.bool (false)) ([some ⟨1,tb⟩]++A2 sl)))∧(decide ((n:Int)≥1)=false→R (.bool (false)) ([some ⟨1,tb⟩]++A2 sl)))∧(A5 tb (0)=false→R (.bool (false)) ([some ⟨1,tb⟩]++A2 sl))):=by kernel_rfl
theorem q22 (G:Nat→List AV) (tb sl:List AV) (n:Int) (Q:Ex→List AV→Hp→Prop) (R:AV→Hp→Prop):vT G Q R (D0 (Df Try.prog [(48,1,13)] [36,38,39,20] [(37,Sz N0)] [] 0) 300 20 Try.f22 [.ptr (.rw 0) (.lit 0),.int .i64 (.var 3 n)] (hp3 [some ⟨1,.var 1 tb⟩] (.var 2 sl) []) 15)=(
  isB tb (0)=true∧(A5 tb (0)=true→(decide ((n:Int)≥1)=true→(decide ((n:Int)≤12)=true→decide ((0:Int)≤n)=true∧decide ((n:Int)<13)=true∧isI .i64 tb ((Int.toNat (n))*7+1)=true∧(((A0 tb ((Int.toNat (n))*7+1):Int)==n)=true→decide ((0:Int)≤n)=true∧decide ((n:Int)<13)=true∧(B4 tb ((Int.toNat (n))*7+7)=true→False)∧(B4 tb ((Int.toNat (n))*7+7)=false→J4 1 13 tb ((Int.toNat (n))*7+7)=true∧Nat.beq (K4 tb ((Int.toNat (n))*7+7)) (0)=true∧leB (A4 1 tb ((Int.toNat (n))*7+7)+1) (13)=true∧rowsA sl (rp 13 sl)=true∧leB (A4 1 tb ((Int.toNat (n))*7+7)+1) (List.length sl)=true∧okU [.agg (A1 sl (A4 1 tb ((Int.toNat (n))*7+7)))]=true∧R (.ptr (.rw 14) (0)) ([some ⟨1,tb⟩]++(A2 sl++[some ⟨1,(A1 sl (A4 1 tb ((Int.toNat (n))*7+7)))⟩]))))∧(((A0 tb ((Int.toNat (n))*7+1):Int)==n)=false→R (.nilp) ([some ⟨1,tb⟩]++A2 sl)))∧(decide ((n:Int)≤12)=false→R (.nilp) ([some ⟨1,tb⟩]++A2 sl)))∧(decide ((n:Int)≥1)=false→R (.nilp) ([some ⟨1,tb⟩]++A2 sl)))∧(A5 tb (0)=false→R (.nilp) ([some ⟨1,tb⟩]++A2 sl))):=by kernel_rfl
theorem hT (G:Nat→List AV) (s:Ptb):vHp G (hp3 [some ⟨1,.var 1 (encT 1 s)⟩] (.var 2 (setsL encP s)) [])=B0 tsP s:=V3 (t:=tsP) (s:=s)
theorem Um (b:Nat) {s:Ptb} {n:Int} {A B:Prop} (h1:isP s n=true→A) (h2:isP s n=false→B) :
  (decide (n≥1)=true→(decide (n≤12)=true→decide ((0:Int)≤n)=true∧decide ((n:Int)<13)=true∧isI .i64 (encT b s) (n.toNat*7+1)=true∧((A0 (encT b s) (n.toNat*7+1)==n)=true→A)∧((A0 (encT b s) (n.toNat*7+1)==n)=false→B))∧(decide (n≤12)=false→B))∧(decide (n≥1)=false→B):=by
 have ff:¬(1≤n∧n≤12∧(s.at_ n.toNat).num=n)→isP s n=false:=fun h=>by
  cases e:isP s n with
  | false=>rfl
  | true=>exact absurd (I0.1 e) h
 refine ⟨fun a1=>⟨fun a2=>?_,fun a2=>h2 (ff fun h=>?_)⟩,fun a1=>h2 (ff fun h=>?_)⟩
 ·have a1:=of_decide_eq_true a1;have a2:=of_decide_eq_true a2;have t:=T_num (b:=b) (s:=s) (n:=n.toNat) (by omega);refine ⟨decide_eq_true (by omega),decide_eq_true (by omega),t.1,fun h=>h1 (I0.2 ⟨by omega,a2,?_⟩),fun h=>h2 (ff fun h'=>?_)⟩
  ·rw [t.2] at h;exact eq_of_beq h
  ·rw [t.2,h'.2.2,beq_self_eq_true] at h;cases h
 ·have:=of_decide_eq_false a2;omega
 ·have:=of_decide_eq_false a1;omega
theorem S8 (b:Nat) {s:Ptb} {n:Int} {A B:Prop} (h1:live s n=true→A) (h2:live s n=false→B) :
  (decide (n≥1)=true→(decide (n≤12)=true→decide ((0:Int)≤n)=true∧decide ((n:Int)<13)=true∧isI .i64 (encT b s) (n.toNat*7+1)=true∧
   ((A0 (encT b s) (n.toNat*7+1)==n)=true→decide ((0:Int)≤n)=true∧decide ((n:Int)<13)=true∧isB (encT b s) (n.toNat*7+5)=true∧(A5 (encT b s) (n.toNat*7+5)=true→B)∧(A5 (encT b s) (n.toNat*7+5)=false→A))∧
   ((A0 (encT b s) (n.toNat*7+1)==n)=false→B))∧(decide (n≤12)=false→B))∧(decide (n≥1)=false→B):=by
 refine Um b (fun h=>?_) fun h=>h2 (by unfold live;rw [h];rfl);obtain ⟨a1,a2,a3⟩:=I0.1 h;have t:=T_en (b:=b) (s:=s) (n:=n.toNat) (by omega);refine ⟨decide_eq_true (by omega),decide_eq_true (by omega),t.1,fun h'=>h2 ?_,fun h'=>h1 ?_⟩
 ·rw [t.2] at h';unfold live;rw [h,h'];rfl
 ·rw [t.2] at h';unfold live;rw [h,h'];rfl
theorem dgM {G:Nat→List AV} {B:Nat} {fn:Func} {sums:List (Nat×DSum)} (h:loopsOf (bodyOf fn)=[]) (hs:T4 (⟨Try.prog,G,B⟩:A3) sums):I9 (⟨Try.prog,G,B⟩:A3) (Df Try.prog [(48,1,13)] [36,38,39,20] sums [] 0) (loopsOf (bodyOf fn)):=by
 rw [h];exact dgoodf (mix G B) (by kernel_rfl) hs .nil
theorem Sn (G : Nat → List AV) (B : Nat) {f : FuncId} {fn : Func} {sums : List (Nat × DSum)} {s s' : Ptb} {rest : List EV} {v : AV} (hl : loopsOf (bodyOf fn) = []) (hs : T4 (⟨Try.prog, G, B⟩ : A3) sums) (hf : Try.prog.funcs[f]? = some fn) (hb : fn.body = some (bodyOf fn)) (hn : (fn.name == "runtime.NumGoroutine") = false) (hv : bnd 0 v = true)
  (h:vT G (fun _ _ _=>False) (fun v' H'=>v'=v∧H7 tsP s' 13 H') (D0 (Df Try.prog [(48,1,13)] [36,38,39,20] sums [] 0) 300 20 fn (.ptr (.rw 0) (.lit 0)::rest) (hp3 [some ⟨1,.var 1 (encT 1 s)⟩] (.var 2 (setsL encP s)) []) 14)) :
  ACalls (⟨Try.prog,G,B⟩:A3) f (.ptr (.rw 0) 0::vVs G rest) (B0 tsP s) fun v' H'=>v'=v∧H'=B0 tsP s':=by
 have:=D3 (C:=(⟨Try.prog,G,B⟩:A3)) (f:=f) (R:=fun v' H'=>v'=v∧H7 tsP s' 13 H') (dgM (B:=B) hl hs) hf hb hn h
 rw [hT] at this;exact Og tsP_ok this hv
theorem G1 {s:Ptb}:H7 tsP s 13 (some ⟨1,encT 1 s⟩::(List.range 13).map fun n=>some ⟨1,A1 (setsL encP s) n⟩):=seen_rows (t:=tsP) rfl tsP_ok (Fd (t:=tsP) (s:=s) fun _ _ h=>h)
theorem iG {s:Ptb} {c:Nat} {x:Pc} {l:List AV} (h:l=encT 1 (V7 s c x)):H7 tsP (V7 s c x) 13 (some ⟨1,l⟩::(List.range 13).map fun n=>some ⟨1,A1 (setsL encP s) n⟩):=seen_rows (t:=tsP) h tsP_ok (Fd (t:=tsP) (s:=s) fun _ _ h=>h)
theorem iF {s:Ptb} {c:Nat} {q p:Sg} {l:List AV} (hp:s.sg c=some p) (hl:l=encP q):H7 tsP (R7 s c (some q)) 13 (some ⟨1,encT 1 s⟩::(List.range 13).map fun n=>some ⟨1,A1 (D5 (setsL encP s) c l) n⟩):=by
 subst hl;refine seen_rows (t:=tsP) ?_ tsP_ok (lY (t:=tsP));show encV (B3 1 s) s=encV (B3 1 (R7 s c (some q))) s;rw [Z9 hp]
theorem aQ4 (G:Nat→List AV) (B:Nat) {s:Ptb} (n a:Int):ACalls (⟨Try.prog,G,B⟩:A3) 28 [.ptr (.rw 0) 0,.int .i64 n,.int .i64 a] (B0 tsP s) fun v H'=>v=.int .i64 (Bt s n a)∧H'=B0 tsP (V5 s n a):=by
 refine Sn G B (fn:=Try.f28) (rest:=[.int .i64 (.var 3 n),.int .i64 (.var 4 a)]) (by kernel_rfl) .nil (by kernel_rfl) (by kernel_rfl) (by kernel_rfl) rfl ?_;rw [q28];refine ⟨rfl,fun _=>⟨rfl,rfl,S8 1 (fun hl=>?_) fun hl=>?_⟩,fun h=>by cases h⟩
 ·have h:=H6.1 hl;refine ⟨fun h1=>?_,fun h1=>⟨fun h2=>?_,fun h2=>⟨decide_eq_true (by omega),decide_eq_true (by omega),A6.2 (by rw [Q8];omega),?_⟩⟩⟩
  ·have h1:=of_decide_eq_true h1;unfold Bt V5;rw [if_pos hl,if_pos hl,if_pos (by omega),if_pos (by omega)];exact ⟨rfl,G1⟩
  ·have h2:=of_decide_eq_true h2;unfold Bt V5;rw [if_pos hl,if_pos hl,if_pos (by omega),if_pos (by omega)];exact ⟨rfl,G1⟩
  ·have h1:=of_decide_eq_false h1;have h2:=of_decide_eq_false h2;unfold Bt V5;rw [if_pos hl,if_pos hl,if_neg (by omega),if_neg (by omega)]
   exact ⟨rfl,iG (T_set (k:=2) (by omega) (by intro l h;cases h) (fun j hj=>by
    match j,hj with
    | 0,_ | 1,_ | 2,_ | 3,_ | 4,_ | 5,_ | 6,_=>rfl))⟩
 ·unfold Bt V5;rw [hl];exact ⟨rfl,G1⟩
theorem Aa {s:Ptb} {n:Nat} {p:Sg} (hn:n<13) (hp:s.sg n=some p):B4 (encT 1 s) (n*7+7)=false∧J4 1 13 (encT 1 s) (n*7+7)=true∧A4 1 (encT 1 s) (n*7+7)=n∧K4 (encT 1 s) (n*7+7)=0∧A1 (setsL encP s) n=encP p:=by
 have h:=uW (b:=1) (s:=s) hn;have e:=Yn hn h (by rw [hp];rfl);exact ⟨by rw [Gk h,hp];rfl,e.1,e.2.1,e.2.2,by rw [K9 hn,hp];rfl⟩
theorem u16_in {a:Int}:(a==IntKind.wrap .i64 (IntKind.wrap .u16 a))=decide (0≤a∧a≤65535):=by
 have e:IntKind.wrap .u16 a=a % 65536:=rfl;rw [e,D9 (by omega),Bool.eq_iff_iff,beq_iff_eq,decide_eq_true_iff];omega
theorem p_user (G:Nat→List AV) (B:Nat) {s:Ptb} (n a:Int):ACalls (⟨Try.prog,G,B⟩:A3) 32 [.ptr (.rw 0) 0,.int .i64 n,.int .i64 a] (B0 tsP s) fun v H'=>v=.int .i64 (Cz s n a)∧H'=B0 tsP (Y7 s n a):=by
 refine Sn G B (fn:=Try.f32) (rest:=[.int .i64 (.var 3 n),.int .i64 (.var 4 a)]) (by kernel_rfl) .nil (by kernel_rfl) (by kernel_rfl) (by kernel_rfl) rfl ?_;rw [q32,u16_in];refine ⟨rfl,fun _=>⟨rfl,rfl,S8 1 (fun hl=>?_) fun hl=>?_⟩,fun h=>by cases h⟩
 ·have h:=H6.1 hl;have t:=uV (b:=1) (s:=s) (n:=n.toNat) (by omega);refine ⟨fun h1=>⟨decide_eq_true (by omega),decide_eq_true (by omega),t.1,fun h2=>⟨decide_eq_true (by omega),decide_eq_true (by omega),A6.2 (by rw [Q8];omega),?_⟩,fun h2=>?_⟩,fun h1=>?_⟩
  ·have h1:=of_decide_eq_true h1;rw [t.2] at h2;have h2:=eq_of_beq h2;unfold Cz Y7;have hr:¬(a<0∨65535<a):=by omega
   rw [if_pos hl,if_pos hl,if_neg hr,if_neg hr,if_pos h2,if_pos h2]
   exact ⟨rfl,iG (T_set (k:=3) (by omega) (by intro l h;cases h) (fun j hj=>by
    match j,hj with
    | 0,_ | 1,_ | 2,_ | 3,_ | 4,_ | 5,_ | 6,_=>rfl))⟩
  ·have h1:=of_decide_eq_true h1;rw [t.2] at h2;have h2:¬(s.at_ n.toNat).usr=0:=fun e=>by rw [e] at h2;cases h2
   unfold Cz Y7;have hr:¬(a<0∨65535<a):=by omega
   rw [if_pos hl,if_pos hl,if_neg hr,if_neg hr,if_neg h2,if_neg h2];exact ⟨rfl,G1⟩
  ·have h1:=of_decide_eq_false h1;unfold Cz Y7;rw [if_pos hl,if_pos hl,if_pos (by omega),if_pos (by omega)];exact ⟨rfl,G1⟩
 ·unfold Cz Y7;rw [hl];exact ⟨rfl,G1⟩
theorem aQ1 (G:Nat→List AV) (B:Nat) {s:Ptb} (hw:Wf s) (n a:Int):ACalls (⟨Try.prog,G,B⟩:A3) 47 [.ptr (.rw 0) 0,.int .i64 n,.int .i64 a] (B0 tsP s) fun v H'=>v=.tup [.int .i64 (Lu s n),.int .i64 (Rt s n)]∧H'=B0 tsP (Em s n a):=by
 refine Sn G B (fn:=Try.f47) (rest:=[.int .i64 (.var 3 n),.int .i64 (.var 4 a)]) (by kernel_rfl) (.cons (jG (S0 G) (wY G B)) .nil) (by kernel_rfl) (by kernel_rfl) (by kernel_rfl) rfl ?_;rw [q47];refine ⟨rfl,fun _=>⟨rfl,rfl,S8 1 (fun hl=>?_) fun hl=>?_⟩,fun h=>by cases h⟩
 ·have h:=H6.1 hl;have hi:isP s n=true:=I0.2 ⟨h.1,h.2.1,h.2.2.1⟩;obtain ⟨p,hp⟩:=hw.live_sg hi;obtain ⟨e1,e2,e3,e4,e5⟩:=Aa (by omega) hp;have ed:C1 s n.toNat=p:=by unfold C1;rw [hp];rfl
  refine ⟨decide_eq_true (by omega),decide_eq_true (by omega),(fun h=>by rw [e1] at h;cases h),fun _=>?_⟩;rw [e3,e4,e5];refine ⟨e2,rfl,A6.2 (by omega),D6 _ 13,A6.2 (by rw [F8];omega),O8 p,?_⟩;unfold Lu Rt Em;rw [if_pos hl,if_pos hl,if_pos hl,ed,Cy];exact ⟨rfl,iF hp (It p a)⟩
 ·unfold Lu Rt Em;rw [hl];exact ⟨rfl,G1⟩
theorem xB (G:Nat→List AV) (B:Nat) {s:Ptb} (hw:Wf s) (n a q:Int):ACalls (⟨Try.prog,G,B⟩:A3) 49 [.ptr (.rw 0) 0,.int .i64 n,.int .i64 a,.int .i64 q] (B0 tsP s) fun v H'=>v=.tup [.int .i64 (Ep s n a q),.int .i64 (Er s n a q)]∧H'=B0 tsP (Az s n a q):=by
 refine Sn G B (fn:=Try.f49) (rest:=[.int .i64 (.var 3 n),.int .i64 (.var 4 a),.int .i64 (.var 5 q)]) (by kernel_rfl) (.cons (aL (S0 G) (aC2 G B)) .nil) (by kernel_rfl) (by kernel_rfl) (by kernel_rfl) rfl ?_;rw [q49];refine ⟨rfl,fun _=>⟨rfl,rfl,S8 1 (fun hl=>?_) fun hl=>?_⟩,fun h=>by cases h⟩
 ·have h:=H6.1 hl;have hi:isP s n=true:=I0.2 ⟨h.1,h.2.1,h.2.2.1⟩;obtain ⟨p,hp⟩:=hw.live_sg hi;obtain ⟨e1,e2,e3,e4,e5⟩:=Aa (by omega) hp;have ed:C1 s n.toNat=p:=by unfold C1;rw [hp];rfl
  refine ⟨fun h1=>?_,fun h1=>⟨fun h2=>?_,fun h2=>⟨decide_eq_true (by omega),decide_eq_true (by omega),(fun h=>by rw [e1] at h;cases h),fun _=>?_⟩⟩⟩
  ·have h1:=of_decide_eq_true h1;unfold Ep Er Az;rw [if_pos hl,if_pos hl,if_pos hl,if_pos (by omega),if_pos (by omega),if_pos (by omega)];exact ⟨rfl,G1⟩
  ·have h2:=of_decide_eq_true h2;unfold Ep Er Az;rw [if_pos hl,if_pos hl,if_pos hl,if_pos (by omega),if_pos (by omega),if_pos (by omega)];exact ⟨rfl,G1⟩
  ·have h1:=of_decide_eq_false h1;have h2:=of_decide_eq_false h2;rw [e3,e4,e5];refine ⟨e2,rfl,A6.2 (by omega),D6 _ 13,A6.2 (by rw [F8];omega),O8 p,?_⟩;unfold Ep Er Az;have hr:¬(a<0∨15<a):=by omega
   rw [if_pos hl,if_pos hl,if_pos hl,if_neg hr,if_neg hr,if_neg hr,ed];refine ⟨?_,iF hp (by simp only [Fx,E8])⟩;simp only [Fy,Fz,E8]
 ·unfold Ep Er Az;rw [hl];exact ⟨rfl,G1⟩
theorem p_tell (G:Nat→List AV) (B:Nat) {s:Ptb} (n:Int):ACalls (⟨Try.prog,G,B⟩:A3) 16 [.ptr (.rw 0) 0,.int .i64 n] (B0 tsP s) fun v H'=>v=.tup [.agg (M3 (Ee s n)),.bool (isP s n)]∧H'=B0 tsP s:=by
 refine Sn G B (fn:=Try.f16) (rest:=[.int .i64 (.var 3 n)]) (by kernel_rfl) .nil (by kernel_rfl) (by kernel_rfl) (by kernel_rfl) rfl ?_;rw [q16];refine ⟨rfl,fun _=>Um 1 (fun hl=>?_) fun hl=>?_,fun h=>by cases h⟩
 ·have h:=I0.1 hl
  have e:subL (encT 1 s) (n.toNat*7+1) 6=M3 (s.at_ n.toNat):=by
   have r:=lA (b:=1) (s:=s) (n:=n.toNat) (by omega)
   have:subL (encT 1 s) (n.toNat*7+1) 6=(subL (encT 1 s) (n.toNat*7+1) 7).take 6:=by unfold subL;rw [List.take_take];rfl
   rw [this,r];rfl
  rw [e];refine ⟨decide_eq_true (by omega),decide_eq_true (by omega),A6.2 (by rw [Q8];omega),rfl,rfl,rfl,?_⟩;unfold Ee;rw [if_pos hl,hl];exact ⟨rfl,G1⟩
 ·unfold Ee;rw [hl];exact ⟨rfl,G1⟩
theorem aQ2 (G:Nat→List AV) (B:Nat) {s:Ptb} (n:Int):ACalls (⟨Try.prog,G,B⟩:A3) 20 [.ptr (.rw 0) 0,.int .i64 n] (B0 tsP s) fun v H'=>v=.bool (live s n)∧H'=B0 tsP s:=by
 refine Sn G B (fn:=Try.f20) (rest:=[.int .i64 (.var 3 n)]) (by kernel_rfl) .nil (by kernel_rfl) (by kernel_rfl) (by kernel_rfl) rfl ?_;rw [q20];refine ⟨rfl,fun _=>Um 1 (fun hl=>?_) fun hl=>?_,fun h=>by cases h⟩
 ·have h:=I0.1 hl;have t:=T_en (b:=1) (s:=s) (n:=n.toNat) (by omega);refine ⟨decide_eq_true (by omega),decide_eq_true (by omega),t.1,?_⟩;rw [t.2];unfold live;rw [hl];exact ⟨rfl,G1⟩
 ·unfold live;rw [hl];exact ⟨rfl,G1⟩
end Go.Am
namespace Go.Am
open Go.Proofs Crc
set_option maxRecDepth 100000
def Ab (T S Z:EL) (n:EI) (c:EN) (rc ys:EL):DHp:=[some ⟨1,T⟩,some ⟨1,.row S (.lit 0)⟩,some ⟨1,.row S (.lit 1)⟩,some ⟨1,.row S (.lit 2)⟩,some ⟨1,.row S (.lit 3)⟩,some ⟨1,.row S (.lit 4)⟩,some ⟨1,.row S (.lit 5)⟩,some ⟨1,.row S (.lit 6)⟩,some ⟨1,.row S (.lit 7)⟩,some ⟨1,.row S (.lit 8)⟩,some ⟨1,.row S (.lit 9)⟩,some ⟨1,.row S (.lit 10)⟩,some ⟨1,.row S (.lit 11)⟩,some ⟨1,.row S (.lit 12)⟩,some ⟨1,Z⟩,some ⟨1,.of [.int .i64 n]⟩,some ⟨1,.of [.slice true (.rw 19) (.lit 0) c]⟩,some ⟨1,.of [.ptr (.rw 0) (.lit 0)]⟩,some ⟨4294967291,rc⟩,some ⟨1,ys⟩]
theorem k_as (G:Nat→List AV) (tb sl z rc ys xr:List AV) (n:Int) (c:Nat) (x0 x1 x2 x3:Int) (xb:Bool) (x5:Int) (Q:Ex→List AV→Hp→Prop) (R:AV→Hp→Prop):vT G Q R (J6 (Dc Try.prog [] [] [] 0) 200 60 21 (Gy (loopN Try.f31 0)) 24 [3,5,8,9,6] [.ptr (.rw 15) (.lit 0),.ptr (.rw 16) (.lit 0),.func 76 [.ptr (.rw 17) (.lit 0)],.agg (.of [.int .i64 (.var 11 x0),.int .i64 (.var 12 x1),.int .i64 (.var 13 x2),.int .i64 (.var 14 x3),.bool (.var 15 xb),.int .i64 (.var 16 x5)]),.undef] ((Ab (.var 1 tb) (.var 2 sl) (.var 5 z) (.var 3 n) (.var 4 c) (.var 24 rc) (.var 22 ys))++[some ⟨1,.var 23 xr⟩]))=(
  Q .normal [.ptr (.rw 15) (0),.ptr (.rw 16) (0),.func 76 [.ptr (.rw 17) (0)],.agg ([.int .i64 (x0),.int .i64 (x1),.int .i64 (x2),.int .i64 (x3),.bool (xb),.int .i64 (x5)]:List AV),.ptr (.rw 21) (0)] ([some ⟨1,tb⟩]++(A2 sl++[some ⟨1,z⟩,some ⟨1,([.int .i64 (n)]:List AV)⟩,some ⟨1,([.slice true (.rw 19) (0) (c)]:List AV)⟩,some ⟨1,([.ptr (.rw 0) (0)]:List AV)⟩,some ⟨4294967291,rc⟩,some ⟨1,ys⟩,some ⟨1,xr⟩,some ⟨1,([.int .i64 (x0),.int .i64 (x1),.int .i64 (x2),.int .i64 (x3),.bool (xb),.int .i64 (x5)]:List AV)⟩]))):=by kernel_rfl
theorem k_bd (G:Nat→List AV) (tb sl z rc ys xr:List AV) (n:Int) (c:Nat) (x0 x1 x2 x3:Int) (xb:Bool) (x5:Int) (Q:Ex→List AV→Hp→Prop) (R:AV→Hp→Prop):vT G Q R (J6 (Dc Try.prog [] [] [] 0) 300 60 21 (Fi (loopN Try.f31 0)) 24 [3,5,8,9,6] [.ptr (.rw 15) (.lit 0),.ptr (.rw 16) (.lit 0),.func 76 [.ptr (.rw 17) (.lit 0)],.agg (.of [.int .i64 (.var 11 x0),.int .i64 (.var 12 x1),.int .i64 (.var 13 x2),.int .i64 (.var 14 x3),.bool (.var 15 xb),.int .i64 (.var 16 x5)]),.ptr (.rw 21) (.lit 0)] (((Ab (.var 1 tb) (.var 2 sl) (.var 5 z) (.var 3 n) (.var 4 c) (.var 24 rc) (.var 22 ys))++[some ⟨1,.var 23 xr⟩])++[some ⟨1,(.of [.int .i64 (.var 11 x0),.int .i64 (.var 12 x1),.int .i64 (.var 13 x2),.int .i64 (.var 14 x3),.bool (.var 15 xb),.int .i64 (.var 16 x5)])⟩]))=(
  (decide ((n:Int)≥1)=true→(((x1:Int)==n)=true→leB ((c+1)*8) (140737488355328)=true∧Nat.beq (List.length ys) (c)=true∧Q .normal [.ptr (.rw 15) (0),.ptr (.rw 16) (0),.func 76 [.ptr (.rw 17) (0)],.agg ([.int .i64 (x0),.int .i64 (x1),.int .i64 (x2),.int .i64 (x3),.bool (xb),.int .i64 (x5)]:List AV),.ptr (.rw 21) (0)] ([some ⟨1,tb⟩]++(A2 sl++([some ⟨1,z⟩,some ⟨1,([.int .i64 (n)]:List AV)⟩,some ⟨1,([.slice true (.rw 23) (0) (c+1)]:List AV)⟩,some ⟨1,([.ptr (.rw 0) (0)]:List AV)⟩,some ⟨4294967291,rc⟩,none,some ⟨1,xr⟩,some ⟨1,([.int .i64 (x0),.int .i64 (x1),.int .i64 (x2),.int .i64 (x3),.bool (xb),.int .i64 (x5)]:List AV)⟩,some ⟨1,([.int .i64 (x0)]:List AV)⟩,some ⟨1,(ys++([.int .i64 (x0)]:List AV))⟩]))))∧(((x1:Int)==n)=false→Q .normal [.ptr (.rw 15) (0),.ptr (.rw 16) (0),.func 76 [.ptr (.rw 17) (0)],.agg ([.int .i64 (x0),.int .i64 (x1),.int .i64 (x2),.int .i64 (x3),.bool (xb),.int .i64 (x5)]:List AV),.ptr (.rw 21) (0)] ([some ⟨1,tb⟩]++(A2 sl++[some ⟨1,z⟩,some ⟨1,([.int .i64 (n)]:List AV)⟩,some ⟨1,([.slice true (.rw 19) (0) (c)]:List AV)⟩,some ⟨1,([.ptr (.rw 0) (0)]:List AV)⟩,some ⟨4294967291,rc⟩,some ⟨1,ys⟩,some ⟨1,xr⟩,some ⟨1,([.int .i64 (x0),.int .i64 (x1),.int .i64 (x2),.int .i64 (x3),.bool (xb),.int .i64 (x5)]:List AV)⟩]))))∧(decide ((n:Int)≥1)=false→
 Q .normal [.ptr (.rw 15) (0),.ptr (.rw 16) (0),.func 76 [.ptr (.rw 17) (0)],.agg ([.int .i64 (x0),.int .i64 (x1),.int .i64 (x2),.int .i64 (x3),.bool (xb),.int .i64 (x5)]:List AV),.ptr (.rw 21) (0)] ([some ⟨1,tb⟩]++(A2 sl++[some ⟨1,z⟩,some ⟨1,([.int .i64 (n)]:List AV)⟩,some ⟨1,([.slice true (.rw 19) (0) (c)]:List AV)⟩,some ⟨1,([.ptr (.rw 0) (0)]:List AV)⟩,some ⟨4294967291,rc⟩,some ⟨1,ys⟩,some ⟨1,xr⟩,some ⟨1,([.int .i64 (x0),.int .i64 (x1),.int .i64 (x2),.int .i64 (x3),.bool (xb),.int .i64 (x5)]:List AV)⟩])))):=by kernel_rfl
theorem k_it (G:Nat→List AV) (ry:List AV→Bool) (tb sl z rc ys ar yn:List AV) (n:Int) (c i:Nat) (kb:Bool) (Q:Ex→List AV→Hp→Prop) (R:AV→Hp→Prop):vT G Q R (J6 (Dr Try.prog [] [] [] [] (Jc 2300 18 ry (.tst (.var 19 kb) (.one (.bool (.lit true)) [.app 19 ⟨1,.var 21 yn⟩,.set 16 ⟨1,.of [.slice true (.rw 21) (.lit 0) (.add (.var 4 c) (.lit 1))]⟩]) (.one (.bool (.lit true)) []))) 19) 300 60 19 (loopN Try.f76 0) 27 [0,11,12] [.yld 18,.agg (.var 25 ar),.int .i64 (.ofN (.var 6 i))] (Ab (.var 1 tb) (.var 2 sl) (.var 5 z) (.var 3 n) (.var 4 c) (.var 24 rc) (.var 22 ys)))=(
  (decide ((((i:Nat):Int):Int)<13)=true→decide ((0:Int)≤((i:Nat):Int))=true∧decide ((((i:Nat):Int):Int)<13)=true∧leB ((i)*7+7) (List.length ar)=true∧cellsB (subL ar ((i)*7) (7))=true∧Nat.beq (List.length (subL ar ((i)*7) (7))) (7)=true∧isI .i64 (subL ar ((i)*7) (7)) (0)=true∧(decide ((A0 (subL ar ((i)*7) (7)) (0):Int)>0)=true→leB (6) (List.length (subL ar ((i)*7) (7)))=true∧(ry) [.agg ([.agg (subL (subL ar ((i)*7) (7)) (0) (6))]:List AV),.agg ((Ez [.tup [.int .i64 (1),.agg tb]] sl [.tup [.int .i64 (1),.agg z],.tup [.int .i64 (1),.agg ([.int .i64 (n)]:List AV)],.tup [.int .i64 (1),.agg ([.slice true (.rw 19) (0) (c)]:List AV)],.tup [.int .i64 (1),.agg ([.ptr (.rw 0) (0)]:List AV)],.tup [.int .i64 (4294967291),.agg rc],.tup [.int .i64 (1),.agg ys],.tup [.int .i64 (1),.agg (subL ar ((i)*7) (7))]]):List AV)]=true∧(kb=true→Q .normal [.yld 18,.agg ar,.int .i64 (IntKind.wrap .i64 (((i:Nat):Int)+1))] ([some ⟨1,tb⟩]++(A2 sl++[some ⟨1,z⟩,some ⟨1,([.int .i64 (n)]:List AV)⟩,some ⟨1,([.slice true (.rw 21) (0) (c+1)]:List AV)⟩,some ⟨1,([.ptr (.rw 0) (0)]:List AV)⟩,some ⟨4294967291,rc⟩,none,some ⟨1,(subL ar ((i)*7) (7))⟩,some ⟨1,yn⟩])))∧(kb=false→Q .normal [.yld 18,.agg ar,.int .i64 (IntKind.wrap .i64 (((i:Nat):Int)+1))] ([some ⟨1,tb⟩]++(A2 sl++[some ⟨1,z⟩,some ⟨1,([.int .i64 (n)]:List AV)⟩,some ⟨1,([.slice true (.rw 19) (0) (c)]:List AV)⟩,some ⟨1,([.ptr (.rw 0) (0)]:List AV)⟩,some ⟨4294967291,rc⟩,some ⟨1,ys⟩,some ⟨1,(subL ar ((i)*7) (7))⟩]))))∧(decide ((A0 (subL ar ((i)*7) (7)) (0):Int)>0)=false→
 Q .normal [.yld 18,.agg ar,.int .i64 (IntKind.wrap .i64 (((i:Nat):Int)+1))] ([some ⟨1,tb⟩]++(A2 sl++[some ⟨1,z⟩,some ⟨1,([.int .i64 (n)]:List AV)⟩,some ⟨1,([.slice true (.rw 19) (0) (c)]:List AV)⟩,some ⟨1,([.ptr (.rw 0) (0)]:List AV)⟩,some ⟨4294967291,rc⟩,some ⟨1,ys⟩,some ⟨1,(subL ar ((i)*7) (7))⟩]))))∧(decide ((((i:Nat):Int):Int)<13)=false→Q (.exit 0) [.yld 18,.agg ar,.int .i64 (((i:Nat):Int))] ([some ⟨1,tb⟩]++(A2 sl++[some ⟨1,z⟩,some ⟨1,([.int .i64 (n)]:List AV)⟩,some ⟨1,([.slice true (.rw 19) (0) (c)]:List AV)⟩,some ⟨1,([.ptr (.rw 0) (0)]:List AV)⟩,some ⟨4294967291,rc⟩,some ⟨1,ys⟩])))):=by kernel_rfl
def ptC (s:Ptb) (c:Nat):Nat→AV:=fun n=>match s.sg n with
 | none=>.nilp
 | some _=>.ptr (.rw (if n=c then 14 else 1+n)) 0
def Cw (s:Ptb) (cc:Nat) (sl z:List AV):Hp:=some ⟨1,encV (ptC s cc) s⟩::((List.range 13).map (fun n=>some ⟨1,A1 sl n⟩)++[some ⟨1,z⟩])
structure Ti (sl z:List AV):Prop where
 rows:∀ n,n<13→A8 0 (A1 sl n)=true
 z:A8 0 z=true
theorem R2 {s:Ptb} {cc:Nat} {sl z:List AV}:(Cw s cc sl z).length=15:=by simp [Cw]
theorem zR (s:Ptb) (cc:Nat) {m:Nat} (hm:15≤m):A8 m (encV (ptC s cc) s)=true:=by
 refine tsP_ok.bnd m (ptC s cc) s fun n hn=>?_;unfold ptC;split
 ·rfl
 ·have:(if n=cc then 14 else 1+n)<m:=by split<;>omega
  simpa [bnd] using this
theorem fG {s:Ptb} {cc:Nat} {sl z:List AV} (hf:Ti sl z) {i:Nat} {b:Blk} (hb:(Cw s cc sl z)[i]?=some (some b)):A8 15 b.cells=true:=by
 have hi:=(List.getElem?_eq_some_iff.1 hb).1;rw [R2] at hi;unfold Cw at hb;by_cases h0:i=0
 ·subst h0;simp only [List.getElem?_cons_zero,Option.some.injEq] at hb;subst hb;exact zR s cc (Nat.le_refl 15)
 ·obtain ⟨n,rfl⟩:∃ n,i=n+1:=⟨i - 1,by omega⟩;rw [List.getElem?_cons_succ] at hb;by_cases h1:n<13
  ·rw [List.getElem?_append_left (by simpa using h1),List.getElem?_map,List.getElem?_range h1] at hb;simp only [Option.map_some,Option.some.injEq] at hb;subst hb;exact C6 (Nat.zero_le _) _ (hf.rows n h1)
  ·have:n=13:=by omega
   subst this;rw [List.getElem?_append_right (by simp)] at hb;simp at hb;subst hb;exact C6 (Nat.zero_le _) _ hf.z
theorem aC {s:Ptb} {cc:Nat} {sl z:List AV} (hf:Ti sl z) {m:Nat} (hm:15≤m):D7 m (Cw s cc sl z)=true:=
 hpB_of fun _ _ hb=>C6 hm _ (fG hf hb)
where
 hpB_of {m:Nat}:∀ {H:Hp},(∀ (i:Nat) b,H[i]?=some (some b)→A8 m b.cells=true)→D7 m H=true
  | [],_=>rfl
  | none::H,h=>by simp only [D7];exact hpB_of fun i b hb=>h (i+1) b hb
  | some b::H,h=>by
   simp only [D7,Bool.and_eq_true];exact ⟨h 0 b rfl,hpB_of fun i b hb=>h (i+1) b hb⟩
theorem Vi {s:Ptb} {cc:Nat} {sl z:List AV} (hfl:Ti sl z) {θ:List Nat} {H' E:Hp} {n:Nat} {js:List Nat} (hn:15≤n) (hf:∀ i,i<15→θ.getD i 0=i) (hH:H'.take 15=Cw s cc sl z) (hE:Qa θ H' n js E):Qa θ H' n ([0,1,2,3,4,5,6,7,8,9,10,11,12,13,14]++js) (Cw s cc sl z++E):=by
 have key:∀ (k:Nat) (L:Hp) (is:List Nat),is=List.range' k L.length→(∀ (i:Nat) b,L[i]?=some b→(Cw s cc sl z)[k+i]?=some b)→k+L.length≤15→Qa θ H' n (is++js) (L++E):=by
  intro k L
  induction L generalizing k with
  | nil=>intro is h _ _;subst h;exact hE
  | cons b L ih=>
   intro is h hL hk;subst h;simp only [List.length_cons,List.range'_succ,List.cons_append]
   have ih':=ih (k+1) _ rfl (fun i b hb=>by
    have:=hL (i+1) b hb
    rwa [show k+1+i=k+(i+1) by omega]) (by simp at hk;omega)
   have h0:=hL 0 b rfl;rw [Nat.add_zero] at h0
   have hH0:H'[k]?=some b:=by
    have:(H'.take 15)[k]?=some b:=by rw [hH];exact h0
    rw [List.getElem?_take] at this;split at this
    ·exact this
    ·cases this
   cases b with
   | none=>exact ⟨(List.getElem?_eq_some_iff.1 hH0).1,ih'⟩
   | some b=>
    refine ⟨⟨?_,?_⟩,ih'⟩
    ·exact C6 hn _ (fG hfl h0)
    ·rw [Aj hf _ (fG hfl h0)];exact hH0
 exact key 0 (Cw s cc sl z) [0,1,2,3,4,5,6,7,8,9,10,11,12,13,14] (by rw [R2];rfl) (fun i b hb=>by rw [Nat.zero_add];exact hb) (by rw [R2];omega)
def Mr (s:Ptb) (cc:Nat) (sl z:List AV) (n:Int) (c:Nat) (rc ys:List AV):Hp:=Cw s cc sl z++[some ⟨1,[.int .i64 n]⟩,some ⟨1,[.slice true (.rw 19) 0 c]⟩,some ⟨1,[.ptr (.rw 0) 0]⟩,some ⟨4294967291,rc⟩,some ⟨1,ys⟩]
theorem hK (G:Nat→List AV) (s:Ptb) (cc:Nat) (sl z:List AV) (n:Int) (c:Nat) (rc ys:List AV):vHp G (Ab (.var 1 (encV (ptC s cc) s)) (.var 2 sl) (.var 5 z) (.var 3 n) (.var 4 c) (.var 24 rc) (.var 22 ys))=Mr s cc sl z n c rc ys:=rfl
theorem hKx (G:Nat→List AV) (s:Ptb) (cc:Nat) (sl z:List AV) (n:Int) (c:Nat) (rc ys xr:List AV):vHp G (Ab (.var 1 (encV (ptC s cc) s)) (.var 2 sl) (.var 5 z) (.var 3 n) (.var 4 c) (.var 24 rc) (.var 22 ys)++[some ⟨1,.var 23 xr⟩])=Mr s cc sl z n c rc ys++[some ⟨1,xr⟩]:=rfl
def F0k:Fr:=fl 24 [3,5,8] [.ptr (.rw 15) 0,.ptr (.rw 16) 0,.func 76 [.ptr (.rw 17) 0]]
noncomputable def rcK (p:Nat):List AV:=rcA (loopN Try.f31 0) p F0k
theorem N31_eq:loopN Try.f31 0=.rangeFunc (rgG (loopN Try.f31 0)) (Ml (loopN Try.f31 0)) (Gy (loopN Try.f31 0)) (Fi (loopN Try.f31 0)):=by kernel_rfl
theorem rcK_b (q:Nat):A8 18 (rcK q)=true:=by kernel_rfl
end Go.Am
namespace Go.Am
open Go.Proofs Crc
set_option maxRecDepth 100000
theorem dgK (G:Nat→List AV) (B:Nat) {c:Code} (hc:loopsOf c=[]):I9 (⟨Try.prog,G,B⟩:A3) (Dc Try.prog [] [] [] 0) (loopsOf c):=by rw [hc];exact dgood (mix G B) (by kernel_rfl) .nil .nil
theorem Dw {G:Nat→List AV} {H K:DHp}:vHp G (H++K)=vHp G H++vHp G K:=by simp [vHp]
noncomputable def bG (s:Ptb) (cc:Nat) (sl z:List AV) (n:Int) (c:Nat) (ys xr:List AV):Hp:=Cw s cc sl z++[some ⟨1,[.int .i64 n]⟩,some ⟨1,[.slice true (.rw 21) 0 (c+1)]⟩,some ⟨1,[.ptr (.rw 0) 0]⟩,some ⟨4294967291,rcK 0⟩,none,some ⟨1,xr⟩,some ⟨1,ys⟩]
noncomputable def Lb (s:Ptb) (cc:Nat) (sl z:List AV) (n:Int) (c:Nat) (ys:List AV):Hp:=Mr s cc sl z n c (rcK 0) ys
def Bd (n x:Int):Bool:=decide (n≥1)&&x==n
theorem bm {n:Nat} {l:List AV} (h:A8 0 l=true):A8 n l=true:=C6 (Nat.zero_le _) _ h
theorem hpB_app {m:Nat}:∀ {H K:Hp},D7 m H=true→D7 m K=true→D7 m (H++K)=true
 | [],K,_,h=>h
 | none::H,K,h1,h2=>by simp only [List.cons_append,D7] at h1 ⊢;exact hpB_app h1 h2
 | some b::H,K,h1,h2=>by
  simp only [List.cons_append,D7,Bool.and_eq_true] at h1 ⊢;exact ⟨h1.1,hpB_app h1.2 h2⟩
theorem cQ {m q:Nat} (h:18≤m):A8 m (rcK q)=true:=C6 h _ (rcK_b q)
theorem gK {θ:List Nat}:∀ i,i<15→([0,1,2,3,4,5,6,7,8,9,10,11,12,13,14]++θ).getD i 0=i:=fun i hi=>by
 match i,hi with
 | 0,_ | 1,_ | 2,_ | 3,_ | 4,_ | 5,_ | 6,_ | 7,_ | 8,_ | 9,_ | 10,_ | 11,_ | 12,_ | 13,_ | 14,_=>rfl
theorem rcK_r1:rens ([0,1,2,3,4,5,6,7,8,9,10,11,12,13,14]++[15,16,17,18,19,20,23]) (rcK 0)=rcK 0:=by kernel_rfl
theorem rcK_r2:rens ([0,1,2,3,4,5,6,7,8,9,10,11,12,13,14]++[15,16,17,18,21]) (rcK 0)=rcK 0:=by kernel_rfl
theorem y_k (G:Nat→List AV) (B:Nat) {s:Ptb} {cc:Nat} {sl z:List AV} (hfl:Ti sl z) (n:Int) (c:Nat) (ys xr:List AV) (hc:c=ys.length) (hc':c≤100) (hy:A8 0 ys=true) (hx:A8 15 xr=true) (x0 x1 x2 x3:Int) (xb:Bool) (x5:Int) :
    AYld (⟨Try.prog,G,B⟩:A3) 18 [.agg (M3 (⟨x0,x1,x2,x3,xb,x5⟩:Pc))] (Lb s cc sl z n c ys++[some ⟨1,xr⟩]) fun v H'=>v=.bool true∧(Bd n x1=true→H'=bG s cc sl z n c (ys++[.int .i64 x0]) xr)∧(Bd n x1=false→H'=Lb s cc sl z n c ys++[some ⟨1,xr⟩]):=by
  unfold Lb;rw [← hKx G]
  refine AYld.dxv (C:=(⟨Try.prog,G,B⟩:A3)) (K:=(Dc Try.prog [] [] [] 0)) (f1:=200) (f2:=300) (n1:=60) (n2:=60) (N:=24) (live:=[3,5,8,9,6]) (i:=18) (e:=4294967291) (ps:=Ml (loopN Try.f31 0)) (ac:=Gy (loopN Try.f31 0)) (bd:=Fi (loopN Try.f31 0)) (F0:=F0k) (args:=[.agg (M3 (⟨x0,x1,x2,x3,xb,x5⟩:Pc))])
    (vs:=[.ptr (.rw 15) (.lit 0),.ptr (.rw 16) (.lit 0),.func 76 [.ptr (.rw 17) (.lit 0)],.agg (.of [.int .i64 (.var 11 x0),.int .i64 (.var 12 x1),.int .i64 (.var 13 x2),.int .i64 (.var 14 x3),.bool (.var 15 xb),.int .i64 (.var 16 x5)]),.undef]) (vs1:=[.ptr (.rw 15) (.lit 0),.ptr (.rw 16) (.lit 0),.func 76 [.ptr (.rw 17) (.lit 0)],.agg (.of [.int .i64 (.var 11 x0),.int .i64 (.var 12 x1),.int .i64 (.var 13 x2),.int .i64 (.var 14 x3),.bool (.var 15 xb),.int .i64 (.var 16 x5)]),.ptr (.rw 21) (.lit 0)])
    (H:=(Ab (.var 1 (encV (ptC s cc) s)) (.var 2 sl) (.var 5 z) (.var 3 n) (.var 4 c) (.var 24 (rcK 0)) (.var 22 ys))++([some ⟨1,.var 23 xr⟩]:DHp)) (H1:=(Ab (.var 1 (encV (ptC s cc) s)) (.var 2 sl) (.var 5 z) (.var 3 n) (.var 4 c) (.var 24 (rcK 0)) (.var 22 ys))++([some ⟨1,.var 23 xr⟩]:DHp)++([some ⟨1,(.of [.int .i64 (.var 11 x0),.int .i64 (.var 12 x1),.int .i64 (.var 13 x2),.int .i64 (.var 14 x3),.bool (.var 15 xb),.int .i64 (.var 16 x5)])⟩]:DHp)) (H2:=(Ab (.var 1 (encV (ptC s cc) s)) (.var 2 sl) (.var 5 z) (.var 3 n) (.var 4 c) (.var 24 (rcK 1)) (.var 22 ys))++([some ⟨1,.var 23 xr⟩]:DHp)++([some ⟨1,(.of [.int .i64 (.var 11 x0),.int .i64 (.var 12 x1),.int .i64 (.var 13 x2),.int .i64 (.var 14 x3),.bool (.var 15 xb),.int .i64 (.var 16 x5)])⟩]:DHp))
    (dgK G B (by kernel_rfl)) (dgK G B (by kernel_rfl)) rfl rfl rfl (by kernel_rfl) (by kernel_rfl) rfl ?_ rfl (by simp [Ab,A2,hp3,fP]) rfl ?_
  · have:=k_as G (encV (ptC s cc) s) sl z (rcK 0) ys xr n c x0 x1 x2 x3 xb x5 (fun ex ws H'=>ex=.normal∧ws=vVs G [.ptr (.rw 15) (.lit 0),.ptr (.rw 16) (.lit 0),.func 76 [.ptr (.rw 17) (.lit 0)],.agg (.of [.int .i64 (.var 11 x0),.int .i64 (.var 12 x1),.int .i64 (.var 13 x2),.int .i64 (.var 14 x3),.bool (.var 15 xb),.int .i64 (.var 16 x5)]),.ptr (.rw 21) (.lit 0)]∧H'=vHp G ((Ab (.var 1 (encV (ptC s cc) s)) (.var 2 sl) (.var 5 z) (.var 3 n) (.var 4 c) (.var 24 (rcK 0)) (.var 22 ys))++([some ⟨1,.var 23 xr⟩]:DHp)++([some ⟨1,(.of [.int .i64 (.var 11 x0),.int .i64 (.var 12 x1),.int .i64 (.var 13 x2),.int .i64 (.var 14 x3),.bool (.var 15 xb),.int .i64 (.var 16 x5)])⟩]:DHp))) (fun _ _=>False)
    exact Eq.mpr this ⟨rfl,rfl,rfl⟩
  · have:=k_bd G (encV (ptC s cc) s) sl z (rcK 1) ys xr n c x0 x1 x2 x3 xb x5 (fun ex _ H'=>H'[18]?=some (some ⟨4294967291,.rcd 1 (Ml (loopN Try.f31 0)) (Gy (loopN Try.f31 0)) (Fi (loopN Try.f31 0))::F0k⟩)∧∃ H'',C8 ((Ab (.var 1 (encV (ptC s cc) s)) (.var 2 sl) (.var 5 z) (.var 3 n) (.var 4 c) (.var 24 (rcK 0)) (.var 22 ys))++([some ⟨1,.var 23 xr⟩]:DHp)).length [.bool (G7 ex)] H'' [.bool (G7 ex)] (H'.set 18 (some ⟨4294967291,.rcd (Ib ex) (Ml (loopN Try.f31 0)) (Gy (loopN Try.f31 0)) (Fi (loopN Try.f31 0))::F0k⟩))∧(AV.bool (G7 ex)=.bool true∧(Bd n x1=true→H''=bG s cc sl z n c (ys++[.int .i64 x0]) xr)∧(Bd n x1=false→H''=vHp G ((Ab (.var 1 (encV (ptC s cc) s)) (.var 2 sl) (.var 5 z) (.var 3 n) (.var 4 c) (.var 24 (rcK 0)) (.var 22 ys))++([some ⟨1,.var 23 xr⟩]:DHp))))) (fun _ _=>False)
    have no:∀ (K:Hp),Bd n x1=false→(vHp G ((Ab (.var 1 (encV (ptC s cc) s)) (.var 2 sl) (.var 5 z) (.var 3 n) (.var 4 c) (.var 24 (rcK 1)) (.var 22 ys))++([some ⟨1,.var 23 xr⟩]:DHp)++([some ⟨1,(.of [.int .i64 (.var 11 x0),.int .i64 (.var 12 x1),.int .i64 (.var 13 x2),.int .i64 (.var 14 x3),.bool (.var 15 xb),.int .i64 (.var 16 x5)])⟩]:DHp))).set 18 (some (⟨4294967291,rcK 0⟩:Blk))=Mr s cc sl z n c (rcK 0) ys++[some (⟨1,xr⟩:Blk)]++[some (⟨1,M3 (⟨x0,x1,x2,x3,xb,x5⟩:Pc)⟩:Blk)]→∃ H'',C8 ((Ab (.var 1 (encV (ptC s cc) s)) (.var 2 sl) (.var 5 z) (.var 3 n) (.var 4 c) (.var 24 (rcK 0)) (.var 22 ys))++([some ⟨1,.var 23 xr⟩]:DHp)).length [.bool true] H'' [.bool true] ((vHp G ((Ab (.var 1 (encV (ptC s cc) s)) (.var 2 sl) (.var 5 z) (.var 3 n) (.var 4 c) (.var 24 (rcK 1)) (.var 22 ys))++([some ⟨1,.var 23 xr⟩]:DHp)++([some ⟨1,(.of [.int .i64 (.var 11 x0),.int .i64 (.var 12 x1),.int .i64 (.var 13 x2),.int .i64 (.var 14 x3),.bool (.var 15 xb),.int .i64 (.var 16 x5)])⟩]:DHp))).set 18 (some (⟨4294967291,rcK 0⟩:Blk)))∧(AV.bool true=.bool true∧(Bd n x1=true→H''=bG s cc sl z n c (ys++[.int .i64 x0]) xr)∧(Bd n x1=false→H''=vHp G ((Ab (.var 1 (encV (ptC s cc) s)) (.var 2 sl) (.var 5 z) (.var 3 n) (.var 4 c) (.var 24 (rcK 0)) (.var 22 ys))++([some ⟨1,.var 23 xr⟩]:DHp)))):=fun _ hk e=>by
      refine ⟨Mr s cc sl z n c (rcK 0) ys++[some (⟨1,xr⟩:Blk)],?_,rfl,fun h=>(by rw [hk] at h;cases h),fun _=>by rw [hKx G]⟩;rw [e];refine C8.same (G:=[some (⟨1,M3 (⟨x0,x1,x2,x3,xb,x5⟩:Pc)⟩:Blk)]) (by simp [Ab,Mr,R2]) ?_ ⟨⟨rfl,rfl⟩,trivial⟩;have hl:(Mr s cc sl z n c (rcK 0) ys++[some (⟨1,xr⟩:Blk)]).length=21:=by simp [Mr,R2]
      rw [hl];unfold Mr;refine hpB_app (hpB_app (aC hfl (by omega)) ?_) ?_
      · simp only [D7,bm hy,cQ (show 18≤21 by omega),A8,bnd,Bool.and_self,Bool.and_true];rfl
      · simp only [D7,C6 (show 15≤21 by omega) _ hx,Bool.and_self]
    have e1:(vHp G ((Ab (.var 1 (encV (ptC s cc) s)) (.var 2 sl) (.var 5 z) (.var 3 n) (.var 4 c) (.var 24 (rcK 1)) (.var 22 ys))++([some ⟨1,.var 23 xr⟩]:DHp)++([some ⟨1,(.of [.int .i64 (.var 11 x0),.int .i64 (.var 12 x1),.int .i64 (.var 13 x2),.int .i64 (.var 14 x3),.bool (.var 15 xb),.int .i64 (.var 16 x5)])⟩]:DHp))).set 18 (some (⟨4294967291,rcK 0⟩:Blk))=Mr s cc sl z n c (rcK 0) ys++[some (⟨1,xr⟩:Blk)]++[some (⟨1,M3 (⟨x0,x1,x2,x3,xb,x5⟩:Pc)⟩:Blk)]:=by
      rw [←hKx G,←show vHp G [some (⟨1,(.of [.int .i64 (.var 11 x0),.int .i64 (.var 12 x1),.int .i64 (.var 13 x2),.int .i64 (.var 14 x3),.bool (.var 15 xb),.int .i64 (.var 16 x5)])⟩:DBlk)]=[some (⟨1,M3 (⟨x0,x1,x2,x3,xb,x5⟩:Pc)⟩:Blk)] from rfl,←Dw];rfl
    refine Eq.mpr this ⟨fun h1=>⟨fun h2=>⟨A6.2 (by omega),by rw [hc];exact Nat.beq_refl _,rfl,bG s cc sl z n c (ys++[.int .i64 x0]) xr,?_,rfl,fun _=>rfl,fun q=>?_⟩,fun h2=>⟨rfl,no [] ?_ e1⟩⟩,fun h1=>⟨rfl,no [] ?_ e1⟩⟩
    · have f2:A8 0 (ys++[.int .i64 x0])=true:=by rw [I1] at hy ⊢;simp [hy,bnd]
      have hl:(bG s cc sl z n c (ys++[.int .i64 x0]) xr).length=22:=by simp [bG,R2]
      refine C8.renM (θ:=[0,1,2,3,4,5,6,7,8,9,10,11,12,13,14]++[15,16,17,18,19,20,23]) (by rw [hl];simp [Ab,A2,hp3,fP]) (fun i hi=>?_) (by decide) ?_ rfl (by simp [rens,ren,wk])
      · have hi:i<21:=by simpa [Ab] using hi
        exact (by decide:∀ i,i<21→([0,1,2,3,4,5,6,7,8,9,10,11,12,13,14]++[15,16,17,18,19,20,23]:List Nat).getD i 0=i) i hi
      · rw [hl];refine Vi hfl (by omega) gK rfl ?_;refine ⟨⟨rfl,rfl⟩,⟨rfl,rfl⟩,⟨rfl,rfl⟩,⟨cQ (by omega),by rw [rcK_r1];rfl⟩,by simp [Ab,A2,hp3,fP],⟨C6 (by omega) _ hx,by rw [Aj gK _ hx];rfl⟩,⟨bm f2,by rw [E0 _ _ f2];rfl⟩,trivial⟩
    · unfold Bd at q;rw [show decide (n≥1)=true from h1,show (x1==n)=true from h2] at q;cases q
    · unfold Bd;rw [show (x1==n)=false from h2,Bool.and_false]
    · unfold Bd;rw [show decide (n≥1)=false from h1,Bool.false_and]
end Go.Am
