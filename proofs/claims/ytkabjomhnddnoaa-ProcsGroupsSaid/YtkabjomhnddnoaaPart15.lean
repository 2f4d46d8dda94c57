/-
  Processes: the program's End: trees. Processes: the program's End: what it does, its loops.
-/
import Derived.Test.YtkabjomhnddnoaaPart14
import Derived.Test.YtkabjomhnddnoaaBase10
namespace Go.Am
open Go.Proofs Crc
set_option maxRecDepth 100000
theorem e_l0 (G:Nat→List AV) (tb sl z ks:List AV) (c i:Nat) (Q:Ex→List AV→Hp→Prop) (R:AV→Hp→Prop):vT G Q R (dloop (Dc Try.prog [] [] [] 0) 300 40 14 (loopN Try.f27 0) 82 [0,6,44,45,46] [.ptr (.rw 0) (.lit 0),.int .i64 (.lit 0),.slice true (.rw 15) (.lit 0) (.var 6 c),.int .i64 (.ofN (.var 6 c)),.int .i64 (.ofN (.var 8 i))] (hp3 [some ⟨1,.var 1 tb⟩] (.var 2 sl) [some ⟨1,.var 23 z⟩,some ⟨1,.var 22 ks⟩]))=(
  (decide ((((i:Nat):Int):Int)<((c:Nat):Int))=true→
 decide ((0:Int)≤((i:Nat):Int))=true∧
 decide ((((i:Nat):Int):Int)<((c:Nat):Int))=true∧
 isI .i64 ks (i)=true∧
 decide ((0:Int)≤getI ks (i))=true∧
 decide ((getI ks (i):Int)<13)=true∧
 leB ((Int.toNat (getI ks (i)))*7+3) (List.length tb)=true∧
 Q .normal [.ptr (.rw 0) (0),.int .i64 (0),.slice true (.rw 15) (0) (c),.int .i64 (((c:Nat):Int)),.int .i64 (IntKind.wrap .i64 (((i:Nat):Int)+1))] ([some ⟨1,(setPart tb ((Int.toNat (getI ks (i)))*7+2) (.int .i64 (1)))⟩]++(rows13 sl++[some ⟨1,z⟩,some ⟨1,ks⟩])))∧
 (decide ((((i:Nat):Int):Int)<((c:Nat):Int))=false→
 Q (.exit 0) [.ptr (.rw 0) (0),.int .i64 (0),.slice true (.rw 15) (0) (c),.int .i64 (((c:Nat):Int)),.int .i64 (((i:Nat):Int))] ([some ⟨1,tb⟩]++(rows13 sl++[some ⟨1,z⟩,some ⟨1,ks⟩])))):=by kernel_rfl
theorem e_l2 (G:Nat→List AV) (tb sl z ks kt:List AV) (c i:Nat) (Q:Ex→List AV→Hp→Prop) (R:AV→Hp→Prop):vT G Q R (dloop (Dc Try.prog [] [] [] 0) 300 40 14 (loopN Try.f27 1) 82 [0,6,61,62,63] [.ptr (.rw 0) (.lit 0),.int .i64 (.lit 0),.slice true (.rw 16) (.lit 0) (.var 6 c),.int .i64 (.ofN (.var 6 c)),.int .i64 (.ofN (.var 8 i))] (hp3 [some ⟨1,.var 1 tb⟩] (.var 2 sl) [some ⟨1,.var 23 z⟩,some ⟨1,.var 22 ks⟩,some ⟨1,.var 25 kt⟩]))=(
  (decide ((((i:Nat):Int):Int)<((c:Nat):Int))=true→
 decide ((0:Int)≤((i:Nat):Int))=true∧
 decide ((((i:Nat):Int):Int)<((c:Nat):Int))=true∧
 isI .i64 kt (i)=true∧
 decide ((0:Int)≤getI kt (i))=true∧
 decide ((getI kt (i):Int)<13)=true∧
 isB tb ((Int.toNat (getI kt (i)))*7+5)=true∧
 (getB tb ((Int.toNat (getI kt (i)))*7+5)=true→
 decide ((0:Int)≤getI kt (i))=true∧
 decide ((getI kt (i):Int)<13)=true∧
 leB ((Int.toNat (getI kt (i)))*7+8) (List.length tb)=true∧
 Q .normal [.ptr (.rw 0) (0),.int .i64 (0),.slice true (.rw 16) (0) (c),.int .i64 (((c:Nat):Int)),.int .i64 (IntKind.wrap .i64 (((i:Nat):Int)+1))] ([some ⟨1,(setPart tb ((Int.toNat (getI kt (i)))*7+1) (.agg ([.int .i64 (0),.int .i64 (0),.int .i64 (0),.int .i64 (0),.bool (false),.int .i64 (0),.nilp]:List AV)))⟩]++(rows13 sl++[some ⟨1,z⟩,some ⟨1,ks⟩,some ⟨1,kt⟩])))∧
 (getB tb ((Int.toNat (getI kt (i)))*7+5)=false→
 Q .normal [.ptr (.rw 0) (0),.int .i64 (0),.slice true (.rw 16) (0) (c),.int .i64 (((c:Nat):Int)),.int .i64 (IntKind.wrap .i64 (((i:Nat):Int)+1))] ([some ⟨1,tb⟩]++(rows13 sl++[some ⟨1,z⟩,some ⟨1,ks⟩,some ⟨1,kt⟩]))))∧
 (decide ((((i:Nat):Int):Int)<((c:Nat):Int))=false→
 Q (.exit 2) [.ptr (.rw 0) (0),.int .i64 (0),.slice true (.rw 16) (0) (c),.int .i64 (((c:Nat):Int)),.int .i64 (((i:Nat):Int))] ([some ⟨1,tb⟩]++(rows13 sl++[some ⟨1,z⟩,some ⟨1,ks⟩,some ⟨1,kt⟩])))):=by kernel_rfl
theorem e_c (G:Nat→List AV) (k15 k14 rl rm:List AV→Bool) (tb sl z ks kt t2 t3:List AV) (n a:Int) (Q:Ex→List AV→Hp→Prop) (R:AV→Hp→Prop):vT G Q R (dcall (Df Try.prog [(48,1,13)] [36,38,39,20] [(31,kidsQ k15 k14),(58,fChildS sideP)] [DLat 2340 (rl) 0 82 [0,6,44,45,46] (.one (.exit 0) [.ptr (.rw 0) (.lit 0),.int .i64 (.lit 0),.undef,.undef,.undef] (hp3 [some ⟨1,.var 21 t2⟩] (.var 2 sl) [some ⟨1,.var 23 z⟩,some ⟨1,.var 22 ks⟩])),DLat 2341 (rm) 2 82 [0,6,61,62,63] (.one (.exit 2) [.ptr (.rw 0) (.lit 0),.int .i64 (.lit 0),.undef,.undef,.undef] (hp3 [some ⟨1,.var 26 t3⟩] (.var 2 sl) [some ⟨1,.var 23 z⟩,some ⟨1,.var 22 ks⟩,some ⟨1,.var 25 kt⟩]))] 14) 300 40 Try.f27 [.ptr (.rw 0) (.lit 0),.int .i64 (.var 3 n),.int .i64 (.var 4 a)] (hp3 [some ⟨1,.var 1 tb⟩] (.var 2 sl) []) 15)=(
  isB tb (0)=true∧
 (getB tb (0)=true→
 isB tb (0)=true∧
 getB tb (0)=true∧
 (decide ((n:Int)≥1)=true→
 (decide ((n:Int)≤12)=true→
 decide ((0:Int)≤n)=true∧
 decide ((n:Int)<13)=true∧
 isI .i64 tb ((Int.toNat (n))*7+1)=true∧
 (((getI tb ((Int.toNat (n))*7+1):Int)==n)=true→
 decide ((0:Int)≤n)=true∧
 decide ((n:Int)<13)=true∧
 isB tb ((Int.toNat (n))*7+5)=true∧
 (getB tb ((Int.toNat (n))*7+5)=true→
 R (.int .i64 (6)) ([some ⟨1,tb⟩]++rows13 sl))∧
 (getB tb ((Int.toNat (n))*7+5)=false→
 decide ((0:Int)≤n)=true∧
 decide ((n:Int)<13)=true∧
 (isNilA tb ((Int.toNat (n))*7+7)=true→
 False)∧
 (isNilA tb ((Int.toNat (n))*7+7)=false→
 isPA 1 13 tb ((Int.toNat (n))*7+7)=true∧
 Nat.beq (foA tb ((Int.toNat (n))*7+7)) (0)=true∧
 leB (fkA 1 tb ((Int.toNat (n))*7+7)+1) (13)=true∧
 rowsA sl (rp 13 sl)=true∧
 leB (fkA 1 tb ((Int.toNat (n))*7+7)+1) (List.length sl)=true∧
 okU [.agg (rowA sl (fkA 1 tb ((Int.toNat (n))*7+7)))]=true∧
 leB ((Int.toNat (n))*7+6) (List.length tb)=true∧
 leB ((Int.toNat (n))*7+7) (List.length (setPart tb ((Int.toNat (n))*7+5) (.bool (true))))=true∧
 leB ((Int.toNat (n))*7+8) (List.length (setPart (setPart tb ((Int.toNat (n))*7+5) (.bool (true))) ((Int.toNat (n))*7+6) (.int .i64 (kAnd .i64 (a) (255)))))=true∧
 rowsA sl (rp 13 sl)=true∧
 k15 [.agg (setPart (setPart (setPart tb ((Int.toNat (n))*7+5) (.bool (true))) ((Int.toNat (n))*7+6) (.int .i64 (kAnd .i64 (a) (255)))) ((Int.toNat (n))*7+7) (.ptr (.rw 14) (0))),.agg sl,.agg (childU [.agg (rowA sl (fkA 1 tb ((Int.toNat (n))*7+7)))])]=true∧
 (rl) [.agg ([.ptr (.rw 0) (0),.int .i64 (0),.slice true (.rw 15) (0) (kidNU [.agg (setPart (setPart (setPart tb ((Int.toNat (n))*7+5) (.bool (true))) ((Int.toNat (n))*7+6) (.int .i64 (kAnd .i64 (a) (255)))) ((Int.toNat (n))*7+7) (.ptr (.rw 14) (0))),.int .i64 (n)]),.int .i64 (((kidNU [.agg (setPart (setPart (setPart tb ((Int.toNat (n))*7+5) (.bool (true))) ((Int.toNat (n))*7+6) (.int .i64 (kAnd .i64 (a) (255)))) ((Int.toNat (n))*7+7) (.ptr (.rw 14) (0))),.int .i64 (n)]:Nat):Int)),.int .i64 (0)]:List AV),.agg ((tp3 [.tup [.int .i64 (1),.agg (setPart (setPart (setPart tb ((Int.toNat (n))*7+5) (.bool (true))) ((Int.toNat (n))*7+6) (.int .i64 (kAnd .i64 (a) (255)))) ((Int.toNat (n))*7+7) (.ptr (.rw 14) (0)))]] sl [.tup [.int .i64 (1),.agg (childU [.agg (rowA sl (fkA 1 tb ((Int.toNat (n))*7+7)))])],.tup [.int .i64 (1),.agg (kidLU [.agg (setPart (setPart (setPart tb ((Int.toNat (n))*7+5) (.bool (true))) ((Int.toNat (n))*7+6) (.int .i64 (kAnd .i64 (a) (255)))) ((Int.toNat (n))*7+7) (.ptr (.rw 14) (0))),.int .i64 (n)])]]):List AV)]=true∧
 isB t2 (0)=true∧
 (getB t2 (0)=true→
 isI .i64 t2 (8)=true∧
 (((getI t2 (8):Int)==1)=true→
 isB t2 (12)=true∧
 (getB t2 (12)=true→
 rowsA sl (rp 13 sl)=true∧
 k15 [.agg t2,.agg sl,.agg z]=true∧
 (rm) [.agg ([.ptr (.rw 0) (0),.int .i64 (0),.slice true (.rw 16) (0) (kidNU [.agg t2,.int .i64 (1)]),.int .i64 (((kidNU [.agg t2,.int .i64 (1)]:Nat):Int)),.int .i64 (0)]:List AV),.agg ((tp3 [.tup [.int .i64 (1),.agg t2]] sl [.tup [.int .i64 (1),.agg z],.tup [.int .i64 (1),.agg ks],.tup [.int .i64 (1),.agg (kidLU [.agg t2,.int .i64 (1)])]]):List AV)]=true∧
 R (.int .i64 (0)) ([some ⟨1,t3⟩]++(rows13 sl++[some ⟨1,z⟩])))∧
 (getB t2 (12)=false→
 R (.int .i64 (0)) ([some ⟨1,t2⟩]++(rows13 sl++[some ⟨1,z⟩]))))∧
 (((getI t2 (8):Int)==1)=false→
 rowsA sl (rp 13 sl)=true∧
 k15 [.agg t2,.agg sl,.agg z]=true∧
 (rm) [.agg ([.ptr (.rw 0) (0),.int .i64 (0),.slice true (.rw 16) (0) (kidNU [.agg t2,.int .i64 (1)]),.int .i64 (((kidNU [.agg t2,.int .i64 (1)]:Nat):Int)),.int .i64 (0)]:List AV),.agg ((tp3 [.tup [.int .i64 (1),.agg t2]] sl [.tup [.int .i64 (1),.agg z],.tup [.int .i64 (1),.agg ks],.tup [.int .i64 (1),.agg (kidLU [.agg t2,.int .i64 (1)])]]):List AV)]=true∧
 R (.int .i64 (0)) ([some ⟨1,t3⟩]++(rows13 sl++[some ⟨1,z⟩]))))∧
 (getB t2 (0)=false→
 rowsA sl (rp 13 sl)=true∧
 k15 [.agg t2,.agg sl,.agg z]=true∧
 (rm) [.agg ([.ptr (.rw 0) (0),.int .i64 (0),.slice true (.rw 16) (0) (kidNU [.agg t2,.int .i64 (1)]),.int .i64 (((kidNU [.agg t2,.int .i64 (1)]:Nat):Int)),.int .i64 (0)]:List AV),.agg ((tp3 [.tup [.int .i64 (1),.agg t2]] sl [.tup [.int .i64 (1),.agg z],.tup [.int .i64 (1),.agg ks],.tup [.int .i64 (1),.agg (kidLU [.agg t2,.int .i64 (1)])]]):List AV)]=true∧
 R (.int .i64 (0)) ([some ⟨1,t3⟩]++(rows13 sl++[some ⟨1,z⟩]))))))∧
 (((getI tb ((Int.toNat (n))*7+1):Int)==n)=false→
 R (.int .i64 (6)) ([some ⟨1,tb⟩]++rows13 sl)))∧
 (decide ((n:Int)≤12)=false→
 R (.int .i64 (6)) ([some ⟨1,tb⟩]++rows13 sl)))∧
 (decide ((n:Int)≥1)=false→
 R (.int .i64 (6)) ([some ⟨1,tb⟩]++rows13 sl)))∧
 (getB tb (0)=false→
 R (.int .i64 (1)) ([some ⟨1,tb⟩]++rows13 sl))):=by kernel_rfl
end Go.Am
namespace Go.Am
open Go.Proofs Crc
set_option maxRecDepth 100000
theorem V_get {p:Nat→AV} {s:Ptb} {n k:Nat} (hn:n<13) (hk:k<7):(encV p s)[n*7+(k+1)]?=some (fcell (s.at_ n) (p n) k):=by
 unfold encV
 rw [show n*7+(k+1)=(n*7+k)+1 by omega,List.getElem?_cons_succ,tabL_get hn hk]
theorem V_num {p:Nat→AV} {s:Ptb} {n:Nat} (hn:n<13):isI .i64 (encV p s) (n*7+1)=true∧getI (encV p s) (n*7+1)=(s.at_ n).num:=by simp [isI,getI,V_get (p:=p) (s:=s) (k:=0) hn (by omega),fcell]
theorem V_en {p:Nat→AV} {s:Ptb} {n:Nat} (hn:n<13):isB (encV p s) (n*7+5)=true∧getB (encV p s) (n*7+5)=(s.at_ n).en:=by simp [isB,getB,V_get (p:=p) (s:=s) (k:=4) hn (by omega),fcell]
def parU (s:Ptb) (c:Nat):Ptb:=updC s c { s.at_ c with par:=1 }
def parL (s:Ptb):List Nat→Ptb:=fun l=>l.foldl parU s
def endU (s:Ptb) (c:Nat):Ptb:=if (s.at_ c).en=true then freeX s c else s
def endL (s:Ptb):List Nat→Ptb:=fun l=>l.foldl endU s
theorem take_snoc {l:List Nat} {i:Nat} (hi:i<l.length):l.take (i+1)=l.take i++[l[i]]:=by
 rw [List.take_add_one,List.getElem?_eq_getElem hi];rfl
theorem parL_step {s:Ptb} {l:List Nat} {i:Nat} (hi:i<l.length):parL s (l.take (i+1))=parU (parL s (l.take i)) l[i]:=by
 unfold parL;rw [take_snoc hi,List.foldl_append];rfl
theorem endL_step {s:Ptb} {l:List Nat} {i:Nat} (hi:i<l.length):endL s (l.take (i+1))=endU (endL s (l.take i)) l[i]:=by
 unfold endL;rw [take_snoc hi,List.foldl_append];rfl
theorem V_par {s:Ptb} {q c:Nat}:setPart (encV (ptC s q) s) (c*7+2) (.int .i64 1)=encV (ptC (parU s c) q) (parU s c):=
 V_set (p:=ptC s q) (n:=c) (k:=1) (s:=s) (x:={ s.at_ c with par:=1 }) (by omega) (by intro l h;cases h) fun j hj=>by
  match j,hj with
  | 0,_ | 1,_ | 2,_ | 3,_ | 4,_ | 5,_=>rfl
theorem V_free {s:Ptb} {q c:Nat} (hc:c<13):setPart (encV (ptC s q) s) (c*7+1) (.agg (rowT zc .nilp))=encV (ptC (freeX s c) q) (freeX s c):=by
 rw [V_row hc]
 show encV _ _=encV _ _
 unfold encV
 congr 1
 refine tabL_congr fun a j _ _=>?_
 show fcell (if a=c then zc else s.at_ a) (if a=c then .nilp else ptC s q a) j=fcell (if a=c then zc else s.at_ a) (ptC (freeX s c) q a) j
 congr 1
 unfold ptC
 show _=match (if a=c then none else s.sg a) with | none=>AV.nilp | some _=>_
 by_cases e:a=c
 ·simp only [if_pos e]
 ·simp only [if_neg e]
  cases s.sg a<;>rfl
theorem e0_loop (G:Nat→List AV) (B:Nat) (s:Ptb) (q:Nat) (sl z:List AV) (ks:List Nat) (hk:∀ x∈ks,x<13) (hl:ks.length≤13):AWp (⟨Try.prog,G,B⟩:Ctx) 14 (.loop (loopN Try.f27 0)) (fl 82 [0,6,44,45,46] [.ptr (.rw 0) 0,.int .i64 0,.slice true (.rw 15) 0 ks.length,.int .i64 (ks.length:Int),.int .i64 0]) (vHp G (hp3 [some ⟨1,.var 1 (encV (ptC s q) s)⟩] (.var 2 sl) [some ⟨1,.var 23 z⟩,some ⟨1,.var 22 (nl ks)⟩])) (lv 82 [0,6,44,45,46] (LOut.post G 14 (.one (.exit 0) [.ptr (.rw 0) (.lit 0),.int .i64 (.lit 0),.undef,.undef,.undef] (hp3 [some ⟨1,.var 21 (encV (ptC (parL s ks) q) (parL s ks))⟩] (.var 2 sl) [some ⟨1,.var 23 z⟩,some ⟨1,.var 22 (nl ks)⟩])))):=by
 refine scan ks.length (fun i=>[.ptr (.rw 0) 0,.int .i64 0,.slice true (.rw 15) 0 ks.length,.int .i64 (ks.length:Int),.int .i64 (i:Int)]) (fun i=>vHp G (hp3 [some ⟨1,.var 1 (encV (ptC (parL s (ks.take i)) q) (parL s (ks.take i)))⟩] (.var 2 sl) [some ⟨1,.var 23 z⟩,some ⟨1,.var 22 (nl ks)⟩])) fun i hi=>?_
 refine dloop_ok (C:=(⟨Try.prog,G,B⟩:Ctx)) (K:=Dc Try.prog [] [] [] 0) (dgood (mix G B) (by kernel_rfl) .nil .nil) (fuel:=300) (n0:=40) (m:=14) (c:=loopN Try.f27 0)
  (vs:=[.ptr (.rw 0) (.lit 0),.int .i64 (.lit 0),.slice true (.rw 15) (.lit 0) (.var 6 ks.length),.int .i64 (.ofN (.var 6 ks.length)),.int .i64 (.ofN (.var 8 i))]) (H:=(hp3 [some ⟨1,.var 1 (encV (ptC (parL s (ks.take i)) q) (parL s (ks.take i)))⟩] (.var 2 sl) [some ⟨1,.var 23 z⟩,some ⟨1,.var 22 (nl ks)⟩])) (Nat.le_of_ble_eq_true rfl) ?_
 rw [e_l0]
 refine ⟨fun h=>?_,fun h=>?_⟩
 ·have hlt:i<ks.length:=by have:=of_decide_eq_true h;omega
  obtain ⟨k1,k2⟩:=nl_getI (l:=ks) hlt
  have hc:=hk _ (List.getElem_mem hlt)
  rw [k2,Int.toNat_natCast,V_par,i64_in (by omega)]
  refine ⟨decide_eq_true (by omega),h,k1,decide_eq_true (by omega),decide_eq_true (by omega),leB_iff.2 (by rw [encV_len];omega),hlt,.inl ⟨rfl,?_⟩⟩
  rw [parL_step hlt];rfl
 ·have he:i=ks.length:=by have:=of_decide_eq_false h;omega
  subst he
  refine ⟨rfl,.inl ⟨by simp [wk,vVs,vV,vR,vN,vI],?_⟩⟩
  rw [List.take_length];rfl
theorem e2_loop (G:Nat→List AV) (B:Nat) (s:Ptb) (q:Nat) (sl z ys:List AV) (ks:List Nat) (hk:∀ x∈ks,x<13) (hl:ks.length≤13):AWp (⟨Try.prog,G,B⟩:Ctx) 14 (.loop (loopN Try.f27 1)) (fl 82 [0,6,61,62,63] [.ptr (.rw 0) 0,.int .i64 0,.slice true (.rw 16) 0 ks.length,.int .i64 (ks.length:Int),.int .i64 0]) (vHp G (hp3 [some ⟨1,.var 1 (encV (ptC s q) s)⟩] (.var 2 sl) [some ⟨1,.var 23 z⟩,some ⟨1,.var 22 ys⟩,some ⟨1,.var 25 (nl ks)⟩])) (lv 82 [0,6,61,62,63] (LOut.post G 14 (.one (.exit 2) [.ptr (.rw 0) (.lit 0),.int .i64 (.lit 0),.undef,.undef,.undef] (hp3 [some ⟨1,.var 26 (encV (ptC (endL s ks) q) (endL s ks))⟩] (.var 2 sl) [some ⟨1,.var 23 z⟩,some ⟨1,.var 22 ys⟩,some ⟨1,.var 25 (nl ks)⟩])))):=by
 refine scan ks.length (fun i=>[.ptr (.rw 0) 0,.int .i64 0,.slice true (.rw 16) 0 ks.length,.int .i64 (ks.length:Int),.int .i64 (i:Int)]) (fun i=>vHp G (hp3 [some ⟨1,.var 1 (encV (ptC (endL s (ks.take i)) q) (endL s (ks.take i)))⟩] (.var 2 sl) [some ⟨1,.var 23 z⟩,some ⟨1,.var 22 ys⟩,some ⟨1,.var 25 (nl ks)⟩])) fun i hi=>?_
 refine dloop_ok (C:=(⟨Try.prog,G,B⟩:Ctx)) (K:=Dc Try.prog [] [] [] 0) (dgood (mix G B) (by kernel_rfl) .nil .nil) (fuel:=300) (n0:=40) (m:=14) (c:=loopN Try.f27 1)
  (vs:=[.ptr (.rw 0) (.lit 0),.int .i64 (.lit 0),.slice true (.rw 16) (.lit 0) (.var 6 ks.length),.int .i64 (.ofN (.var 6 ks.length)),.int .i64 (.ofN (.var 8 i))]) (H:=(hp3 [some ⟨1,.var 1 (encV (ptC (endL s (ks.take i)) q) (endL s (ks.take i)))⟩] (.var 2 sl) [some ⟨1,.var 23 z⟩,some ⟨1,.var 22 ys⟩,some ⟨1,.var 25 (nl ks)⟩])) (Nat.le_of_ble_eq_true rfl) ?_
 rw [e_l2]
 refine ⟨fun h=>?_,fun h=>?_⟩
 ·have hlt:i<ks.length:=by have:=of_decide_eq_true h;omega
  obtain ⟨k1,k2⟩:=nl_getI (l:=ks) hlt
  have hc:=hk _ (List.getElem_mem hlt)
  have e5:=V_en (p:=ptC (endL s (ks.take i)) q) (s:=endL s (ks.take i)) hc
  have ef:=V_free (s:=endL s (ks.take i)) (q:=q) hc
  unfold rowT zc at ef
  rw [k2,Int.toNat_natCast,e5.2,ef,i64_in (by omega)]
  refine ⟨decide_eq_true (by omega),h,k1,decide_eq_true (by omega),decide_eq_true (by omega),e5.1,fun he=>⟨decide_eq_true (by omega),decide_eq_true (by omega),leB_iff.2 (by rw [encV_len];omega),hlt,.inl ⟨rfl,?_⟩⟩,fun he=>⟨hlt,.inl ⟨rfl,?_⟩⟩⟩
  ·rw [endL_step hlt,show endU (endL s (ks.take i)) ks[i]=freeX (endL s (ks.take i)) ks[i] from if_pos he];rfl
  ·rw [endL_step hlt,show endU (endL s (ks.take i)) ks[i]=endL s (ks.take i) from if_neg (by rw [he];simp)];rfl
 ·have he:i=ks.length:=by have:=of_decide_eq_false h;omega
  subst he
  refine ⟨rfl,.inl ⟨by simp [wk,vVs,vV,vR,vN,vI],?_⟩⟩
  rw [List.take_length];rfl
def endS (s:Ptb) (n:Nat) (a:Int):Ptb:=⟨fun j=>if j=n then { s.at_ n with en:=true,st:=a % 256 } else s.at_ j,fun j=>if j=n then some (childOf (sgD s n)) else s.sg j⟩
def endP (s:Ptb) (n:Int) (a:Int):Ptb:=parL (endS s n.toNat a) (kidT s n 13)
def endR (s:Ptb) (n:Int) (a:Int):Int×Ptb:=
 if live s n=true then (0,if live (endP s n a) 1=true then endP s n a else endL (endP s n a) (kidT (endP s n a) 1 13)) else (6,s)
theorem Wf.endS {s:Ptb} (h:Wf s) {n:Nat} (hn:(s.at_ n).num≠0) (a:Int):Wf (endS s n a):=by
 have h1:=h.upd (c:=n) (x:={ s.at_ n with en:=true,st:=a % 256 }) hn rfl (h.grp hn) fun e=>by
  show (s.at_ n).par=0
  rw [e];exact h.one.2
 have h2:=h1.updS (c:=n) (p:=childOf (sgD s n)) (by
  show (if n=n then _ else s.at_ n).num≠0
  rw [if_pos rfl];exact hn)
 exact h2
theorem kidT_end {s:Ptb} {n:Nat} {a m:Int}:kidT (endS s n a) m 13=kidT s m 13:=by
 unfold kidT
 refine List.filter_congr fun c _=>?_
 unfold kidB
 show (decide (0<(if c=n then _ else s.at_ c).num)&&kidC m (if c=n then _ else s.at_ c).par)=_
 by_cases e:c=n
 ·subst e;rw [if_pos rfl]
 ·rw [if_neg e]
theorem Wf.parL {s:Ptb} (h:Wf s):∀ {l:List Nat},(∀ c∈l,(s.at_ c).num≠0∧c≠1)→Wf (parL s l):=by
 intro l
 induction l generalizing s with
 | nil=>intro _;exact h
 | cons c l ih=>
  intro hl
  obtain ⟨h1,h2⟩:=hl c (by simp)
  refine ih (s:=parU s c) (h.upd h1 rfl (h.grp h1) fun e=>absurd e h2) fun x hx=>?_
  obtain ⟨g1,g2⟩:=hl x (by simp [hx])
  refine ⟨?_,g2⟩
  show (if x=c then _ else s.at_ x).num≠0
  by_cases e:x=c
  ·subst e;rw [if_pos rfl];exact g1
  ·rw [if_neg e];exact g1
theorem Wf.endL {s:Ptb} (h:Wf s):∀ {l:List Nat},(∀ c∈l,c≠1)→Wf (endL s l):=by
 intro l
 induction l generalizing s with
 | nil=>intro _;exact h
 | cons c l ih=>
  intro hl
  refine ih (s:=endU s c) ?_ fun x hx=>hl x (by simp [hx])
  unfold endU
  split
  ·exact h.free (hl c (by simp))
  ·exact h
theorem Wf.endP {s:Ptb} (h:Wf s) {n:Int} (hl:live s n=true) (a:Int):Wf (endP s n a):=by
 have hl':=live_iff.1 hl
 refine (h.endS (n:=n.toNat) (by omega) a).parL fun c hc=>?_
 have h1:=kidT_ne1 h hc
 obtain ⟨_,g2,_,_⟩:=kidT_mem hc
 refine ⟨?_,h1⟩
 show (if c=n.toNat then _ else s.at_ c).num≠0
 by_cases e:c=n.toNat
 ·rw [if_pos e,←e];show (s.at_ c).num≠0;omega
 ·rw [if_neg e];omega
theorem Wf.endR {s:Ptb} (h:Wf s) (n a:Int):Wf (endR s n a).2:=by
 unfold Go.Am.endR
 split
 ·rename_i hl
  have h2:=h.endP hl a
  show Wf (if live (Go.Am.endP s n a) 1=true then Go.Am.endP s n a else Go.Am.endL (Go.Am.endP s n a) (kidT (Go.Am.endP s n a) 1 13))
  split
  ·exact h2
  ·exact h2.endL fun c hc=>kidT_ne1 h2 hc
 ·exact h
theorem parL_sg {s:Ptb}:∀ l:List Nat,(parL s l).sg=s.sg:=by
 intro l
 induction l generalizing s with
 | nil=>rfl
 | cons c l ih=>exact ih (s:=parU s c)
theorem endL_sg {s:Ptb}:∀ (l:List Nat) (j:Nat) (p:Sg),(endL s l).sg j=some p→s.sg j=some p:=by
 intro l
 induction l generalizing s with
 | nil=>intro j p h;exact h
 | cons c l ih=>
  intro j p h
  have:=ih (s:=endU s c) j p h
  unfold endU at this
  split at this
  ·have h2:(if j=c then none else s.sg j)=some p:=this
   split at h2
   ·cases h2
   ·exact h2
  ·exact this
end Go.Am
namespace Go.Am
open Go.Proofs Crc
set_option maxRecDepth 100000
theorem kid_lt {s:Ptb} {n:Int}:∀ x∈kidT s n 13,x<13:=fun x hx=>(kidT_mem hx).1
theorem dgEnd (G:Nat→List AV) (B:Nat) {s:Ptb} (n a:Int):DGood (⟨Try.prog,G,B⟩:Ctx) (Df Try.prog [(48,1,13)] [36,38,39,20] [(31,kidsS),(58,fChildS sideP)] [DLat 0x924 (isSt [.ptr (.rw 0) 0,.int .i64 0,.slice true (.rw 15) 0 (kidT s n 13).length,.int .i64 ((kidT s n 13).length:Int),.int .i64 0] (vHp G (hp3 [some ⟨1,.var 1 (encV (ptC (endS s n.toNat a) n.toNat) (endS s n.toNat a))⟩] (.var 2 (setsL encP s)) [some ⟨1,.var 23 (encP (childOf (sgD s n.toNat)))⟩,some ⟨1,.var 22 (nl (kidT s n 13))⟩]))) 0 82 [0,6,44,45,46] (.one (.exit 0) [.ptr (.rw 0) (.lit 0),.int .i64 (.lit 0),.undef,.undef,.undef] (hp3 [some ⟨1,.var 21 (encV (ptC (endP s n a) n.toNat) (endP s n a))⟩] (.var 2 (setsL encP s)) [some ⟨1,.var 23 (encP (childOf (sgD s n.toNat)))⟩,some ⟨1,.var 22 (nl (kidT s n 13))⟩])),DLat 0x925 (isSt [.ptr (.rw 0) 0,.int .i64 0,.slice true (.rw 16) 0 (kidT (endP s n a) 1 13).length,.int .i64 ((kidT (endP s n a) 1 13).length:Int),.int .i64 0] (vHp G (hp3 [some ⟨1,.var 1 (encV (ptC (endP s n a) n.toNat) (endP s n a))⟩] (.var 2 (setsL encP s)) [some ⟨1,.var 23 (encP (childOf (sgD s n.toNat)))⟩,some ⟨1,.var 22 (nl (kidT s n 13))⟩,some ⟨1,.var 25 (nl (kidT (endP s n a) 1 13))⟩]))) 2 82 [0,6,61,62,63] (.one (.exit 2) [.ptr (.rw 0) (.lit 0),.int .i64 (.lit 0),.undef,.undef,.undef] (hp3 [some ⟨1,.var 26 (encV (ptC (endL (endP s n a) (kidT (endP s n a) 1 13)) n.toNat) (endL (endP s n a) (kidT (endP s n a) 1 13)))⟩] (.var 2 (setsL encP s)) [some ⟨1,.var 23 (encP (childOf (sgD s n.toNat)))⟩,some ⟨1,.var 22 (nl (kidT s n 13))⟩,some ⟨1,.var 25 (nl (kidT (endP s n a) 1 13))⟩]))] 14) (loopsOf (bodyOf Try.f27)):=by
 refine dgoodf (mix G B) (by kernel_rfl) (.cons (kidsS_ok G B) (.cons (fChildS_ok (sideP_ok G) (p_child G B)) .nil)) ?_
 rw [show loopsOf (bodyOf Try.f27)=[loopN Try.f27 0,loopN Try.f27 1] by kernel_rfl]
 exact .cons (i:=0) (by kernel_rfl) rfl (DLat_okC rfl (e0_loop G B (endS s n.toNat a) n.toNat (setsL encP s) (encP (childOf (sgD s n.toNat))) (kidT s n 13) kid_lt (kidT_len s n 13))) (.cons (i:=2) (by kernel_rfl) rfl (DLat_okC rfl (e2_loop G B (endP s n a) n.toNat (setsL encP s) (encP (childOf (sgD s n.toNat))) (nl (kidT s n 13)) (kidT (endP s n a) 1 13) kid_lt (kidT_len _ _ 13))) .nil)
theorem kAnd255 (a:Int):kAnd .i64 a 255=a % 256:=by
 have e:kAnd .i64 a 255=(((BitVec.ofInt 64 a) &&& 255#64).toNat:Int):=by
  show IntKind.i64.wrap (((BitVec.ofInt 64 a) &&& 255#64).toNat:Int)=_
  have:=Nat.and_le_right (n:=(BitVec.ofInt 64 a).toNat) (m:=255)
  rw [BitVec.toNat_and]
  exact i64_in (by have e:(255#64).toNat=255:=rfl;rw [e];omega)
 rw [e,BitVec.toNat_and,BitVec.toNat_ofInt]
 have e2:(255#64).toNat=2^8 - 1:=rfl
 rw [e2,Nat.and_two_pow_sub_one_eq_mod]
 omega
theorem enc_end {s:Ptb} {n:Nat} {a:Int} (hn:n<13):setPart (setPart (setPart (encT 1 s) (n*7+5) (.bool true)) (n*7+6) (.int .i64 (a % 256))) (n*7+7) (.ptr (.rw 14) 0)=encV (ptC (endS s n a) n) (endS s n a):=by
 rw [encT_V,V_set (p:=fun n=>ptrO 1 n (s.sg n)) (n:=n) (k:=4) (s:=s) (x:={ s.at_ n with en:=true }) (by omega) (by intro l h;cases h) (fun j hj=>by
  match j,hj with
  | 0,_ | 1,_ | 2,_ | 3,_ | 4,_ | 5,_=>rfl),V_set (p:=fun n=>ptrO 1 n (s.sg n)) (n:=n) (k:=5) (x:={ s.at_ n with en:=true,st:=a % 256 }) (by omega) (by intro l h;cases h) (fun j hj=>by
  show _=if j=5 then _ else fcell (if n=n then _ else s.at_ n) .undef j
  rw [if_pos rfl]
  match j,hj with
  | 0,_ | 1,_ | 2,_ | 3,_ | 4,_ | 5,_=>rfl),V_ptr (by intro l h;cases h)]
 unfold encV
 congr 1
 refine tabL_congr fun b j _ _=>?_
 show fcell (if b=n then _ else if b=n then _ else s.at_ b) (if b=n then _ else _) j=fcell (if b=n then _ else s.at_ b) (match (if b=n then some (childOf (sgD s n)) else s.sg b) with | none=>AV.nilp | some _=>AV.ptr (.rw (if b=n then 14 else 1+b)) 0) j
 by_cases e:b=n
 ·subst e;simp only [if_pos]
 ·simp only [if_neg e]
  cases s.sg b<;>rfl
theorem kidNU_V {k:IntKind} {p:Nat→AV} {s:Ptb} {n:Int}:kidNU [.agg (encV p s),.int k n]=(kidT s n 13).length:=by
 unfold kidNU;simp only [kidLC_eq]
theorem kidLU_V {k:IntKind} {p:Nat→AV} {s:Ptb} {n:Int}:kidLU [.agg (encV p s),.int k n]=nl (kidT s n 13):=by
 unfold kidLU;simp only [kidLC_eq]
theorem seen_end {s s':Ptb} {n:Nat} {E:Hp} (hn:n<13) (h1:∀ j p,s'.sg j=some p→(if j=n then some (childOf (sgD s n)) else s.sg j)=some p) :
  SeenQ tsP s' n 14 (some ⟨1,encV (ptC s' n) s'⟩::((List.range 13).map (fun n=>some ⟨1,rowA (setsL encP s) n⟩)++(some ⟨1,encP (childOf (sgD s n))⟩::E))):=by
 refine ⟨by simp,rfl,fun j hj=>?_⟩
 by_cases e:j=n
 ·rw [if_pos e]
  refine ⟨_,by rw [show (14:Nat)=13+1 from rfl,List.getElem?_cons_succ,List.getElem?_append_right (by simp),List.length_map,List.length_range];rfl,fun p hp=>?_⟩
  have:=h1 j p hp
  rw [if_pos e] at this
  simp only [Option.some.injEq] at this
  rw [this];rfl
 ·rw [if_neg e]
  refine ⟨rowA (setsL encP s) j,?_,fun p hp=>?_⟩
  ·rw [Nat.add_comm 1 j,List.getElem?_cons_succ,List.getElem?_append_left (by simpa using hj),List.getElem?_map,List.getElem?_range hj];rfl
  ·have:=h1 j p hp
   rw [if_neg e] at this
   rw [rowA_sets hj,this];rfl
theorem k15_ok {s s':Ptb} {n:Nat} {p:Sg} (hw:Wf s'):okK15 [.agg (encV (ptC s' n) s'),.agg (setsL encP s),.agg (encP p)]=true:=okK15_iff.2 ⟨s',n,hw,rfl,sets_flat,encP_flat 0 p⟩
theorem p_end (G:Nat→List AV) (B:Nat) {s:Ptb} (hw:Wf s) (n a:Int):ACalls (⟨Try.prog,G,B⟩:Ctx) 27 [.ptr (.rw 0) 0,.int .i64 n,.int .i64 a] (can tsP s) fun v H'=>v=.int .i64 (endR s n a).1∧H'=mov tsP (endR s n a).2:=by
 have h:=dcall_ok (C:=(⟨Try.prog,G,B⟩:Ctx)) (K:=Df Try.prog [(48,1,13)] [36,38,39,20] [(31,kidsS),(58,fChildS sideP)] [DLat 0x924 (isSt [.ptr (.rw 0) 0,.int .i64 0,.slice true (.rw 15) 0 (kidT s n 13).length,.int .i64 ((kidT s n 13).length:Int),.int .i64 0] (vHp G (hp3 [some ⟨1,.var 1 (encV (ptC (endS s n.toNat a) n.toNat) (endS s n.toNat a))⟩] (.var 2 (setsL encP s)) [some ⟨1,.var 23 (encP (childOf (sgD s n.toNat)))⟩,some ⟨1,.var 22 (nl (kidT s n 13))⟩]))) 0 82 [0,6,44,45,46] (.one (.exit 0) [.ptr (.rw 0) (.lit 0),.int .i64 (.lit 0),.undef,.undef,.undef] (hp3 [some ⟨1,.var 21 (encV (ptC (endP s n a) n.toNat) (endP s n a))⟩] (.var 2 (setsL encP s)) [some ⟨1,.var 23 (encP (childOf (sgD s n.toNat)))⟩,some ⟨1,.var 22 (nl (kidT s n 13))⟩])),DLat 0x925 (isSt [.ptr (.rw 0) 0,.int .i64 0,.slice true (.rw 16) 0 (kidT (endP s n a) 1 13).length,.int .i64 ((kidT (endP s n a) 1 13).length:Int),.int .i64 0] (vHp G (hp3 [some ⟨1,.var 1 (encV (ptC (endP s n a) n.toNat) (endP s n a))⟩] (.var 2 (setsL encP s)) [some ⟨1,.var 23 (encP (childOf (sgD s n.toNat)))⟩,some ⟨1,.var 22 (nl (kidT s n 13))⟩,some ⟨1,.var 25 (nl (kidT (endP s n a) 1 13))⟩]))) 2 82 [0,6,61,62,63] (.one (.exit 2) [.ptr (.rw 0) (.lit 0),.int .i64 (.lit 0),.undef,.undef,.undef] (hp3 [some ⟨1,.var 26 (encV (ptC (endL (endP s n a) (kidT (endP s n a) 1 13)) n.toNat) (endL (endP s n a) (kidT (endP s n a) 1 13)))⟩] (.var 2 (setsL encP s)) [some ⟨1,.var 23 (encP (childOf (sgD s n.toNat)))⟩,some ⟨1,.var 22 (nl (kidT s n 13))⟩,some ⟨1,.var 25 (nl (kidT (endP s n a) 1 13))⟩]))] 14) (fuel:=300) (n0:=40) (f:=27) (fn:=Try.f27) (args:=[.ptr (.rw 0) (.lit 0),.int .i64 (.var 3 n),.int .i64 (.var 4 a)]) (H:=(hp3 [some ⟨1,.var 1 (encT 1 s)⟩] (.var 2 (setsL encP s)) [])) (keep:=15)
  (R:=fun v H=>v=.int .i64 (endR s n a).1∧(Seen tsP (endR s n a).2 13 H∨∃ c,SeenQ tsP (endR s n a).2 c 14 H∧14<H.length)) (dgEnd G B n a) (by kernel_rfl) (by kernel_rfl) (by kernel_rfl) (by
  have:=e_c G okK15 okK14 (isSt [.ptr (.rw 0) 0,.int .i64 0,.slice true (.rw 15) 0 (kidT s n 13).length,.int .i64 ((kidT s n 13).length:Int),.int .i64 0] (vHp G (hp3 [some ⟨1,.var 1 (encV (ptC (endS s n.toNat a) n.toNat) (endS s n.toNat a))⟩] (.var 2 (setsL encP s)) [some ⟨1,.var 23 (encP (childOf (sgD s n.toNat)))⟩,some ⟨1,.var 22 (nl (kidT s n 13))⟩]))) (isSt [.ptr (.rw 0) 0,.int .i64 0,.slice true (.rw 16) 0 (kidT (endP s n a) 1 13).length,.int .i64 ((kidT (endP s n a) 1 13).length:Int),.int .i64 0] (vHp G (hp3 [some ⟨1,.var 1 (encV (ptC (endP s n a) n.toNat) (endP s n a))⟩] (.var 2 (setsL encP s)) [some ⟨1,.var 23 (encP (childOf (sgD s n.toNat)))⟩,some ⟨1,.var 22 (nl (kidT s n 13))⟩,some ⟨1,.var 25 (nl (kidT (endP s n a) 1 13))⟩]))) (encT 1 s) (setsL encP s) (encP (childOf (sgD s n.toNat))) (nl (kidT s n 13)) (nl (kidT (endP s n a) 1 13)) (encV (ptC (endP s n a) n.toNat) (endP s n a)) (encV (ptC (endL (endP s n a) (kidT (endP s n a) 1 13)) n.toNat) (endL (endP s n a) (kidT (endP s n a) 1 13))) n a (fun _ _ _=>False) (fun v H=>v=.int .i64 (endR s n a).1∧(Seen tsP (endR s n a).2 13 H∨∃ c,SeenQ tsP (endR s n a).2 c 14 H∧14<H.length))
  refine Eq.mpr this ?_
  refine ⟨rfl,fun _=>⟨rfl,rfl,live_tree 1 (fun hl=>?_) fun hl=>?_⟩,fun h=>by cases h⟩
  ·have h:=live_iff.1 hl
   have hi:isP s n=true:=isP_iff.2 ⟨h.1,h.2.1,h.2.2.1⟩
   obtain ⟨p,hp⟩:=hw.live_sg hi
   obtain ⟨e1,e2,e3,e4,e5⟩:=fam_facts (by omega) hp
   have ed:sgD s n.toNat=p:=by unfold sgD;rw [hp];rfl
   have hne:(s.at_ n.toNat).num≠0:=by omega
   rw [e3,e4,e5,childU_enc,kAnd255,enc_end (by omega),kidNU_V,kidLU_V,kidT_end,kidNU_V,kidLU_V]
   have w1:=hw.endS hne a
   have w2:=hw.endP hl a
   have g8:=V_num (p:=ptC (endP s n a) n.toNat) (s:=(endP s n a)) (n:=1) (by omega)
   have g12:=V_en (p:=ptC (endP s n a) n.toNat) (s:=(endP s n a)) (n:=1) (by omega)
   have sgs:∀ j p,(endP s n a).sg j=some p→(if j=n.toNat then some (childOf (sgD s n.toNat)) else s.sg j)=some p:=fun j p h=>by
    have:(endP s n a).sg=(endS s n.toNat a).sg:=parL_sg _
    rw [this] at h;exact h
   have k15a:okK15 [.agg (encV (ptC (endS s n.toNat a) n.toNat) (endS s n.toNat a)),.agg (setsL encP s),.agg (encP (setW p 0#32))]=true:=k15_ok w1
   have k15b:okK15 [.agg (encV (ptC (endP s n a) n.toNat) (endP s n a)),.agg (setsL encP s),.agg (encP (childOf (sgD s n.toNat)))]=true:=k15_ok w2
   have ez:encP (setW p 0#32)=(encP (childOf (sgD s n.toNat))):=by rw [ed];rfl
   have fin2:live (endP s n a) 1=true→(AV.int .i64 0=.int .i64 (endR s n a).1∧(Seen tsP (endR s n a).2 13 (some ⟨1,encV (ptC (endP s n a) n.toNat) (endP s n a)⟩::((List.range 13).map (fun n=>some ⟨1,rowA (setsL encP s) n⟩)++[some ⟨1,(encP (childOf (sgD s n.toNat)))⟩]))∨∃ c,SeenQ tsP (endR s n a).2 c 14 (some ⟨1,encV (ptC (endP s n a) n.toNat) (endP s n a)⟩::((List.range 13).map (fun n=>some ⟨1,rowA (setsL encP s) n⟩)++[some ⟨1,(encP (childOf (sgD s n.toNat)))⟩]))∧14<(some (⟨1,encV (ptC (endP s n a) n.toNat) (endP s n a)⟩:Blk)::((List.range 13).map (fun n=>some ⟨1,rowA (setsL encP s) n⟩)++[some ⟨1,(encP (childOf (sgD s n.toNat)))⟩])).length)):=fun h2=>by
    unfold endR
    rw [if_pos hl,if_pos h2]
    exact ⟨rfl,.inr ⟨n.toNat,seen_end (E:=[]) (by omega) sgs,by simp [rows13]⟩⟩
   have fin3:live (endP s n a) 1=false→(AV.int .i64 0=.int .i64 (endR s n a).1∧(Seen tsP (endR s n a).2 13 (some ⟨1,encV (ptC (endL (endP s n a) (kidT (endP s n a) 1 13)) n.toNat) (endL (endP s n a) (kidT (endP s n a) 1 13))⟩::((List.range 13).map (fun n=>some ⟨1,rowA (setsL encP s) n⟩)++[some ⟨1,(encP (childOf (sgD s n.toNat)))⟩]))∨∃ c,SeenQ tsP (endR s n a).2 c 14 (some ⟨1,encV (ptC (endL (endP s n a) (kidT (endP s n a) 1 13)) n.toNat) (endL (endP s n a) (kidT (endP s n a) 1 13))⟩::((List.range 13).map (fun n=>some ⟨1,rowA (setsL encP s) n⟩)++[some ⟨1,(encP (childOf (sgD s n.toNat)))⟩]))∧14<(some (⟨1,encV (ptC (endL (endP s n a) (kidT (endP s n a) 1 13)) n.toNat) (endL (endP s n a) (kidT (endP s n a) 1 13))⟩:Blk)::((List.range 13).map (fun n=>some ⟨1,rowA (setsL encP s) n⟩)++[some ⟨1,(encP (childOf (sgD s n.toNat)))⟩])).length)):=fun h2=>by
    unfold endR
    rw [if_pos hl,if_neg (by rw [h2];simp)]
    exact ⟨rfl,.inr ⟨n.toNat,seen_end (E:=[]) (by omega) (fun j p h=>sgs j p (endL_sg _ j p h)),by simp [rows13]⟩⟩
   have ll:∀ b,live (endP s n a) 1=b→(((endP s n a).at_ 1).num==1&&!((endP s n a).at_ 1).en)=b:=fun b h=>by
    rw [←h];unfold live isP;rfl
   refine ⟨decide_eq_true (by omega),decide_eq_true (by omega),(fun h=>by rw [e1] at h;cases h),fun _=>⟨e2,rfl,leB_iff.2 (by omega),rowsA_same _ 13,leB_iff.2 (by rw [setsL_len];omega),okU_enc p,leB_iff.2 (by rw [encT_len];omega),?_,?_,rowsA_same _ 13,k15a,?_,rfl,fun _=>⟨g8.1,fun h1=>⟨g12.1,fun h2=>⟨rowsA_same _ 13,k15b,isSt_refl,fin3 ?_⟩,fun h2=>fin2 ?_⟩,fun h1=>⟨rowsA_same _ 13,k15b,isSt_refl,fin3 ?_⟩⟩,fun h=>by cases h⟩⟩
   ·refine leB_iff.2 ?_
    rw [setPart_cell (by intro l h;cases h),List.length_set,encT_len];omega
   ·refine leB_iff.2 ?_
    rw [setPart_cell (by intro l h;cases h),List.length_set,setPart_cell (by intro l h;cases h),List.length_set,encT_len];omega
   ·rw [ez];exact isSt_refl
   ·rw [g12.2] at h2
    unfold live;rw [show ((endP s n a).at_ (Int.toNat 1))=(endP s n a).at_ 1 from rfl,h2];simp
   ·rw [g12.2] at h2
    rw [g8.2] at h1
    unfold live isP
    rw [show ((endP s n a).at_ (Int.toNat 1))=(endP s n a).at_ 1 from rfl,h2]
    have:(((endP s n a).at_ 1).num==1)=true:=h1
    rw [this];rfl
   ·rw [g8.2] at h1
    unfold live isP
    have:(((endP s n a).at_ 1).num==1)=false:=h1
    rw [show ((endP s n a).at_ (Int.toNat 1))=(endP s n a).at_ 1 from rfl,this];rfl
  ·unfold endR
   rw [hl];exact ⟨rfl,.inl seen_same⟩)
 rw [hT] at h
 exact pm_move tsP_ok (q:=14) (by omega) h rfl
end Go.Am
namespace Go.Am
open Crc
def xI1 (f:Ptb→Int→Int):List AV→Int:=fun vs=>match vs with
 | [.agg x,.int _ n]=>f (decX x) n
 | _=>0
def xI2 (f:Ptb→Int→Int→Int):List AV→Int:=fun vs=>match vs with
 | [.agg x,.int _ n,.int _ a]=>f (decX x) n a
 | _=>0
def xI3 (f:Ptb→Int→Int→Int→Int):List AV→Int:=fun vs=>match vs with
 | [.agg x,.int _ n,.int _ a,.int _ b]=>f (decX x) n a b
 | _=>0
def xB1 (f:Ptb→Int→Bool):List AV→Bool:=fun vs=>match vs with
 | [.agg x,.int _ n]=>f (decX x) n
 | _=>false
def xB2 (f:Ptb→Int→Int→Bool):List AV→Bool:=fun vs=>match vs with
 | [.agg x,.int _ n,.int _ a]=>f (decX x) n a
 | _=>false
def xX1 (f:Ptb→Int→Ptb):List AV→List AV:=fun vs=>match vs with
 | [.agg x,.int _ n]=>encX (f (decX x) n)
 | _=>[]
def xX2 (f:Ptb→Int→Int→Ptb):List AV→List AV:=fun vs=>match vs with
 | [.agg x,.int _ n,.int _ a]=>encX (f (decX x) n a)
 | _=>[]
def xX3 (f:Ptb→Int→Int→Int→Ptb):List AV→List AV:=fun vs=>match vs with
 | [.agg x,.int _ n,.int _ a,.int _ b]=>encX (f (decX x) n a b)
 | _=>[]
def endE (s:Ptb) (n a:Int):Int:=(endR s n a).1
def endX (s:Ptb) (n a:Int):Ptb:=(endR s n a).2
def forkC (s:Ptb) (n:Int):Int:=(forkR s n).1.1
def forkE (s:Ptb) (n:Int):Int:=(forkR s n).1.2
def forkY (s:Ptb) (n:Int):Ptb:=(forkR s n).2
def waitC (s:Ptb) (n w:Int):Int:=(waitR s n w).1.1
def waitS (s:Ptb) (n w:Int):Int:=(waitR s n w).1.2.1
def waitW (s:Ptb) (n w:Int):Bool:=(waitR s n w).1.2.2.1
def waitE (s:Ptb) (n w:Int):Int:=(waitR s n w).1.2.2.2
def waitX (s:Ptb) (n w:Int):Ptb:=(waitR s n w).2
def endK:EL→List EV→Option (EV×EL):=fun x rest=>match rest with
 | [.int .i64 n,.int .i64 a]=>some (.int .i64 (.uf 2401 (xI2 endE) [.agg x,.int .i64 n,.int .i64 a]),.uf 2402 (xX2 endX) [.agg x,.int .i64 n,.int .i64 a])
 | _=>none
def forkK:EL→List EV→Option (EV×EL):=fun x rest=>match rest with
 | [.int .i64 n]=>some (.tup [.int .i64 (.uf 2403 (xI1 forkC) [.agg x,.int .i64 n]),.int .i64 (.uf 2404 (xI1 forkE) [.agg x,.int .i64 n])],.uf 2405 (xX1 forkY) [.agg x,.int .i64 n])
 | _=>none
def waitK:EL→List EV→Option (EV×EL):=fun x rest=>match rest with
 | [.int .i64 n,.int .i64 w]=>some (.tup [.int .i64 (.uf 2406 (xI2 waitC) [.agg x,.int .i64 n,.int .i64 w]),.int .i64 (.uf 2407 (xI2 waitS) [.agg x,.int .i64 n,.int .i64 w]),.bool (.uf 2408 (xB2 waitW) [.agg x,.int .i64 n,.int .i64 w]),.int .i64 (.uf 2409 (xI2 waitE) [.agg x,.int .i64 n,.int .i64 w])],.uf 2410 (xX2 waitX) [.agg x,.int .i64 n,.int .i64 w])
 | _=>none
def groupK:EL→List EV→Option (EV×EL):=fun x rest=>match rest with
 | [.int .i64 n,.int .i64 a]=>some (.int .i64 (.uf 2411 (xI2 groupE) [.agg x,.int .i64 n,.int .i64 a]),.uf 2412 (xX2 groupX) [.agg x,.int .i64 n,.int .i64 a])
 | _=>none
def userK:EL→List EV→Option (EV×EL):=fun x rest=>match rest with
 | [.int .i64 n,.int .i64 a]=>some (.int .i64 (.uf 2413 (xI2 userE) [.agg x,.int .i64 n,.int .i64 a]),.uf 2414 (xX2 userX) [.agg x,.int .i64 n,.int .i64 a])
 | _=>none
def maskK:EL→List EV→Option (EV×EL):=fun x rest=>match rest with
 | [.int .i64 n,.int .i64 a]=>some (.tup [.int .i64 (.uf 2417 (xI1 maskV) [.agg x,.int .i64 n]),.int .i64 (.uf 2418 (xI1 askE) [.agg x,.int .i64 n])],.uf 2419 (xX2 maskX) [.agg x,.int .i64 n,.int .i64 a])
 | _=>none
def handK:EL→List EV→Option (EV×EL):=fun x rest=>match rest with
 | [.int .i64 n,.int .i64 a,.int .i64 b]=>some (.tup [.int .i64 (.uf 2420 (xI3 handV) [.agg x,.int .i64 n,.int .i64 a,.int .i64 b]),.int .i64 (.uf 2421 (xI3 handE) [.agg x,.int .i64 n,.int .i64 a,.int .i64 b])],.uf 2422 (xX3 handX) [.agg x,.int .i64 n,.int .i64 a,.int .i64 b])
 | _=>none
def tellNum (s:Ptb) (n:Int):Int:=(tellX s n).num
def tellPar (s:Ptb) (n:Int):Int:=(tellX s n).par
def tellGrp (s:Ptb) (n:Int):Int:=(tellX s n).grp
def tellUsr (s:Ptb) (n:Int):Int:=(tellX s n).usr
def tellEn (s:Ptb) (n:Int):Bool:=(tellX s n).en
def tellSt (s:Ptb) (n:Int):Int:=(tellX s n).st
def tellK:EL→List EV→Option (EV×EL):=fun x rest=>match rest with
 | [.int .i64 n]=>some (.tup [.agg (.of [.int .i64 (.uf 2430 (xI1 tellNum) [.agg x,.int .i64 n]),.int .i64 (.uf 2431 (xI1 tellPar) [.agg x,.int .i64 n]),.int .i64 (.uf 2432 (xI1 tellGrp) [.agg x,.int .i64 n]),.int .i64 (.uf 2433 (xI1 tellUsr) [.agg x,.int .i64 n]),.bool (.uf 2434 (xB1 tellEn) [.agg x,.int .i64 n]),.int .i64 (.uf 2435 (xI1 tellSt) [.agg x,.int .i64 n])]),.bool (.uf 2436 (xB1 isP) [.agg x,.int .i64 n])],x)
 | _=>none
def livesK:EL→List EV→Option (EV×EL):=fun x rest=>match rest with
 | [.int .i64 n]=>some (.bool (.uf 2437 (xB1 live) [.agg x,.int .i64 n]),x)
 | _=>none
section
variable {k:IntKind} {s:Ptb} (h:thin s) (n a b:Int)
include h
theorem xI1_enc (f:Ptb→Int→Int):xI1 f [.agg (encX s),.int k n]=f s n:=by simp only [xI1,decX_enc h]
theorem xI2_enc {k':IntKind} (f:Ptb→Int→Int→Int):xI2 f [.agg (encX s),.int k n,.int k' a]=f s n a:=by simp only [xI2,decX_enc h]
theorem xI3_enc {k' k'':IntKind} (f:Ptb→Int→Int→Int→Int):xI3 f [.agg (encX s),.int k n,.int k' a,.int k'' b]=f s n a b:=by simp only [xI3,decX_enc h]
theorem xB1_enc (f:Ptb→Int→Bool):xB1 f [.agg (encX s),.int k n]=f s n:=by simp only [xB1,decX_enc h]
theorem xB2_enc {k':IntKind} (f:Ptb→Int→Int→Bool):xB2 f [.agg (encX s),.int k n,.int k' a]=f s n a:=by simp only [xB2,decX_enc h]
theorem xX1_enc (f:Ptb→Int→Ptb):xX1 f [.agg (encX s),.int k n]=encX (f s n):=by simp only [xX1,decX_enc h]
theorem xX2_enc {k':IntKind} (f:Ptb→Int→Int→Ptb):xX2 f [.agg (encX s),.int k n,.int k' a]=encX (f s n a):=by simp only [xX2,decX_enc h]
theorem xX3_enc {k' k'':IntKind} (f:Ptb→Int→Int→Int→Ptb):xX3 f [.agg (encX s),.int k n,.int k' a,.int k'' b]=encX (f s n a b):=by simp only [xX3,decX_enc h]
end
def KOk (C:Ctx) (t:TS) (m:Md2) (f:FuncId) (k:EL→List EV→Option (EV×EL)):Prop:=
 ∀ x rest v x' s,k x rest=some (v,x')→vL C.G x=encX s→Wf s→bnds 0 (vVs C.G rest)=true∧bnd 0 (vV C.G v)=true∧∃ s',vL C.G x'=encX s'∧thin s'∧(m=.same→s'=s)∧
   ACalls C f (.ptr (.rw 0) 0::vVs C.G rest) (can t s) fun v' H'=>v'=vV C.G v∧H'=mdHp t m s'
section
variable {C:Ctx} {t:TS} {f:FuncId} {m:Md2}
theorem endK_ok (h:∀ s,Wf s→∀ n a,ACalls C f [.ptr (.rw 0) 0,.int .i64 n,.int .i64 a] (can t s) fun v H'=>v=.int .i64 (endR s n a).1∧H'=mdHp t m (endR s n a).2) (hm:m≠.same):KOk C t m f endK:=by
 intro x rest v x' s hk hx hw
 unfold endK at hk
 split at hk
 ·rename_i n a
  simp only [Option.some.injEq,Prod.mk.injEq] at hk
  obtain ⟨rfl,rfl⟩:=hk
  refine ⟨by simp [vVs,vV,bnds,bnd],by simp [vV,bnd],(endR s (vI C.G n) (vI C.G a)).2,by simp only [vL,vVs,vV,hx,xX2_enc hw.thin];rfl,(hw.endR _ _).thin,fun e=>absurd e hm,?_⟩
  simp only [vVs,vV,vI,hx,xI2_enc hw.thin]
  exact h s hw _ _
 ·simp at hk
theorem forkK_ok (h:∀ s,Wf s→∀ n,ACalls C f [.ptr (.rw 0) 0,.int .i64 n] (can t s) fun v H'=>v=pairV (forkR s n).1∧H'=mdHp t m (forkR s n).2) (hm:m≠.same):KOk C t m f forkK:=by
 intro x rest v x' s hk hx hw
 unfold forkK at hk
 split at hk
 ·rename_i n
  simp only [Option.some.injEq,Prod.mk.injEq] at hk
  obtain ⟨rfl,rfl⟩:=hk
  refine ⟨by simp [vVs,vV,bnds,bnd],by simp [vV,vVs,bnds,bnd],(forkR s (vI C.G n)).2,by simp only [vL,vVs,vV,hx,xX1_enc hw.thin];rfl,(hw.forkR _).thin,fun e=>absurd e hm,?_⟩
  simp only [vVs,vV,vI,hx,xI1_enc hw.thin]
  exact h s hw _
 ·simp at hk
theorem waitK_ok (h:∀ s,Wf s→∀ n w,ACalls C f [.ptr (.rw 0) 0,.int .i64 n,.int .i64 w] (can t s) fun v H'=>v=waitVv (waitR s n w).1∧H'=mdHp t m (waitR s n w).2) (hm:m≠.same):KOk C t m f waitK:=by
 intro x rest v x' s hk hx hw
 unfold waitK at hk
 split at hk
 ·rename_i n w
  simp only [Option.some.injEq,Prod.mk.injEq] at hk
  obtain ⟨rfl,rfl⟩:=hk
  refine ⟨by simp [vVs,vV,bnds,bnd],by simp [vV,vVs,bnds,bnd],(waitR s (vI C.G n) (vI C.G w)).2,by simp only [vL,vVs,vV,hx,xX2_enc hw.thin];rfl,(hw.waitX _ _).thin,fun e=>absurd e hm,?_⟩
  simp only [vVs,vV,vI,vB,hx,xI2_enc hw.thin,xB2_enc hw.thin]
  exact h s hw _ _
 ·simp at hk
theorem groupK_ok (h:∀ s,Wf s→∀ n a,ACalls C f [.ptr (.rw 0) 0,.int .i64 n,.int .i64 a] (can t s) fun v H'=>v=.int .i64 (groupE s n a)∧H'=mdHp t m (groupX s n a)) (hm:m≠.same):KOk C t m f groupK:=by
 intro x rest v x' s hk hx hw
 unfold groupK at hk
 split at hk
 ·rename_i n a
  simp only [Option.some.injEq,Prod.mk.injEq] at hk
  obtain ⟨rfl,rfl⟩:=hk
  refine ⟨by simp [vVs,vV,bnds,bnd],by simp [vV,bnd],groupX s (vI C.G n) (vI C.G a),by simp only [vL,vVs,vV,hx,xX2_enc hw.thin],(hw.groupX _ _).thin,fun e=>absurd e hm,?_⟩
  simp only [vVs,vV,vI,hx,xI2_enc hw.thin]
  exact h s hw _ _
 ·simp at hk
theorem userK_ok (h:∀ s,Wf s→∀ n a,ACalls C f [.ptr (.rw 0) 0,.int .i64 n,.int .i64 a] (can t s) fun v H'=>v=.int .i64 (userE s n a)∧H'=mdHp t m (userX s n a)) (hm:m≠.same):KOk C t m f userK:=by
 intro x rest v x' s hk hx hw
 unfold userK at hk
 split at hk
 ·rename_i n a
  simp only [Option.some.injEq,Prod.mk.injEq] at hk
  obtain ⟨rfl,rfl⟩:=hk
  refine ⟨by simp [vVs,vV,bnds,bnd],by simp [vV,bnd],userX s (vI C.G n) (vI C.G a),by simp only [vL,vVs,vV,hx,xX2_enc hw.thin],(hw.userX _ _).thin,fun e=>absurd e hm,?_⟩
  simp only [vVs,vV,vI,hx,xI2_enc hw.thin]
  exact h s hw _ _
 ·simp at hk
theorem maskK_ok (h:∀ s,Wf s→∀ n a,ACalls C f [.ptr (.rw 0) 0,.int .i64 n,.int .i64 a] (can t s) fun v H'=>v=.tup [.int .i64 (maskV s n),.int .i64 (askE s n)]∧H'=mdHp t m (maskX s n a)) (hm:m≠.same):KOk C t m f maskK:=by
 intro x rest v x' s hk hx hw
 unfold maskK at hk
 split at hk
 ·rename_i n a
  simp only [Option.some.injEq,Prod.mk.injEq] at hk
  obtain ⟨rfl,rfl⟩:=hk
  refine ⟨by simp [vVs,vV,bnds,bnd],by simp [vV,vVs,bnds,bnd],maskX s (vI C.G n) (vI C.G a),by simp only [vL,vVs,vV,hx,xX2_enc hw.thin],(hw.maskX _ _).thin,fun e=>absurd e hm,?_⟩
  simp only [vVs,vV,vI,hx,xI1_enc hw.thin]
  exact h s hw _ _
 ·simp at hk
theorem handK_ok (h:∀ s,Wf s→∀ n a b,ACalls C f [.ptr (.rw 0) 0,.int .i64 n,.int .i64 a,.int .i64 b] (can t s) fun v H'=>v=.tup [.int .i64 (handV s n a b),.int .i64 (handE s n a b)]∧H'=mdHp t m (handX s n a b)) (hm:m≠.same):KOk C t m f handK:=by
 intro x rest v x' s hk hx hw
 unfold handK at hk
 split at hk
 ·rename_i n a b
  simp only [Option.some.injEq,Prod.mk.injEq] at hk
  obtain ⟨rfl,rfl⟩:=hk
  refine ⟨by simp [vVs,vV,bnds,bnd],by simp [vV,vVs,bnds,bnd],handX s (vI C.G n) (vI C.G a) (vI C.G b),by simp only [vL,vVs,vV,hx,xX3_enc hw.thin],(hw.handX _ _ _).thin,fun e=>absurd e hm,?_⟩
  simp only [vVs,vV,vI,hx,xI3_enc hw.thin]
  exact h s hw _ _ _
 ·simp at hk
theorem tellK_ok (h:∀ s,Wf s→∀ n,ACalls C f [.ptr (.rw 0) 0,.int .i64 n] (can t s) fun v H'=>v=.tup [.agg (rowU (tellX s n)),.bool (isP s n)]∧H'=can t s):KOk C t .same f tellK:=by
 intro x rest v x' s hk hx hw
 unfold tellK at hk
 split at hk
 ·rename_i n
  simp only [Option.some.injEq,Prod.mk.injEq] at hk
  obtain ⟨rfl,rfl⟩:=hk
  refine ⟨by simp [vVs,vV,bnds,bnd],by simp [vV,vVs,vL,bnds,bnd],s,hx,hw.thin,fun _=>rfl,?_⟩
  simp only [vVs,vV,vI,vB,vL,hx,xI1_enc hw.thin,xB1_enc hw.thin]
  exact h s hw _
 ·simp at hk
theorem livesK_ok (h:∀ s,Wf s→∀ n,ACalls C f [.ptr (.rw 0) 0,.int .i64 n] (can t s) fun v H'=>v=.bool (live s n)∧H'=can t s):KOk C t .same f livesK:=by
 intro x rest v x' s hk hx hw
 unfold livesK at hk
 split at hk
 ·rename_i n
  simp only [Option.some.injEq,Prod.mk.injEq] at hk
  obtain ⟨rfl,rfl⟩:=hk
  refine ⟨by simp [vVs,vV,bnds,bnd],by simp [vV,bnd],s,hx,hw.thin,fun _=>rfl,?_⟩
  simp only [vVs,vV,vB,hx,xB1_enc hw.thin]
  exact h s hw _
 ·simp at hk
end
end Go.Am
