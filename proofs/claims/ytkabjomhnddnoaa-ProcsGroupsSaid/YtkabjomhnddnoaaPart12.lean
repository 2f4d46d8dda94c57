/-
  Processes: the program's Children: a round. Processes: the program's Children: its yield, the iterator's loop.
-/
import Derived.Test.YtkabjomhnddnoaaPart11
import Derived.Test.YtkabjomhnddnoaaBase5
namespace Go.Am
open Go.Proofs Crc
set_option maxRecDepth 100000
def HKd (T S Z:EL) (n:EI) (c:EN) (rc ys:EL):DHp:=[some ⟨1,T⟩,some ⟨1,.row S (.lit 0)⟩,some ⟨1,.row S (.lit 1)⟩,some ⟨1,.row S (.lit 2)⟩,some ⟨1,.row S (.lit 3)⟩,some ⟨1,.row S (.lit 4)⟩,some ⟨1,.row S (.lit 5)⟩,some ⟨1,.row S (.lit 6)⟩,some ⟨1,.row S (.lit 7)⟩,some ⟨1,.row S (.lit 8)⟩,some ⟨1,.row S (.lit 9)⟩,some ⟨1,.row S (.lit 10)⟩,some ⟨1,.row S (.lit 11)⟩,some ⟨1,.row S (.lit 12)⟩,some ⟨1,Z⟩,some ⟨1,.of [.int .i64 n]⟩,some ⟨1,.of [.slice true (.rw 19) (.lit 0) c]⟩,some ⟨1,.of [.ptr (.rw 0) (.lit 0)]⟩,some ⟨4294967291,rc⟩,some ⟨1,ys⟩]
theorem k_as (G:Nat→List AV) (tb sl z rc ys xr:List AV) (n:Int) (c:Nat) (x0 x1 x2 x3:Int) (xb:Bool) (x5:Int) (Q:Ex→List AV→Hp→Prop) (R:AV→Hp→Prop):vT G Q R (dloop (Dc Try.prog [] [] [] 0) 200 60 21 (rgA (loopN Try.f31 0)) 24 [3,5,8,9,6] [.ptr (.rw 15) (.lit 0),.ptr (.rw 16) (.lit 0),.func 76 [.ptr (.rw 17) (.lit 0)],.agg (.of [.int .i64 (.var 11 x0),.int .i64 (.var 12 x1),.int .i64 (.var 13 x2),.int .i64 (.var 14 x3),.bool (.var 15 xb),.int .i64 (.var 16 x5)]),.undef] ((HKd (.var 1 tb) (.var 2 sl) (.var 5 z) (.var 3 n) (.var 4 c) (.var 24 rc) (.var 22 ys))++[some ⟨1,.var 23 xr⟩]))=(
  Q .normal [.ptr (.rw 15) (0),.ptr (.rw 16) (0),.func 76 [.ptr (.rw 17) (0)],.agg ([.int .i64 (x0),.int .i64 (x1),.int .i64 (x2),.int .i64 (x3),.bool (xb),.int .i64 (x5)]:List AV),.ptr (.rw 21) (0)] ([some ⟨1,tb⟩]++(rows13 sl++[some ⟨1,z⟩,some ⟨1,([.int .i64 (n)]:List AV)⟩,some ⟨1,([.slice true (.rw 19) (0) (c)]:List AV)⟩,some ⟨1,([.ptr (.rw 0) (0)]:List AV)⟩,some ⟨4294967291,rc⟩,some ⟨1,ys⟩,some ⟨1,xr⟩,some ⟨1,([.int .i64 (x0),.int .i64 (x1),.int .i64 (x2),.int .i64 (x3),.bool (xb),.int .i64 (x5)]:List AV)⟩]))):=by kernel_rfl
theorem k_bd (G:Nat→List AV) (tb sl z rc ys xr:List AV) (n:Int) (c:Nat) (x0 x1 x2 x3:Int) (xb:Bool) (x5:Int) (Q:Ex→List AV→Hp→Prop) (R:AV→Hp→Prop):vT G Q R (dloop (Dc Try.prog [] [] [] 0) 300 60 21 (rgB (loopN Try.f31 0)) 24 [3,5,8,9,6] [.ptr (.rw 15) (.lit 0),.ptr (.rw 16) (.lit 0),.func 76 [.ptr (.rw 17) (.lit 0)],.agg (.of [.int .i64 (.var 11 x0),.int .i64 (.var 12 x1),.int .i64 (.var 13 x2),.int .i64 (.var 14 x3),.bool (.var 15 xb),.int .i64 (.var 16 x5)]),.ptr (.rw 21) (.lit 0)] (((HKd (.var 1 tb) (.var 2 sl) (.var 5 z) (.var 3 n) (.var 4 c) (.var 24 rc) (.var 22 ys))++[some ⟨1,.var 23 xr⟩])++[some ⟨1,(.of [.int .i64 (.var 11 x0),.int .i64 (.var 12 x1),.int .i64 (.var 13 x2),.int .i64 (.var 14 x3),.bool (.var 15 xb),.int .i64 (.var 16 x5)])⟩]))=(
  (decide ((n:Int)≥1)=true→
 (((x1:Int)==n)=true→
 leB ((c+1)*8) (140737488355328)=true∧
 Nat.beq (List.length ys) (c)=true∧
 Q .normal [.ptr (.rw 15) (0),.ptr (.rw 16) (0),.func 76 [.ptr (.rw 17) (0)],.agg ([.int .i64 (x0),.int .i64 (x1),.int .i64 (x2),.int .i64 (x3),.bool (xb),.int .i64 (x5)]:List AV),.ptr (.rw 21) (0)] ([some ⟨1,tb⟩]++(rows13 sl++([some ⟨1,z⟩,some ⟨1,([.int .i64 (n)]:List AV)⟩,some ⟨1,([.slice true (.rw 23) (0) (c+1)]:List AV)⟩,some ⟨1,([.ptr (.rw 0) (0)]:List AV)⟩,some ⟨4294967291,rc⟩,none,some ⟨1,xr⟩,some ⟨1,([.int .i64 (x0),.int .i64 (x1),.int .i64 (x2),.int .i64 (x3),.bool (xb),.int .i64 (x5)]:List AV)⟩,some ⟨1,([.int .i64 (x0)]:List AV)⟩,some ⟨1,(ys++([.int .i64 (x0)]:List AV))⟩]))))∧
 (((x1:Int)==n)=false→
 Q .normal [.ptr (.rw 15) (0),.ptr (.rw 16) (0),.func 76 [.ptr (.rw 17) (0)],.agg ([.int .i64 (x0),.int .i64 (x1),.int .i64 (x2),.int .i64 (x3),.bool (xb),.int .i64 (x5)]:List AV),.ptr (.rw 21) (0)] ([some ⟨1,tb⟩]++(rows13 sl++[some ⟨1,z⟩,some ⟨1,([.int .i64 (n)]:List AV)⟩,some ⟨1,([.slice true (.rw 19) (0) (c)]:List AV)⟩,some ⟨1,([.ptr (.rw 0) (0)]:List AV)⟩,some ⟨4294967291,rc⟩,some ⟨1,ys⟩,some ⟨1,xr⟩,some ⟨1,([.int .i64 (x0),.int .i64 (x1),.int .i64 (x2),.int .i64 (x3),.bool (xb),.int .i64 (x5)]:List AV)⟩]))))∧
 (decide ((n:Int)≥1)=false→
 Q .normal [.ptr (.rw 15) (0),.ptr (.rw 16) (0),.func 76 [.ptr (.rw 17) (0)],.agg ([.int .i64 (x0),.int .i64 (x1),.int .i64 (x2),.int .i64 (x3),.bool (xb),.int .i64 (x5)]:List AV),.ptr (.rw 21) (0)] ([some ⟨1,tb⟩]++(rows13 sl++[some ⟨1,z⟩,some ⟨1,([.int .i64 (n)]:List AV)⟩,some ⟨1,([.slice true (.rw 19) (0) (c)]:List AV)⟩,some ⟨1,([.ptr (.rw 0) (0)]:List AV)⟩,some ⟨4294967291,rc⟩,some ⟨1,ys⟩,some ⟨1,xr⟩,some ⟨1,([.int .i64 (x0),.int .i64 (x1),.int .i64 (x2),.int .i64 (x3),.bool (xb),.int .i64 (x5)]:List AV)⟩])))):=by kernel_rfl
theorem k_it (G:Nat→List AV) (ry:List AV→Bool) (tb sl z rc ys ar yn:List AV) (n:Int) (c i:Nat) (kb:Bool) (Q:Ex→List AV→Hp→Prop) (R:AV→Hp→Prop):vT G Q R (dloop (Dr Try.prog [] [] [] [] (yAt 2300 18 ry (.tst (.var 19 kb) (.one (.bool (.lit true)) [.app 19 ⟨1,.var 21 yn⟩,.set 16 ⟨1,.of [.slice true (.rw 21) (.lit 0) (.add (.var 4 c) (.lit 1))]⟩]) (.one (.bool (.lit true)) []))) 19) 300 60 19 (loopN Try.f76 0) 27 [0,11,12] [.yld 18,.agg (.var 25 ar),.int .i64 (.ofN (.var 6 i))] (HKd (.var 1 tb) (.var 2 sl) (.var 5 z) (.var 3 n) (.var 4 c) (.var 24 rc) (.var 22 ys)))=(
  (decide ((((i:Nat):Int):Int)<13)=true→
 decide ((0:Int)≤((i:Nat):Int))=true∧
 decide ((((i:Nat):Int):Int)<13)=true∧
 leB ((i)*7+7) (List.length ar)=true∧
 cellsB (subL ar ((i)*7) (7))=true∧
 Nat.beq (List.length (subL ar ((i)*7) (7))) (7)=true∧
 isI .i64 (subL ar ((i)*7) (7)) (0)=true∧
 (decide ((getI (subL ar ((i)*7) (7)) (0):Int)>0)=true→
 leB (6) (List.length (subL ar ((i)*7) (7)))=true∧
 (ry) [.agg ([.agg (subL (subL ar ((i)*7) (7)) (0) (6))]:List AV),.agg ((tp3 [.tup [.int .i64 (1),.agg tb]] sl [.tup [.int .i64 (1),.agg z],.tup [.int .i64 (1),.agg ([.int .i64 (n)]:List AV)],.tup [.int .i64 (1),.agg ([.slice true (.rw 19) (0) (c)]:List AV)],.tup [.int .i64 (1),.agg ([.ptr (.rw 0) (0)]:List AV)],.tup [.int .i64 (4294967291),.agg rc],.tup [.int .i64 (1),.agg ys],.tup [.int .i64 (1),.agg (subL ar ((i)*7) (7))]]):List AV)]=true∧
 (kb=true→
 Q .normal [.yld 18,.agg ar,.int .i64 (IntKind.wrap .i64 (((i:Nat):Int)+1))] ([some ⟨1,tb⟩]++(rows13 sl++[some ⟨1,z⟩,some ⟨1,([.int .i64 (n)]:List AV)⟩,some ⟨1,([.slice true (.rw 21) (0) (c+1)]:List AV)⟩,some ⟨1,([.ptr (.rw 0) (0)]:List AV)⟩,some ⟨4294967291,rc⟩,none,some ⟨1,(subL ar ((i)*7) (7))⟩,some ⟨1,yn⟩])))∧
 (kb=false→
 Q .normal [.yld 18,.agg ar,.int .i64 (IntKind.wrap .i64 (((i:Nat):Int)+1))] ([some ⟨1,tb⟩]++(rows13 sl++[some ⟨1,z⟩,some ⟨1,([.int .i64 (n)]:List AV)⟩,some ⟨1,([.slice true (.rw 19) (0) (c)]:List AV)⟩,some ⟨1,([.ptr (.rw 0) (0)]:List AV)⟩,some ⟨4294967291,rc⟩,some ⟨1,ys⟩,some ⟨1,(subL ar ((i)*7) (7))⟩]))))∧
 (decide ((getI (subL ar ((i)*7) (7)) (0):Int)>0)=false→
 Q .normal [.yld 18,.agg ar,.int .i64 (IntKind.wrap .i64 (((i:Nat):Int)+1))] ([some ⟨1,tb⟩]++(rows13 sl++[some ⟨1,z⟩,some ⟨1,([.int .i64 (n)]:List AV)⟩,some ⟨1,([.slice true (.rw 19) (0) (c)]:List AV)⟩,some ⟨1,([.ptr (.rw 0) (0)]:List AV)⟩,some ⟨4294967291,rc⟩,some ⟨1,ys⟩,some ⟨1,(subL ar ((i)*7) (7))⟩]))))∧
 (decide ((((i:Nat):Int):Int)<13)=false→
 Q (.exit 0) [.yld 18,.agg ar,.int .i64 (((i:Nat):Int))] ([some ⟨1,tb⟩]++(rows13 sl++[some ⟨1,z⟩,some ⟨1,([.int .i64 (n)]:List AV)⟩,some ⟨1,([.slice true (.rw 19) (0) (c)]:List AV)⟩,some ⟨1,([.ptr (.rw 0) (0)]:List AV)⟩,some ⟨4294967291,rc⟩,some ⟨1,ys⟩])))):=by kernel_rfl
def ptC (s:Ptb) (c:Nat):Nat→AV:=fun n=>match s.sg n with
 | none=>.nilp
 | some _=>.ptr (.rw (if n=c then 14 else 1+n)) 0
def B15 (s:Ptb) (cc:Nat) (sl z:List AV):Hp:=some ⟨1,encV (ptC s cc) s⟩::((List.range 13).map (fun n=>some ⟨1,rowA sl n⟩)++[some ⟨1,z⟩])
structure Flt (sl z:List AV):Prop where
 rows:∀ n,n<13→bnds 0 (rowA sl n)=true
 z:bnds 0 z=true
theorem B15_len {s:Ptb} {cc:Nat} {sl z:List AV}:(B15 s cc sl z).length=15:=by simp [B15]
theorem tb15 (s:Ptb) (cc:Nat) {m:Nat} (hm:15≤m):bnds m (encV (ptC s cc) s)=true:=by
 refine tsP_ok.bnd m (ptC s cc) s fun n hn=>?_
 unfold ptC
 split
 ·rfl
 ·have:(if n=cc then 14 else 1+n)<m:=by split<;>omega
  simpa [bnd] using this
theorem B15_at {s:Ptb} {cc:Nat} {sl z:List AV} (hf:Flt sl z) {i:Nat} {b:Blk} (hb:(B15 s cc sl z)[i]?=some (some b)):bnds 15 b.cells=true:=by
 have hi:=(List.getElem?_eq_some_iff.1 hb).1
 rw [B15_len] at hi
 unfold B15 at hb
 by_cases h0:i=0
 ·subst h0
  simp only [List.getElem?_cons_zero,Option.some.injEq] at hb
  subst hb
  exact tb15 s cc (Nat.le_refl 15)
 ·obtain ⟨n,rfl⟩:∃ n,i=n+1:=⟨i - 1,by omega⟩
  rw [List.getElem?_cons_succ] at hb
  by_cases h1:n<13
  ·rw [List.getElem?_append_left (by simpa using h1),List.getElem?_map,List.getElem?_range h1] at hb
   simp only [Option.map_some,Option.some.injEq] at hb
   subst hb
   exact bnds_mono (Nat.zero_le _) _ (hf.rows n h1)
  ·have:n=13:=by omega
   subst this
   rw [List.getElem?_append_right (by simp)] at hb
   simp at hb
   subst hb
   exact bnds_mono (Nat.zero_le _) _ hf.z
theorem B15_bnd {s:Ptb} {cc:Nat} {sl z:List AV} (hf:Flt sl z) {m:Nat} (hm:15≤m):hpB m (B15 s cc sl z)=true:=
 hpB_of fun _ _ hb=>bnds_mono hm _ (B15_at hf hb)
where
 hpB_of {m:Nat}:∀ {H:Hp},(∀ (i:Nat) b,H[i]?=some (some b)→bnds m b.cells=true)→hpB m H=true
  | [],_=>rfl
  | none::H,h=>by simp only [hpB];exact hpB_of fun i b hb=>h (i+1) b hb
  | some b::H,h=>by
   simp only [hpB,Bool.and_eq_true]
   exact ⟨h 0 b rfl,hpB_of fun i b hb=>h (i+1) b hb⟩
theorem blks_b15 {s:Ptb} {cc:Nat} {sl z:List AV} (hfl:Flt sl z) {θ:List Nat} {H' E:Hp} {n:Nat} {js:List Nat} (hn:15≤n) (hf:∀ i,i<15→θ.getD i 0=i) (hH:H'.take 15=B15 s cc sl z) (hE:blks θ H' n js E):blks θ H' n ([0,1,2,3,4,5,6,7,8,9,10,11,12,13,14]++js) (B15 s cc sl z++E):=by
 have key:∀ (k:Nat) (L:Hp) (is:List Nat),is=List.range' k L.length→(∀ (i:Nat) b,L[i]?=some b→(B15 s cc sl z)[k+i]?=some b)→k+L.length≤15→blks θ H' n (is++js) (L++E):=by
  intro k L
  induction L generalizing k with
  | nil=>intro is h _ _;subst h;exact hE
  | cons b L ih=>
   intro is h hL hk
   subst h
   simp only [List.length_cons,List.range'_succ,List.cons_append]
   have ih':=ih (k+1) _ rfl (fun i b hb=>by
    have:=hL (i+1) b hb
    rwa [show k+1+i=k+(i+1) by omega]) (by simp at hk;omega)
   have h0:=hL 0 b rfl
   rw [Nat.add_zero] at h0
   have hH0:H'[k]?=some b:=by
    have:(H'.take 15)[k]?=some b:=by rw [hH];exact h0
    rw [List.getElem?_take] at this
    split at this
    ·exact this
    ·cases this
   cases b with
   | none=>exact ⟨(List.getElem?_eq_some_iff.1 hH0).1,ih'⟩
   | some b=>
    refine ⟨⟨?_,?_⟩,ih'⟩
    ·exact bnds_mono hn _ (B15_at hfl h0)
    ·rw [rens_fix hf _ (B15_at hfl h0)]
     exact hH0
 exact key 0 (B15 s cc sl z) [0,1,2,3,4,5,6,7,8,9,10,11,12,13,14] (by rw [B15_len];rfl) (fun i b hb=>by rw [Nat.zero_add];exact hb) (by rw [B15_len];omega)
def hpK (s:Ptb) (cc:Nat) (sl z:List AV) (n:Int) (c:Nat) (rc ys:List AV):Hp:=B15 s cc sl z++[some ⟨1,[.int .i64 n]⟩,some ⟨1,[.slice true (.rw 19) 0 c]⟩,some ⟨1,[.ptr (.rw 0) 0]⟩,some ⟨4294967291,rc⟩,some ⟨1,ys⟩]
theorem hK (G:Nat→List AV) (s:Ptb) (cc:Nat) (sl z:List AV) (n:Int) (c:Nat) (rc ys:List AV):vHp G (HKd (.var 1 (encV (ptC s cc) s)) (.var 2 sl) (.var 5 z) (.var 3 n) (.var 4 c) (.var 24 rc) (.var 22 ys))=hpK s cc sl z n c rc ys:=rfl
theorem hKx (G:Nat→List AV) (s:Ptb) (cc:Nat) (sl z:List AV) (n:Int) (c:Nat) (rc ys xr:List AV):vHp G (HKd (.var 1 (encV (ptC s cc) s)) (.var 2 sl) (.var 5 z) (.var 3 n) (.var 4 c) (.var 24 rc) (.var 22 ys)++[some ⟨1,.var 23 xr⟩])=hpK s cc sl z n c rc ys++[some ⟨1,xr⟩]:=rfl
def F0k:Fr:=fl 24 [3,5,8] [.ptr (.rw 15) 0,.ptr (.rw 16) 0,.func 76 [.ptr (.rw 17) 0]]
noncomputable def rcK (p:Nat):List AV:=rcA (loopN Try.f31 0) p F0k
theorem N31_eq:loopN Try.f31 0=.rangeFunc (rgG (loopN Try.f31 0)) (rgP (loopN Try.f31 0)) (rgA (loopN Try.f31 0)) (rgB (loopN Try.f31 0)):=by kernel_rfl
theorem rcK_b (q:Nat):bnds 18 (rcK q)=true:=by kernel_rfl
end Go.Am
namespace Go.Am
open Go.Proofs Crc
set_option maxRecDepth 100000
theorem dgK (G:Nat→List AV) (B:Nat) {c:Code} (hc:loopsOf c=[]):DGood (⟨Try.prog,G,B⟩:Ctx) (Dc Try.prog [] [] [] 0) (loopsOf c):=by rw [hc];exact dgood (mix G B) (by kernel_rfl) .nil .nil
theorem vHp_app {G:Nat→List AV} {H K:DHp}:vHp G (H++K)=vHp G H++vHp G K:=by simp [vHp]
noncomputable def hpKn (s:Ptb) (cc:Nat) (sl z:List AV) (n:Int) (c:Nat) (ys xr:List AV):Hp:=B15 s cc sl z++[some ⟨1,[.int .i64 n]⟩,some ⟨1,[.slice true (.rw 21) 0 (c+1)]⟩,some ⟨1,[.ptr (.rw 0) 0]⟩,some ⟨4294967291,rcK 0⟩,none,some ⟨1,xr⟩,some ⟨1,ys⟩]
noncomputable def hpK0 (s:Ptb) (cc:Nat) (sl z:List AV) (n:Int) (c:Nat) (ys:List AV):Hp:=hpK s cc sl z n c (rcK 0) ys
def kidC (n x:Int):Bool:=decide (n≥1)&&x==n
theorem bm {n:Nat} {l:List AV} (h:bnds 0 l=true):bnds n l=true:=bnds_mono (Nat.zero_le _) _ h
theorem hpB_app {m:Nat}:∀ {H K:Hp},hpB m H=true→hpB m K=true→hpB m (H++K)=true
 | [],K,_,h=>h
 | none::H,K,h1,h2=>by simp only [List.cons_append,hpB] at h1 ⊢;exact hpB_app h1 h2
 | some b::H,K,h1,h2=>by
  simp only [List.cons_append,hpB,Bool.and_eq_true] at h1 ⊢
  exact ⟨h1.1,hpB_app h1.2 h2⟩
theorem rc_mK {m q:Nat} (h:18≤m):bnds m (rcK q)=true:=bnds_mono h _ (rcK_b q)
theorem fixK {θ:List Nat}:∀ i,i<15→([0,1,2,3,4,5,6,7,8,9,10,11,12,13,14]++θ).getD i 0=i:=fun i hi=>by
 match i,hi with
 | 0,_ | 1,_ | 2,_ | 3,_ | 4,_ | 5,_ | 6,_ | 7,_ | 8,_ | 9,_ | 10,_ | 11,_ | 12,_ | 13,_ | 14,_=>rfl
theorem rcK_r1:rens ([0,1,2,3,4,5,6,7,8,9,10,11,12,13,14]++[15,16,17,18,19,20,23]) (rcK 0)=rcK 0:=by kernel_rfl
theorem rcK_r2:rens ([0,1,2,3,4,5,6,7,8,9,10,11,12,13,14]++[15,16,17,18,21]) (rcK 0)=rcK 0:=by kernel_rfl
theorem y_k (G:Nat→List AV) (B:Nat) {s:Ptb} {cc:Nat} {sl z:List AV} (hfl:Flt sl z) (n:Int) (c:Nat) (ys xr:List AV) (hc:c=ys.length) (hc':c≤100) (hy:bnds 0 ys=true) (hx:bnds 15 xr=true) (x0 x1 x2 x3:Int) (xb:Bool) (x5:Int) :
    AYld (⟨Try.prog,G,B⟩:Ctx) 18 [.agg (rowU (⟨x0,x1,x2,x3,xb,x5⟩:Pc))] (hpK0 s cc sl z n c ys++[some ⟨1,xr⟩]) fun v H'=>v=.bool true∧(kidC n x1=true→H'=hpKn s cc sl z n c (ys++[.int .i64 x0]) xr)∧(kidC n x1=false→H'=hpK0 s cc sl z n c ys++[some ⟨1,xr⟩]):=by
  unfold hpK0
  rw [← hKx G]
  refine AYld.dxv (C:=(⟨Try.prog,G,B⟩:Ctx)) (K:=(Dc Try.prog [] [] [] 0)) (f1:=200) (f2:=300) (n1:=60) (n2:=60) (N:=24) (live:=[3,5,8,9,6]) (i:=18) (e:=4294967291) (ps:=rgP (loopN Try.f31 0)) (ac:=rgA (loopN Try.f31 0)) (bd:=rgB (loopN Try.f31 0)) (F0:=F0k) (args:=[.agg (rowU (⟨x0,x1,x2,x3,xb,x5⟩:Pc))])
    (vs:=[.ptr (.rw 15) (.lit 0),.ptr (.rw 16) (.lit 0),.func 76 [.ptr (.rw 17) (.lit 0)],.agg (.of [.int .i64 (.var 11 x0),.int .i64 (.var 12 x1),.int .i64 (.var 13 x2),.int .i64 (.var 14 x3),.bool (.var 15 xb),.int .i64 (.var 16 x5)]),.undef]) (vs1:=[.ptr (.rw 15) (.lit 0),.ptr (.rw 16) (.lit 0),.func 76 [.ptr (.rw 17) (.lit 0)],.agg (.of [.int .i64 (.var 11 x0),.int .i64 (.var 12 x1),.int .i64 (.var 13 x2),.int .i64 (.var 14 x3),.bool (.var 15 xb),.int .i64 (.var 16 x5)]),.ptr (.rw 21) (.lit 0)])
    (H:=(HKd (.var 1 (encV (ptC s cc) s)) (.var 2 sl) (.var 5 z) (.var 3 n) (.var 4 c) (.var 24 (rcK 0)) (.var 22 ys))++([some ⟨1,.var 23 xr⟩]:DHp)) (H1:=(HKd (.var 1 (encV (ptC s cc) s)) (.var 2 sl) (.var 5 z) (.var 3 n) (.var 4 c) (.var 24 (rcK 0)) (.var 22 ys))++([some ⟨1,.var 23 xr⟩]:DHp)++([some ⟨1,(.of [.int .i64 (.var 11 x0),.int .i64 (.var 12 x1),.int .i64 (.var 13 x2),.int .i64 (.var 14 x3),.bool (.var 15 xb),.int .i64 (.var 16 x5)])⟩]:DHp)) (H2:=(HKd (.var 1 (encV (ptC s cc) s)) (.var 2 sl) (.var 5 z) (.var 3 n) (.var 4 c) (.var 24 (rcK 1)) (.var 22 ys))++([some ⟨1,.var 23 xr⟩]:DHp)++([some ⟨1,(.of [.int .i64 (.var 11 x0),.int .i64 (.var 12 x1),.int .i64 (.var 13 x2),.int .i64 (.var 14 x3),.bool (.var 15 xb),.int .i64 (.var 16 x5)])⟩]:DHp))
    (dgK G B (by kernel_rfl)) (dgK G B (by kernel_rfl)) rfl rfl rfl (by kernel_rfl) (by kernel_rfl) rfl ?_ rfl (by simp [HKd,rows13,hp3,rw13]) rfl ?_
  · have:=k_as G (encV (ptC s cc) s) sl z (rcK 0) ys xr n c x0 x1 x2 x3 xb x5 (fun ex ws H'=>ex=.normal∧ws=vVs G [.ptr (.rw 15) (.lit 0),.ptr (.rw 16) (.lit 0),.func 76 [.ptr (.rw 17) (.lit 0)],.agg (.of [.int .i64 (.var 11 x0),.int .i64 (.var 12 x1),.int .i64 (.var 13 x2),.int .i64 (.var 14 x3),.bool (.var 15 xb),.int .i64 (.var 16 x5)]),.ptr (.rw 21) (.lit 0)]∧H'=vHp G ((HKd (.var 1 (encV (ptC s cc) s)) (.var 2 sl) (.var 5 z) (.var 3 n) (.var 4 c) (.var 24 (rcK 0)) (.var 22 ys))++([some ⟨1,.var 23 xr⟩]:DHp)++([some ⟨1,(.of [.int .i64 (.var 11 x0),.int .i64 (.var 12 x1),.int .i64 (.var 13 x2),.int .i64 (.var 14 x3),.bool (.var 15 xb),.int .i64 (.var 16 x5)])⟩]:DHp))) (fun _ _=>False)
    exact Eq.mpr this ⟨rfl,rfl,rfl⟩
  · have:=k_bd G (encV (ptC s cc) s) sl z (rcK 1) ys xr n c x0 x1 x2 x3 xb x5 (fun ex _ H'=>H'[18]?=some (some ⟨4294967291,.rcd 1 (rgP (loopN Try.f31 0)) (rgA (loopN Try.f31 0)) (rgB (loopN Try.f31 0))::F0k⟩)∧∃ H'',View ((HKd (.var 1 (encV (ptC s cc) s)) (.var 2 sl) (.var 5 z) (.var 3 n) (.var 4 c) (.var 24 (rcK 0)) (.var 22 ys))++([some ⟨1,.var 23 xr⟩]:DHp)).length [.bool (isNormal ex)] H'' [.bool (isNormal ex)] (H'.set 18 (some ⟨4294967291,.rcd (stEx ex) (rgP (loopN Try.f31 0)) (rgA (loopN Try.f31 0)) (rgB (loopN Try.f31 0))::F0k⟩))∧(AV.bool (isNormal ex)=.bool true∧(kidC n x1=true→H''=hpKn s cc sl z n c (ys++[.int .i64 x0]) xr)∧(kidC n x1=false→H''=vHp G ((HKd (.var 1 (encV (ptC s cc) s)) (.var 2 sl) (.var 5 z) (.var 3 n) (.var 4 c) (.var 24 (rcK 0)) (.var 22 ys))++([some ⟨1,.var 23 xr⟩]:DHp))))) (fun _ _=>False)
    have no:∀ (K:Hp),kidC n x1=false→(vHp G ((HKd (.var 1 (encV (ptC s cc) s)) (.var 2 sl) (.var 5 z) (.var 3 n) (.var 4 c) (.var 24 (rcK 1)) (.var 22 ys))++([some ⟨1,.var 23 xr⟩]:DHp)++([some ⟨1,(.of [.int .i64 (.var 11 x0),.int .i64 (.var 12 x1),.int .i64 (.var 13 x2),.int .i64 (.var 14 x3),.bool (.var 15 xb),.int .i64 (.var 16 x5)])⟩]:DHp))).set 18 (some (⟨4294967291,rcK 0⟩:Blk))=hpK s cc sl z n c (rcK 0) ys++[some (⟨1,xr⟩:Blk)]++[some (⟨1,rowU (⟨x0,x1,x2,x3,xb,x5⟩:Pc)⟩:Blk)]→∃ H'',View ((HKd (.var 1 (encV (ptC s cc) s)) (.var 2 sl) (.var 5 z) (.var 3 n) (.var 4 c) (.var 24 (rcK 0)) (.var 22 ys))++([some ⟨1,.var 23 xr⟩]:DHp)).length [.bool true] H'' [.bool true] ((vHp G ((HKd (.var 1 (encV (ptC s cc) s)) (.var 2 sl) (.var 5 z) (.var 3 n) (.var 4 c) (.var 24 (rcK 1)) (.var 22 ys))++([some ⟨1,.var 23 xr⟩]:DHp)++([some ⟨1,(.of [.int .i64 (.var 11 x0),.int .i64 (.var 12 x1),.int .i64 (.var 13 x2),.int .i64 (.var 14 x3),.bool (.var 15 xb),.int .i64 (.var 16 x5)])⟩]:DHp))).set 18 (some (⟨4294967291,rcK 0⟩:Blk)))∧(AV.bool true=.bool true∧(kidC n x1=true→H''=hpKn s cc sl z n c (ys++[.int .i64 x0]) xr)∧(kidC n x1=false→H''=vHp G ((HKd (.var 1 (encV (ptC s cc) s)) (.var 2 sl) (.var 5 z) (.var 3 n) (.var 4 c) (.var 24 (rcK 0)) (.var 22 ys))++([some ⟨1,.var 23 xr⟩]:DHp)))):=fun _ hk e=>by
      refine ⟨hpK s cc sl z n c (rcK 0) ys++[some (⟨1,xr⟩:Blk)],?_,rfl,fun h=>(by rw [hk] at h;cases h),fun _=>by rw [hKx G]⟩
      rw [e]
      refine View.same (G:=[some (⟨1,rowU (⟨x0,x1,x2,x3,xb,x5⟩:Pc)⟩:Blk)]) (by simp [HKd,hpK,B15_len]) ?_ ⟨⟨rfl,rfl⟩,trivial⟩
      have hl:(hpK s cc sl z n c (rcK 0) ys++[some (⟨1,xr⟩:Blk)]).length=21:=by simp [hpK,B15_len]
      rw [hl]
      unfold hpK
      refine hpB_app (hpB_app (B15_bnd hfl (by omega)) ?_) ?_
      · simp only [hpB,bm hy,rc_mK (show 18≤21 by omega),bnds,bnd,Bool.and_self,Bool.and_true];rfl
      · simp only [hpB,bnds_mono (show 15≤21 by omega) _ hx,Bool.and_self]
    have e1:(vHp G ((HKd (.var 1 (encV (ptC s cc) s)) (.var 2 sl) (.var 5 z) (.var 3 n) (.var 4 c) (.var 24 (rcK 1)) (.var 22 ys))++([some ⟨1,.var 23 xr⟩]:DHp)++([some ⟨1,(.of [.int .i64 (.var 11 x0),.int .i64 (.var 12 x1),.int .i64 (.var 13 x2),.int .i64 (.var 14 x3),.bool (.var 15 xb),.int .i64 (.var 16 x5)])⟩]:DHp))).set 18 (some (⟨4294967291,rcK 0⟩:Blk))=hpK s cc sl z n c (rcK 0) ys++[some (⟨1,xr⟩:Blk)]++[some (⟨1,rowU (⟨x0,x1,x2,x3,xb,x5⟩:Pc)⟩:Blk)]:=by
      rw [←hKx G,←show vHp G [some (⟨1,(.of [.int .i64 (.var 11 x0),.int .i64 (.var 12 x1),.int .i64 (.var 13 x2),.int .i64 (.var 14 x3),.bool (.var 15 xb),.int .i64 (.var 16 x5)])⟩:DBlk)]=[some (⟨1,rowU (⟨x0,x1,x2,x3,xb,x5⟩:Pc)⟩:Blk)] from rfl,←vHp_app]
      rfl
    refine Eq.mpr this ⟨fun h1=>⟨fun h2=>⟨leB_iff.2 (by omega),by rw [hc];exact Nat.beq_refl _,rfl,hpKn s cc sl z n c (ys++[.int .i64 x0]) xr,?_,rfl,fun _=>rfl,fun q=>?_⟩,fun h2=>⟨rfl,no [] ?_ e1⟩⟩,fun h1=>⟨rfl,no [] ?_ e1⟩⟩
    · have f2:bnds 0 (ys++[.int .i64 x0])=true:=by rw [bnds_eq] at hy ⊢;simp [hy,bnd]
      have hl:(hpKn s cc sl z n c (ys++[.int .i64 x0]) xr).length=22:=by simp [hpKn,B15_len]
      refine View.renM (θ:=[0,1,2,3,4,5,6,7,8,9,10,11,12,13,14]++[15,16,17,18,19,20,23]) (by rw [hl];simp [HKd,rows13,hp3,rw13]) (fun i hi=>?_) (by decide) ?_ rfl (by simp [rens,ren,wk])
      · have hi:i<21:=by simpa [HKd] using hi
        exact (by decide:∀ i,i<21→([0,1,2,3,4,5,6,7,8,9,10,11,12,13,14]++[15,16,17,18,19,20,23]:List Nat).getD i 0=i) i hi
      · rw [hl]
        refine blks_b15 hfl (by omega) fixK rfl ?_
        refine ⟨⟨rfl,rfl⟩,⟨rfl,rfl⟩,⟨rfl,rfl⟩,⟨rc_mK (by omega),by rw [rcK_r1];rfl⟩,by simp [HKd,rows13,hp3,rw13],⟨bnds_mono (by omega) _ hx,by rw [rens_fix fixK _ hx];rfl⟩,⟨bm f2,by rw [rens_flat _ _ f2];rfl⟩,trivial⟩
    · unfold kidC at q
      rw [show decide (n≥1)=true from h1,show (x1==n)=true from h2] at q;cases q
    · unfold kidC;rw [show (x1==n)=false from h2,Bool.and_false]
    · unfold kidC;rw [show decide (n≥1)=false from h1,Bool.false_and]
end Go.Am
namespace Go.Am
open Go.Proofs Crc
set_option maxRecDepth 100000
def kidB (s:Ptb) (n:Int) (c:Nat):Bool:=decide (0<(s.at_ c).num)&&kidC n (s.at_ c).par
def kidT (s:Ptb) (n:Int) (i:Nat):List Nat:=(List.range i).filter (kidB s n)
theorem kidT_succ (s:Ptb) (n:Int) (i:Nat):kidT s n (i+1)=kidT s n i++(if kidB s n i then [i] else []):=by
 unfold kidT
 rw [List.range_succ,List.filter_append]
 congr 1
 simp only [List.filter_cons,List.filter_nil]
theorem kidT_len (s:Ptb) (n:Int) (i:Nat):(kidT s n i).length≤i:=by
 have:=List.length_filter_le (kidB s n) (List.range i)
 simpa [kidT] using this
def arT (s:Ptb) (cc:Nat):List AV:=subL (encV (ptC s cc) s) 1 91
theorem arT_eq (s:Ptb) (cc:Nat):arT s cc=tabL 13 7 fun n=>fcell (s.at_ n) (ptC s cc n):=by
 unfold arT subL encV
 rw [List.drop_succ_cons,List.drop_zero,List.take_of_length_le (by rw [tabL_len];omega)]
theorem arT_row {s:Ptb} {cc i:Nat} (hi:i<13):subL (arT s cc) (i*7) 7=rowT (s.at_ i) (ptC s cc i):=by
 rw [arT_eq,tabL_sub hi];rfl
theorem arT_len (s:Ptb) (cc:Nat):(arT s cc).length=91:=by rw [arT_eq,tabL_len]
theorem ptC_bnd {s:Ptb} {cc i:Nat} (hi:i<13):bnd 15 (ptC s cc i)=true:=by
 unfold ptC
 split
 ·rfl
 ·have:(if i=cc then 14 else 1+i)<15:=by split<;>omega
  simpa [bnd] using this
theorem row_bnd {s:Ptb} {cc i:Nat} (hi:i<13):bnds 15 (rowT (s.at_ i) (ptC s cc i))=true:=by
 have h:bnd 15 (ptC s cc i)=true:=ptC_bnd hi
 simp only [rowT,bnds,bnd,h,Bool.and_self]
theorem kO_ok (G:Nat→List AV) (B:Nat) {s:Ptb} {cc:Nat} {sl z:List AV} (hfl:Flt sl z) (n:Int) {i:Nat} (hi:i<13):DYsumOk (⟨Try.prog,G,B⟩:Ctx) (yAt 2300 18 (isSt [.agg (subL (subL (arT s cc) (i*7) 7) 0 6)] (vHp G ((HKd (.var 1 (encV (ptC s cc) s)) (.var 2 sl) (.var 5 z) (.var 3 n) (.var 4 (kidT s n i).length) (.var 24 (rcK 0)) (.var 22 (nl (kidT s n i))))++([some ⟨1,.sub (.var 25 (arT s cc)) (.mul (.var 6 i) 7) (.lit 7)⟩]:DHp)))) (.tst (.var 19 (kidC n (s.at_ i).par)) (.one (.bool (.lit true)) [.app 19 ⟨1,.var 21 (nl (kidT s n i)++[.int .i64 (s.at_ i).num])⟩,.set 16 ⟨1,.of [.slice true (.rw 21) (.lit 0) (.add (.var 4 (kidT s n i).length) (.lit 1))]⟩]) (.one (.bool (.lit true)) []))):=by
 refine yAt_ok rfl ?_
 have hle:=kidT_len s n i
 have key:=y_k G B (s:=s) (cc:=cc) hfl n (kidT s n i).length (nl (kidT s n i)) (rowT (s.at_ i) (ptC s cc i)) (nl_length _).symm (by omega) (nl_flat 0 _) (row_bnd hi) (s.at_ i).num (s.at_ i).par (s.at_ i).grp (s.at_ i).usr (s.at_ i).en (s.at_ i).st
 have e1:subL (subL (arT s cc) (i*7) 7) 0 6=rowU (s.at_ i):=by rw [arT_row hi];rfl
 have e2:(vHp G ((HKd (.var 1 (encV (ptC s cc) s)) (.var 2 sl) (.var 5 z) (.var 3 n) (.var 4 (kidT s n i).length) (.var 24 (rcK 0)) (.var 22 (nl (kidT s n i))))++([some ⟨1,.sub (.var 25 (arT s cc)) (.mul (.var 6 i) 7) (.lit 7)⟩]:DHp)))=hpK0 s cc sl z n (kidT s n i).length (nl (kidT s n i))++[some (⟨1,rowT (s.at_ i) (ptC s cc i)⟩:Blk)]:=by
  rw [vHp_app,hK,←arT_row hi];rfl
 rw [e1,e2]
 refine key.mono ?_
 rintro v H' ⟨rfl,h1,h2⟩
 cases hk:kidC n (s.at_ i).par with
 | true=>
  refine .inl ⟨rfl,rfl,?_⟩
  rw [h1 hk]
  unfold hpKn hpK0 hpK
  rfl
 | false=>exact .inr ⟨rfl,rfl,by rw [h2 hk];rfl⟩
noncomputable def hpI (s:Ptb) (cc:Nat) (sl z:List AV) (n:Int) (i:Nat):Hp:=hpK0 s cc sl z n (kidT s n i).length (nl (kidT s n i))
theorem k_loop (G:Nat→List AV) (B:Nat) {s:Ptb} {cc:Nat} {sl z:List AV} (hfl:Flt sl z) (hw:Wf s) (n:Int) :
  AWp (⟨Try.prog,G,B⟩:Ctx) 19 (.loop (loopN Try.f76 0)) (fl 27 [0,11,12] [.yld 18,.agg (arT s cc),.int .i64 0]) (hpI s cc sl z n 0) (lv 27 [0,11,12] fun e vs H=>e=.exit 0∧wk [.undef,.undef,.undef] vs∧H=hpI s cc sl z n 13):=by
 refine scan 13 (fun i=>[.yld 18,.agg (arT s cc),.int .i64 (i:Int)]) (hpI s cc sl z n) fun i hi=>?_
 have eH:hpI s cc sl z n i=vHp G (HKd (.var 1 (encV (ptC s cc) s)) (.var 2 sl) (.var 5 z) (.var 3 n) (.var 4 (kidT s n i).length) (.var 24 (rcK 0)) (.var 22 (nl (kidT s n i)))):=by unfold hpI hpK0;rw [hK]
 rw [eH]
 have al:=arT_len s cc
 by_cases him:i<13
 ·refine dloop_ok (C:=(⟨Try.prog,G,B⟩:Ctx)) (K:=Dr Try.prog [] [] [] [] (yAt 2300 18 (isSt [.agg (subL (subL (arT s cc) (i*7) 7) 0 6)] (vHp G ((HKd (.var 1 (encV (ptC s cc) s)) (.var 2 sl) (.var 5 z) (.var 3 n) (.var 4 (kidT s n i).length) (.var 24 (rcK 0)) (.var 22 (nl (kidT s n i))))++([some ⟨1,.sub (.var 25 (arT s cc)) (.mul (.var 6 i) 7) (.lit 7)⟩]:DHp)))) (.tst (.var 19 (kidC n (s.at_ i).par)) (.one (.bool (.lit true)) [.app 19 ⟨1,.var 21 (nl (kidT s n i)++[.int .i64 (s.at_ i).num])⟩,.set 16 ⟨1,.of [.slice true (.rw 21) (.lit 0) (.add (.var 4 (kidT s n i).length) (.lit 1))]⟩]) (.one (.bool (.lit true)) []))) 19) (dgoodr (mix G B) (by kernel_rfl) .nil .nil .none (kO_ok G B hfl n him)) (fuel:=300) (n0:=60) (m:=19) (c:=loopN Try.f76 0)
   (vs:=[.yld 18,.agg (.var 25 (arT s cc)),.int .i64 (.ofN (.var 6 i))]) (H:=(HKd (.var 1 (encV (ptC s cc) s)) (.var 2 sl) (.var 5 z) (.var 3 n) (.var 4 (kidT s n i).length) (.var 24 (rcK 0)) (.var 22 (nl (kidT s n i))))) (by simp [HKd,rows13,hp3,rw13]) ?_
  rw [k_it]
  have er:=arT_row (s:=s) (cc:=cc) him
  have next:∀ (H':Hp) (E:Hp),kidT s n (i+1)=kidT s n i→H'=hpI s cc sl z n i++E→View 19 [.yld 18,.agg (arT s cc),.int .i64 ((i+1:Nat):Int)] (hpI s cc sl z n (i+1)) [.yld 18,.agg (arT s cc),.int .i64 ((i+1:Nat):Int)] H':=fun H' E e h=>by
   subst h
   have e':hpI s cc sl z n (i+1)=hpI s cc sl z n i:=by unfold hpI;rw [e]
   rw [e']
   have hl:(hpI s cc sl z n i).length=20:=by simp [hpI,hpK0,hpK,B15_len]
   refine View.same (by rw [hl];omega) ?_ ?_
   ·rw [hl]
    unfold hpI hpK0 hpK
    refine hpB_app (B15_bnd hfl (by omega)) ?_
    simp only [hpB,bm (nl_flat 0 (kidT s n i)),rc_mK (show 18≤20 by omega),bnds,bnd,Bool.and_self,Bool.and_true];rfl
   ·rw [hl]
    refine ⟨⟨rfl,rfl⟩,⟨?_,rfl⟩,⟨rfl,rfl⟩,trivial⟩
    have:=ar_b s cc 20 (by omega)
    simpa [bnd] using this
  refine ⟨fun h=>⟨decide_eq_true (by omega),h,leB_iff.2 (by rw [al];omega),?_,?_,?_,fun hp=>⟨?_,isSt_refl,fun hk=>?_,fun hk=>?_⟩,fun hp=>?_⟩,fun h=>?_⟩
  ·rw [er]
   unfold ptC;cases s.sg i<;>rfl
  ·rw [er];rfl
  ·rw [er];rfl
  ·rw [er];rfl
  ·have hkb:kidB s n i=true:=by
    rw [er] at hp
    unfold kidB
    rw [show decide (0<(s.at_ i).num)=true from hp,Bool.true_and];exact hk
   have hnum:(s.at_ i).num=(i:Int):=(hw.there (n:=i) (by
    rw [er] at hp
    have:=of_decide_eq_true hp
    have:(s.at_ i).num>0:=this
    omega)).1
   refine ⟨him,.inr ?_⟩
   rw [i64_in (by omega)]
   have et:kidT s n (i+1)=kidT s n i++[i]:=by rw [kidT_succ,hkb,if_pos rfl]
   have hl:(hpI s cc sl z n (i+1)).length=20:=by simp [hpI,hpK0,hpK,B15_len]
   have hle:=kidT_len s n i
   refine View.renM (θ:=[0,1,2,3,4,5,6,7,8,9,10,11,12,13,14]++[15,16,17,18,21]) (by rw [hl];omega) (fun j hj=>?_) (by decide) ?_ ?_ ?_
   ·exact (by decide:∀ i,i<19→([0,1,2,3,4,5,6,7,8,9,10,11,12,13,14]++[15,16,17,18,21]:List Nat).getD i 0=i) j hj
   ·rw [hl]
    refine blks_b15 hfl (by omega) fixK rfl ?_
    rw [et]
    refine ⟨⟨rfl,rfl⟩,⟨rfl,?_⟩,⟨rfl,rfl⟩,⟨rc_mK (by omega),by rw [rcK_r2];rfl⟩,⟨bm (nl_flat 0 _),?_⟩,trivial⟩
    ·show some (some (⟨1,[.slice true (.rw 21) 0 ((kidT s n i).length+1)]⟩:Blk))=some (some ⟨1,[.slice true (.rw 21) 0 (kidT s n i++[i]).length]⟩)
     rw [List.length_append];rfl
    ·rw [nl_rens,nl_append]
     show some (some (⟨1,nl (kidT s n i)++[.int .i64 (s.at_ i).num]⟩:Blk))=some (some ⟨1,nl (kidT s n i)++nl [i]⟩)
     rw [hnum];rfl
   ·rw [hl]
    have:=ar_b s cc 20 (by omega)
    simp only [bnds,bnd,this,Bool.and_self,Bool.and_true];rfl
   ·simp only [rens,ren,rens_fix fixK _ (ar_b s cc 15 (by omega))]
    simp [wk]
  ·refine ⟨him,.inr ?_⟩
   rw [i64_in (by omega)]
   have hk:kidC n (s.at_ i).par=false:=hk
   have hkb:kidB s n i=false:=by unfold kidB;rw [hk,Bool.and_false]
   refine next _ [some (⟨1,subL (arT s cc) (i*7) 7⟩:Blk)] (by rw [kidT_succ,hkb];simp) ?_
   rw [eH];rfl
  ·refine ⟨him,.inr ?_⟩
   rw [i64_in (by omega)]
   have hkb:kidB s n i=false:=by
    rw [er] at hp
    unfold kidB
    rw [show decide (0<(s.at_ i).num)=false from hp,Bool.false_and]
   refine next _ [some (⟨1,subL (arT s cc) (i*7) 7⟩:Blk)] (by rw [kidT_succ,hkb];simp) ?_
   rw [eH];rfl
  ·exact absurd (of_decide_eq_false h) (by omega)
 ·have:i=13:=by omega
  subst this
  refine dloop_ok (C:=(⟨Try.prog,G,B⟩:Ctx)) (K:=Dr Try.prog [] [] [] [] (yAt 2300 18 (fun _=>false) (.tst (.var 19 false) (.one (.bool (.lit true)) [.app 19 ⟨1,.var 21 []⟩,.set 16 ⟨1,.of [.slice true (.rw 21) (.lit 0) (.add (.var 4 (kidT s n 13).length) (.lit 1))]⟩]) (.one (.bool (.lit true)) []))) 19) (dgoodr (mix G B) (by kernel_rfl) .nil .nil .none (fun i args H o ho=>?_)) (fuel:=300) (n0:=60) (m:=19) (c:=loopN Try.f76 0)
   (vs:=[.yld 18,.agg (.var 25 (arT s cc)),.int .i64 (.ofN (.var 6 13))]) (H:=(HKd (.var 1 (encV (ptC s cc) s)) (.var 2 sl) (.var 5 z) (.var 3 n) (.var 4 (kidT s n 13).length) (.var 24 (rcK 0)) (.var 22 (nl (kidT s n 13))))) (by simp [HKd,rows13,hp3,rw13]) ?_
  ·unfold yAt at ho
   split at ho
   ·simp only [Option.some.injEq] at ho;subst ho
    intro h;exact absurd h (by simp [vB])
   ·simp at ho
  ·rw [k_it]
   refine ⟨fun h=>absurd (of_decide_eq_true h) (by omega),fun h=>⟨rfl,by simp [wk],?_⟩⟩
   rw [eH];rfl
where
 ar_b (s:Ptb) (cc m:Nat) (h:15≤m):bnds m (arT s cc)=true:=by
  have h2:bnds m (encV (ptC s cc) s)=true:=tb15 s cc h
  rw [bnds_eq,List.all_eq_true] at h2 ⊢
  intro v hv
  refine h2 v ?_
  unfold arT subL at hv
  exact List.mem_of_mem_drop (List.mem_of_mem_take hv)
end Go.Am
