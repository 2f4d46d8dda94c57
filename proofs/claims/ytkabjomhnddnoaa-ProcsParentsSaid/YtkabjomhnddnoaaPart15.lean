/-
  Processes: the program's Fork. Processes: the program's Fork: the call.
-/
import Derived.Test.YtkabjomhnddnoaaPart14
namespace Go.Am
open Go.Proofs Crc
set_option maxRecDepth 100000
theorem f_b (G:Nat→List AV) (tb sl:List AV) (n i:Int) (Q:Ex→List AV→Hp→Prop) (R:AV→Hp→Prop):vT G Q R (dloop (Dc Try.prog [36,39] [] [] 0) 300 40 14 (loopN Try.f26 0) 50 [0,1,4,5,7] [.ptr (.rw 0) (.lit 0),.int .i64 (.var 3 n),.int .i64 (.lit 0),.int .i64 (.lit 0),.int .i64 (.var 4 i)] (hp3 [some ⟨1,.var 1 tb⟩] (.var 2 sl) []))=(
  (decide ((i:Int)≤12)=true→
 isB tb (0)=true∧
 (getB tb (0)=true→
 (decide ((i:Int)≥1)=true→
 decide ((i:Int)≤12)=true∧
 decide ((0:Int)≤i)=true∧
 decide ((i:Int)<13)=true∧
 isI .i64 tb ((Int.toNat (i))*7+1)=true∧
 (((getI tb ((Int.toNat (i))*7+1):Int)==i)=true→
 Q .normal [.ptr (.rw 0) (0),.int .i64 (n),.int .i64 (0),.int .i64 (0),.int .i64 (IntKind.wrap .i64 (i+1))] ([some ⟨1,tb⟩]++rows13 sl))∧
 (((getI tb ((Int.toNat (i))*7+1):Int)==i)=false→
 Q (.exit 0) [.ptr (.rw 0) (0),.int .i64 (n),.int .i64 (0),.int .i64 (0),.int .i64 (i)] ([some ⟨1,tb⟩]++rows13 sl)))∧
 (decide ((i:Int)≥1)=false→
 Q (.exit 0) [.ptr (.rw 0) (0),.int .i64 (n),.int .i64 (0),.int .i64 (0),.int .i64 (i)] ([some ⟨1,tb⟩]++rows13 sl)))∧
 (getB tb (0)=false→
 Q (.exit 0) [.ptr (.rw 0) (0),.int .i64 (n),.int .i64 (0),.int .i64 (0),.int .i64 (i)] ([some ⟨1,tb⟩]++rows13 sl)))∧
 (decide ((i:Int)≤12)=false→
 Q (.exit 0) [.ptr (.rw 0) (0),.int .i64 (n),.int .i64 (0),.int .i64 (0),.int .i64 (i)] ([some ⟨1,tb⟩]++rows13 sl))):=by kernel_rfl
theorem f_c (G:Nat→List AV) (rl:List AV→Bool) (tb sl:List AV) (n:Int) (c:Nat) (Q:Ex→List AV→Hp→Prop) (R:AV→Hp→Prop):vT G Q R (dcall (Df Try.prog [(48,1,13)] [36,38,39,20] [(58,fChildS sideP)] [DLat 2330 (rl) 0 50 [0,1,4,5,7] (.one (.exit 0) [.ptr (.rw 0) (.lit 0),.int .i64 (.var 3 n),.int .i64 (.lit 0),.int .i64 (.lit 0),.int .i64 (.ofN (.var 6 c))] (hp3 [some ⟨1,.var 1 tb⟩] (.var 2 sl) []))] 14) 300 40 Try.f26 [.ptr (.rw 0) (.lit 0),.int .i64 (.var 3 n)] (hp3 [some ⟨1,.var 1 tb⟩] (.var 2 sl) []) 16)=(
  isB tb (0)=true∧
 (getB tb (0)=true→
 isB tb (0)=true∧
 getB tb (0)=true∧
 (decide ((n:Int)≥1)=true→
 (decide ((n:Int)≤12)=true→
 decide ((0:Int)≤n)=true∧
 decide ((n:Int)<13)=true∧
 isI .i64 tb ((Int.toNat (n))*7+1)=true∧
 (((getI tb ((Int.toNat (n))*7+1):Int)==n)=true→
 decide ((0:Int)≤n)=true∧
 decide ((n:Int)<13)=true∧
 isB tb ((Int.toNat (n))*7+5)=true∧
 (getB tb ((Int.toNat (n))*7+5)=true→
 R (.tup [.int .i64 (0),.int .i64 (6)]) ([some ⟨1,tb⟩]++rows13 sl))∧
 (getB tb ((Int.toNat (n))*7+5)=false→
 (rl) [.agg ([.ptr (.rw 0) (0),.int .i64 (n),.int .i64 (0),.int .i64 (0),.int .i64 (1)]:List AV),.agg ((tp3 [.tup [.int .i64 (1),.agg tb]] sl []):List AV)]=true∧
 (decide ((((c:Nat):Int):Int)>12)=true→
 R (.tup [.int .i64 (0),.int .i64 (5)]) ([some ⟨1,tb⟩]++rows13 sl))∧
 (decide ((((c:Nat):Int):Int)>12)=false→
 decide ((0:Int)≤n)=true∧
 decide ((n:Int)<13)=true∧
 leB ((Int.toNat (n))*7+8) (List.length tb)=true∧
 cellsB (subL tb ((Int.toNat (n))*7+1) (7))=true∧
 Nat.beq (List.length (subL tb ((Int.toNat (n))*7+1) (7))) (7)=true∧
 isI .i64 (subL tb ((Int.toNat (n))*7+1) (7)) (2)=true∧
 isI .i64 (subL tb ((Int.toNat (n))*7+1) (7)) (3)=true∧
 (isNilA (subL tb ((Int.toNat (n))*7+1) (7)) (6)=true→
 False)∧
 (isNilA (subL tb ((Int.toNat (n))*7+1) (7)) (6)=false→
 isPA 1 13 (subL tb ((Int.toNat (n))*7+1) (7)) (6)=true∧
 Nat.beq (foA (subL tb ((Int.toNat (n))*7+1) (7)) (6)) (0)=true∧
 leB (fkA 1 (subL tb ((Int.toNat (n))*7+1) (7)) (6)+1) (13)=true∧
 rowsA sl (rp 13 sl)=true∧
 leB (fkA 1 (subL tb ((Int.toNat (n))*7+1) (7)) (6)+1) (List.length sl)=true∧
 okU [.agg (rowA sl (fkA 1 (subL tb ((Int.toNat (n))*7+1) (7)) (6)))]=true∧
 decide ((0:Int)≤((c:Nat):Int))=true∧
 decide ((((c:Nat):Int):Int)<13)=true∧
 leB ((c)*7+8) (List.length tb)=true∧
 R (.tup [.int .i64 (((c:Nat):Int)),.int .i64 (0)]) ([some ⟨1,(setPart tb ((c)*7+1) (.agg ([.int .i64 (((c:Nat):Int)),.int .i64 (n),.int .i64 (getI (subL tb ((Int.toNat (n))*7+1) (7)) (2)),.int .i64 (getI (subL tb ((Int.toNat (n))*7+1) (7)) (3)),.bool (false),.int .i64 (0),.ptr (.rw 15) (0)]:List AV)))⟩]++(rows13 sl++[some ⟨1,(subL tb ((Int.toNat (n))*7+1) (7))⟩,some ⟨1,(childU [.agg (rowA sl (fkA 1 (subL tb ((Int.toNat (n))*7+1) (7)) (6)))])⟩]))))))∧
 (((getI tb ((Int.toNat (n))*7+1):Int)==n)=false→
 R (.tup [.int .i64 (0),.int .i64 (6)]) ([some ⟨1,tb⟩]++rows13 sl)))∧
 (decide ((n:Int)≤12)=false→
 R (.tup [.int .i64 (0),.int .i64 (6)]) ([some ⟨1,tb⟩]++rows13 sl)))∧
 (decide ((n:Int)≥1)=false→
 R (.tup [.int .i64 (0),.int .i64 (6)]) ([some ⟨1,tb⟩]++rows13 sl)))∧
 (getB tb (0)=false→
 R (.tup [.int .i64 (0),.int .i64 (1)]) ([some ⟨1,tb⟩]++rows13 sl))):=by kernel_rfl
def lowF (s:Ptb):Nat:=(((List.range 12).find? fun (j:Nat)=>!isP s ((j:Int)+1)).getD 12)+1
theorem f_loop (G:Nat→List AV) (B:Nat) {s:Ptb} (n:Int):AWp (⟨Try.prog,G,B⟩:Ctx) 14 (.loop (loopN Try.f26 0)) (fl 50 [0,1,4,5,7] [.ptr (.rw 0) 0,.int .i64 n,.int .i64 0,.int .i64 0,.int .i64 1]) (vHp G (hp3 [some ⟨1,.var 1 (encT 1 s)⟩] (.var 2 (setsL encP s)) [])) (lv 50 [0,1,4,5,7] (LOut.post G 14 (.one (.exit 0) [.ptr (.rw 0) (.lit 0),.int .i64 (.var 3 n),.int .i64 (.lit 0),.int .i64 (.lit 0),.int .i64 (.ofN (.var 6 (lowF s)))] (hp3 [some ⟨1,.var 1 (encT 1 s)⟩] (.var 2 (setsL encP s)) [])))):=by
 refine scanP (fun i=>∀ j,j<i→isP s ((j:Int)+1)=true) 12 (fun i=>[.ptr (.rw 0) 0,.int .i64 n,.int .i64 0,.int .i64 0,.int .i64 ((i:Int)+1)]) (fun _=>vHp G (hp3 [some ⟨1,.var 1 (encT 1 s)⟩] (.var 2 (setsL encP s)) [])) (fun j h=>by omega) fun i hi hP=>?_
 refine dloop_ok (C:=(⟨Try.prog,G,B⟩:Ctx)) (K:=Dc Try.prog [36,39] [] [] 0) (dgood (mix G B) (by kernel_rfl) .nil .nil) (fuel:=300) (n0:=40) (m:=14) (c:=loopN Try.f26 0)
  (vs:=[.ptr (.rw 0) (.lit 0),.int .i64 (.var 3 n),.int .i64 (.lit 0),.int .i64 (.lit 0),.int .i64 (.var 4 ((i:Int)+1))]) (H:=(hp3 [some ⟨1,.var 1 (encT 1 s)⟩] (.var 2 (setsL encP s)) [])) (Nat.le_of_ble_eq_true rfl) ?_
 rw [f_b]
 have out:lowF s=i+1→LOut.post G 14 (.one (.exit 0) [.ptr (.rw 0) (.lit 0),.int .i64 (.var 3 n),.int .i64 (.lit 0),.int .i64 (.lit 0),.int .i64 (.ofN (.var 6 (lowF s)))] (hp3 [some ⟨1,.var 1 (encT 1 s)⟩] (.var 2 (setsL encP s)) [])) (.exit 0) [.ptr (.rw 0) 0,.int .i64 n,.int .i64 0,.int .i64 0,.int .i64 ((i:Int)+1)] (vHp G (hp3 [some ⟨1,.var 1 (encT 1 s)⟩] (.var 2 (setsL encP s)) [])):=fun e=>by
  refine ⟨rfl,.inl ⟨?_,rfl⟩⟩
  rw [e]
  simp [wk,vVs,vV,vR,vN,vI]
 have low:i<12→isP s ((i:Int)+1)=false→lowF s=i+1:=fun h12 h0=>by
  unfold lowF
  have:=find_at (l:=List.range 12) (p:=fun (j:Nat)=>!isP s ((j:Int)+1)) (i:=i) (by simpa using h12) (by simp [h0]) (fun j hj hji=>by
   simp only [List.getElem_range]
   rw [hP j hji];rfl)
  rw [this]
  simp
 refine ⟨fun h=>⟨rfl,fun _=>⟨fun h1=>?_,fun h1=>absurd (of_decide_eq_false h1) (by omega)⟩,fun h0=>by cases h0⟩,fun h=>out ?_⟩
 ·have h12:i<12:=by have:=of_decide_eq_true h;omega
  have t:=T_num (b:=1) (s:=s) (n:=i+1) (by omega)
  rw [show Int.toNat ((i:Int)+1)=i+1 by omega]
  refine ⟨h,decide_eq_true (by omega),decide_eq_true (by omega),t.1,fun h2=>⟨h12,fun j hj=>?_,.inl ⟨?_,rfl⟩⟩,fun h2=>out (low h12 ?_)⟩
  ·by_cases e:j=i
   ·subst e
    rw [t.2] at h2
    exact isP_iff.2 ⟨by omega,by omega,by rw [show Int.toNat ((j:Int)+1)=j+1 by omega];exact eq_of_beq h2⟩
   ·exact hP j (by omega)
  ·rw [i64_in (by omega)];rfl
  ·rw [t.2] at h2
   cases e:isP s ((i:Int)+1) with
   | false=>rfl
   | true=>
    have:=(isP_iff.1 e).2.2
    rw [show Int.toNat ((i:Int)+1)=i+1 by omega] at this
    rw [this,beq_self_eq_true] at h2;cases h2
 ·have he:i=12:=by have:=of_decide_eq_false h;omega
  subst he
  unfold lowF
  rw [find_none fun j hj=>by
   simp only [List.length_range] at hj
   simp only [List.getElem_range]
   rw [hP j hj];rfl]
  rfl
def childOf (p:Sg):Sg:=setW p 0#32
def forkP (s:Ptb) (n:Int) (c:Nat):Pc:=⟨(c:Int),n,(s.at_ n.toNat).grp,(s.at_ n.toNat).usr,false,0⟩
def forkX (s:Ptb) (n:Int) (c:Nat):Ptb:=⟨fun j=>if j=c then forkP s n c else s.at_ j,fun j=>if j=c then some (childOf (sgD s n.toNat)) else s.sg j⟩
def forkR (s:Ptb) (n:Int):(Int×Int)×Ptb:=
 if live s n=true then
  if 12<lowF s then ((0,5),s) else (((lowF s:Int),0),forkX s n (lowF s))
 else ((0,6),s)
theorem lowF_spec {s:Ptb} (hw:Wf s):lowF s≤13∧(lowF s≤12→lowF s≠1∧1≤lowF s∧isP s (lowF s:Int)=false):=by
 unfold lowF
 cases h:(List.range 12).find? fun (j:Nat)=>!isP s ((j:Int)+1) with
 | none=>exact ⟨Nat.le_refl _,fun h=>absurd h (by simp)⟩
 | some j=>
  have h1:=List.mem_range.1 (List.mem_of_find?_eq_some h)
  have h2:=List.find?_some h
  simp only [Bool.not_eq_true'] at h2
  simp only [Option.getD_some]
  refine ⟨by omega,fun _=>⟨fun e=>?_,by omega,by rw [show ((j+1:Nat):Int)=(j:Int)+1 by omega];exact h2⟩⟩
  have:j=0:=by omega
  subst this
  have:isP s 1=true:=isP_iff.2 ⟨by omega,by omega,hw.one.1⟩
  rw [show (((0:Nat):Int)+1)=1 from rfl] at h2
  rw [this] at h2;cases h2
theorem Wf.forkX {s:Ptb} (h:Wf s) {n:Int} (hl:live s n=true) {c:Nat} (h1:c≠1) (h2:1≤c) (h3:c≤12):Wf (forkX s n c):=by
 have hl':=live_iff.1 hl
 refine ⟨fun j hj=>?_,fun j=>?_,?_⟩
 ·obtain ⟨b1,b2⟩:=h.z j hj
  show (if j=c then forkP s n c else s.at_ j)=zc∧(if j=c then some (childOf (sgD s n.toNat)) else s.sg j)=none
  rw [if_neg (by omega),if_neg (by omega)];exact ⟨b1,b2⟩
 ·show ((if j=c then forkP s n c else s.at_ j)=zc∧(if j=c then some (childOf (sgD s n.toNat)) else s.sg j)=none)∨((if j=c then forkP s n c else s.at_ j).num=(j:Int)∧1≤j∧j≤12∧(if j=c then some (childOf (sgD s n.toNat)) else s.sg j).isSome=true∧1≤(if j=c then forkP s n c else s.at_ j).grp∧(if j=c then forkP s n c else s.at_ j).grp≤12)
  by_cases e:j=c
  ·subst e
   rw [if_pos rfl,if_pos rfl]
   exact .inr ⟨rfl,h2,h3,rfl,h.grp (by omega)⟩
  ·rw [if_neg e,if_neg e];exact h.p j
 ·show (if 1=c then forkP s n c else s.at_ 1).num=1∧(if 1=c then forkP s n c else s.at_ 1).par=0
  rw [if_neg (fun e=>h1 e.symm)];exact h.one
theorem Wf.forkR {s:Ptb} (h:Wf s) (n:Int):Wf (forkR s n).2:=by
 unfold Go.Am.forkR
 split
 ·rename_i hl
  split
  ·exact h
  ·obtain ⟨_,a2⟩:=lowF_spec h
   obtain ⟨b1,b2,_⟩:=a2 (by omega)
   exact h.forkX hl b1 b2 (by omega)
 ·exact h
end Go.Am
namespace Go.Am
open Go.Proofs Crc
set_option maxRecDepth 100000
theorem dgF (G:Nat→List AV) (B:Nat) {s:Ptb} (n:Int):DGood (⟨Try.prog,G,B⟩:Ctx) (Df Try.prog [(48,1,13)] [36,38,39,20] [(58,fChildS sideP)] [DLat 0x91A (isSt [.ptr (.rw 0) 0,.int .i64 n,.int .i64 0,.int .i64 0,.int .i64 1] (vHp G (hp3 [some ⟨1,.var 1 (encT 1 s)⟩] (.var 2 (setsL encP s)) []))) 0 50 [0,1,4,5,7] (.one (.exit 0) [.ptr (.rw 0) (.lit 0),.int .i64 (.var 3 n),.int .i64 (.lit 0),.int .i64 (.lit 0),.int .i64 (.ofN (.var 6 (lowF s)))] (hp3 [some ⟨1,.var 1 (encT 1 s)⟩] (.var 2 (setsL encP s)) []))] 14) (loopsOf (bodyOf Try.f26)):=
 dgoodf (mix G B) (by kernel_rfl) (.cons (fChildS_ok (sideP_ok G) (p_child G B)) .nil) (.cast (.cons (i:=0) (by kernel_rfl) rfl (DLat_okC rfl (f_loop G B n)) .nil) (by kernel_rfl))
theorem seen_lay {s:Ptb} {c q:Nat} {x:Pc} {p:Sg} {s':Ptb} {E:Hp} (hq:14≤q) (hc:c<13) (h1:∀ j,s'.at_ j=if j=c then x else s.at_ j) (h2:∀ j,s'.sg j=if j=c then some p else s.sg j) (hE:E[q - 14]?=some (some ⟨1,encP p⟩)) :
  SeenQ tsP s' c q (some ⟨1,setPart (encT 1 s) (c*7+1) (.agg (rowT x (.ptr (.rw q) 0)))⟩::((List.range 13).map (fun n=>some ⟨1,rowA (setsL encP s) n⟩)++E)):=by
 refine ⟨by simp,?_,fun n hn=>?_⟩
 ·rw [List.getElem?_cons_zero,encT_V,V_row hc]
  congr 3
  show encV _ _=encV _ _
  unfold encV
  congr 1
  refine tabL_congr fun a j _ _=>?_
  show fcell (if a=c then x else s.at_ a) (if a=c then .ptr (.rw q) 0 else ptrO 1 a (s.sg a)) j=fcell (s'.at_ a) (match s'.sg a with | none=>.nilp | some _=>.ptr (.rw (if a=c then q else 1+a)) 0) j
  rw [h1 a,h2 a]
  by_cases e:a=c
  ·simp only [if_pos e]
  ·simp only [if_neg e]
   cases s.sg a<;>rfl
 ·by_cases e:n=c
  ·rw [if_pos e]
   refine ⟨encP p,?_,fun p' hp'=>?_⟩
   ·rw [show q=(q - 1)+1 by omega,List.getElem?_cons_succ,List.getElem?_append_right (by simp;omega),List.length_map,List.length_range,show q - 1 - 13=q - 14 by omega]
    exact hE
   ·rw [h2 n,if_pos e] at hp'
    simp only [Option.some.injEq] at hp'
    rw [hp'];rfl
  ·rw [if_neg e]
   refine ⟨rowA (setsL encP s) n,?_,fun p' hp'=>?_⟩
   ·rw [Nat.add_comm 1 n,List.getElem?_cons_succ,List.getElem?_append_left (by simpa using hn),List.getElem?_map,List.getElem?_range hn];rfl
   ·rw [h2 n,if_neg e] at hp'
    rw [rowA_sets hn,hp'];rfl
theorem row_facts {s:Ptb} {n:Nat} {p:Sg} (hn:n<13) (hp:s.sg n=some p):isNilA (rowT (s.at_ n) (ptrO 1 n (s.sg n))) 6=false∧isPA 1 13 (rowT (s.at_ n) (ptrO 1 n (s.sg n))) 6=true∧fkA 1 (rowT (s.at_ n) (ptrO 1 n (s.sg n))) 6=n∧foA (rowT (s.at_ n) (ptrO 1 n (s.sg n))) 6=0:=by
 have h:(rowT (s.at_ n) (ptrO 1 n (s.sg n)))[6]?=some (ptrO 1 n (s.sg n)):=rfl
 have e:=ptr_fam hn h (by rw [hp];rfl)
 exact ⟨by rw [ptr_nil h,hp];rfl,e.1,e.2.1,e.2.2⟩
def pairV (r:Int×Int):AV:=.tup [.int .i64 r.1,.int .i64 r.2]
theorem p_fork (G:Nat→List AV) (B:Nat) {s:Ptb} (hw:Wf s) (n:Int):ACalls (⟨Try.prog,G,B⟩:Ctx) 26 [.ptr (.rw 0) 0,.int .i64 n] (can tsP s) fun v H'=>v=pairV (forkR s n).1∧H'=mov tsP (forkR s n).2:=by
 have h:=dcall_ok (C:=(⟨Try.prog,G,B⟩:Ctx)) (K:=Df Try.prog [(48,1,13)] [36,38,39,20] [(58,fChildS sideP)] [DLat 0x91A (isSt [.ptr (.rw 0) 0,.int .i64 n,.int .i64 0,.int .i64 0,.int .i64 1] (vHp G (hp3 [some ⟨1,.var 1 (encT 1 s)⟩] (.var 2 (setsL encP s)) []))) 0 50 [0,1,4,5,7] (.one (.exit 0) [.ptr (.rw 0) (.lit 0),.int .i64 (.var 3 n),.int .i64 (.lit 0),.int .i64 (.lit 0),.int .i64 (.ofN (.var 6 (lowF s)))] (hp3 [some ⟨1,.var 1 (encT 1 s)⟩] (.var 2 (setsL encP s)) []))] 14) (fuel:=300) (n0:=40) (f:=26) (fn:=Try.f26) (args:=[.ptr (.rw 0) (.lit 0),.int .i64 (.var 3 n)]) (H:=(hp3 [some ⟨1,.var 1 (encT 1 s)⟩] (.var 2 (setsL encP s)) [])) (keep:=16)
  (R:=fun v H=>v=pairV (forkR s n).1∧(Seen tsP (forkR s n).2 13 H∨∃ c,SeenQ tsP (forkR s n).2 c 15 H∧15<H.length)) (dgF G B n) (by kernel_rfl) (by kernel_rfl) (by kernel_rfl) (by
  have:=f_c G (isSt [.ptr (.rw 0) 0,.int .i64 n,.int .i64 0,.int .i64 0,.int .i64 1] (vHp G (hp3 [some ⟨1,.var 1 (encT 1 s)⟩] (.var 2 (setsL encP s)) []))) (encT 1 s) (setsL encP s) n (lowF s) (fun _ _ _=>False) (fun v H=>v=pairV (forkR s n).1∧(Seen tsP (forkR s n).2 13 H∨∃ c,SeenQ tsP (forkR s n).2 c 15 H∧15<H.length))
  refine Eq.mpr this ?_
  refine ⟨rfl,fun _=>⟨rfl,rfl,live_tree 1 (fun hl=>⟨isSt_refl,fun h1=>?_,fun h1=>?_⟩) fun hl=>?_⟩,fun h=>by cases h⟩
  ·have h1:=of_decide_eq_true h1
   unfold forkR
   rw [if_pos hl,if_pos (by omega)];exact ⟨rfl,.inl seen_same⟩
  ·have h1:=of_decide_eq_false h1
   have h:=live_iff.1 hl
   have hi:isP s n=true:=isP_iff.2 ⟨h.1,h.2.1,h.2.2.1⟩
   obtain ⟨p,hp⟩:=hw.live_sg hi
   obtain ⟨_,a2⟩:=lowF_spec hw
   obtain ⟨b1,b2,_⟩:=a2 (by omega)
   have er:=T_row (b:=1) (s:=s) (n:=n.toNat) (by omega)
   rw [er]
   obtain ⟨e1,e2,e3,e4⟩:=row_facts (n:=n.toNat) (by omega) hp
   have e5:rowA (setsL encP s) n.toNat=encP p:=by rw [rowA_sets (by omega),hp];rfl
   have ed:sgD s n.toNat=p:=by unfold sgD;rw [hp];rfl
   unfold rowT at e1 e2 e3 e4
   rw [e3,e4,e5,childU_enc]
   refine ⟨decide_eq_true (by omega),decide_eq_true (by omega),leB_iff.2 (by rw [encT_len];omega),?_,rfl,rfl,rfl,(fun h=>by rw [e1] at h;cases h),fun _=>⟨e2,rfl,leB_iff.2 (by omega),rowsA_same _ 13,leB_iff.2 (by rw [setsL_len];omega),okU_enc p,decide_eq_true (by omega),decide_eq_true (by omega),leB_iff.2 (by rw [encT_len];omega),?_⟩⟩
   ·cases s.sg n.toNat<;>rfl
   ·unfold forkR
    rw [if_pos hl,if_neg (by omega)]
    refine ⟨rfl,.inr ⟨(lowF s),?_,by simp [rows13]⟩⟩
    exact seen_lay (s:=s) (c:=(lowF s)) (q:=15) (x:=forkP s n (lowF s)) (p:=childOf p) (s':=forkX s n (lowF s)) (E:=[some ⟨1,_⟩,some ⟨1,encP (childOf p)⟩]) (by omega) (by omega) (fun j=>rfl) (fun j=>by show (if j=(lowF s) then some (childOf (sgD s n.toNat)) else s.sg j)=_;rw [ed]) rfl
  ·unfold forkR
   rw [hl];exact ⟨rfl,.inl seen_same⟩)
 rw [hT] at h
 exact pm_move tsP_ok (q:=15) (by omega) h rfl
end Go.Am
namespace Go.Am
open Go.Proofs Crc
set_option maxRecDepth 100000
theorem e_l0 (G:Nat→List AV) (tb sl z ks:List AV) (c i:Nat) (Q:Ex→List AV→Hp→Prop) (R:AV→Hp→Prop):vT G Q R (dloop (Dc Try.prog [] [] [] 0) 300 40 14 (loopN Try.f27 0) 82 [0,6,44,45,46] [.ptr (.rw 0) (.lit 0),.int .i64 (.lit 0),.slice true (.rw 15) (.lit 0) (.var 6 c),.int .i64 (.ofN (.var 6 c)),.int .i64 (.ofN (.var 8 i))] (hp3 [some ⟨1,.var 1 tb⟩] (.var 2 sl) [some ⟨1,.var 23 z⟩,some ⟨1,.var 22 ks⟩]))=(
  (decide ((((i:Nat):Int):Int)<((c:Nat):Int))=true→
 decide ((0:Int)≤((i:Nat):Int))=true∧
 decide ((((i:Nat):Int):Int)<((c:Nat):Int))=true∧
 isI .i64 ks (i)=true∧
 decide ((0:Int)≤getI ks (i))=true∧
 decide ((getI ks (i):Int)<13)=true∧
 leB ((Int.toNat (getI ks (i)))*7+3) (List.length tb)=true∧
 Q .normal [.ptr (.rw 0) (0),.int .i64 (0),.slice true (.rw 15) (0) (c),.int .i64 (((c:Nat):Int)),.int .i64 (IntKind.wrap .i64 (((i:Nat):Int)+1))] ([some ⟨1,(setPart tb ((Int.toNat (getI ks (i)))*7+2) (.int .i64 (1)))⟩]++(rows13 sl++[some ⟨1,z⟩,some ⟨1,ks⟩])))∧
 (decide ((((i:Nat):Int):Int)<((c:Nat):Int))=false→
 Q (.exit 0) [.ptr (.rw 0) (0),.int .i64 (0),.slice true (.rw 15) (0) (c),.int .i64 (((c:Nat):Int)),.int .i64 (((i:Nat):Int))] ([some ⟨1,tb⟩]++(rows13 sl++[some ⟨1,z⟩,some ⟨1,ks⟩])))):=by kernel_rfl
theorem e_l2 (G:Nat→List AV) (tb sl z ks kt:List AV) (c i:Nat) (Q:Ex→List AV→Hp→Prop) (R:AV→Hp→Prop):vT G Q R (dloop (Dc Try.prog [] [] [] 0) 300 40 14 (loopN Try.f27 1) 82 [0,6,61,62,63] [.ptr (.rw 0) (.lit 0),.int .i64 (.lit 0),.slice true (.rw 16) (.lit 0) (.var 6 c),.int .i64 (.ofN (.var 6 c)),.int .i64 (.ofN (.var 8 i))] (hp3 [some ⟨1,.var 1 tb⟩] (.var 2 sl) [some ⟨1,.var 23 z⟩,some ⟨1,.var 22 ks⟩,some ⟨1,.var 25 kt⟩]))=(
  (decide ((((i:Nat):Int):Int)<((c:Nat):Int))=true→
 decide ((0:Int)≤((i:Nat):Int))=true∧
 decide ((((i:Nat):Int):Int)<((c:Nat):Int))=true∧
 isI .i64 kt (i)=true∧
 decide ((0:Int)≤getI kt (i))=true∧
 decide ((getI kt (i):Int)<13)=true∧
 isB tb ((Int.toNat (getI kt (i)))*7+5)=true∧
 (getB tb ((Int.toNat (getI kt (i)))*7+5)=true→
 decide ((0:Int)≤getI kt (i))=true∧
 decide ((getI kt (i):Int)<13)=true∧
 leB ((Int.toNat (getI kt (i)))*7+8) (List.length tb)=true∧
 Q .normal [.ptr (.rw 0) (0),.int .i64 (0),.slice true (.rw 16) (0) (c),.int .i64 (((c:Nat):Int)),.int .i64 (IntKind.wrap .i64 (((i:Nat):Int)+1))] ([some ⟨1,(setPart tb ((Int.toNat (getI kt (i)))*7+1) (.agg ([.int .i64 (0),.int .i64 (0),.int .i64 (0),.int .i64 (0),.bool (false),.int .i64 (0),.nilp]:List AV)))⟩]++(rows13 sl++[some ⟨1,z⟩,some ⟨1,ks⟩,some ⟨1,kt⟩])))∧
 (getB tb ((Int.toNat (getI kt (i)))*7+5)=false→
 Q .normal [.ptr (.rw 0) (0),.int .i64 (0),.slice true (.rw 16) (0) (c),.int .i64 (((c:Nat):Int)),.int .i64 (IntKind.wrap .i64 (((i:Nat):Int)+1))] ([some ⟨1,tb⟩]++(rows13 sl++[some ⟨1,z⟩,some ⟨1,ks⟩,some ⟨1,kt⟩]))))∧
 (decide ((((i:Nat):Int):Int)<((c:Nat):Int))=false→
 Q (.exit 2) [.ptr (.rw 0) (0),.int .i64 (0),.slice true (.rw 16) (0) (c),.int .i64 (((c:Nat):Int)),.int .i64 (((i:Nat):Int))] ([some ⟨1,tb⟩]++(rows13 sl++[some ⟨1,z⟩,some ⟨1,ks⟩,some ⟨1,kt⟩])))):=by kernel_rfl
theorem e_c (G:Nat→List AV) (k15 k14 rl rm:List AV→Bool) (tb sl z ks kt t2 t3:List AV) (n a:Int) (Q:Ex→List AV→Hp→Prop) (R:AV→Hp→Prop):vT G Q R (dcall (Df Try.prog [(48,1,13)] [36,38,39,20] [(31,kidsQ k15 k14),(58,fChildS sideP)] [DLat 2340 (rl) 0 82 [0,6,44,45,46] (.one (.exit 0) [.ptr (.rw 0) (.lit 0),.int .i64 (.lit 0),.undef,.undef,.undef] (hp3 [some ⟨1,.var 21 t2⟩] (.var 2 sl) [some ⟨1,.var 23 z⟩,some ⟨1,.var 22 ks⟩])),DLat 2341 (rm) 2 82 [0,6,61,62,63] (.one (.exit 2) [.ptr (.rw 0) (.lit 0),.int .i64 (.lit 0),.undef,.undef,.undef] (hp3 [some ⟨1,.var 26 t3⟩] (.var 2 sl) [some ⟨1,.var 23 z⟩,some ⟨1,.var 22 ks⟩,some ⟨1,.var 25 kt⟩]))] 14) 300 40 Try.f27 [.ptr (.rw 0) (.lit 0),.int .i64 (.var 3 n),.int .i64 (.var 4 a)] (hp3 [some ⟨1,.var 1 tb⟩] (.var 2 sl) []) 15)=(
  isB tb (0)=true∧
 (getB tb (0)=true→
 isB tb (0)=true∧
 getB tb (0)=true∧
 (decide ((n:Int)≥1)=true→
 (decide ((n:Int)≤12)=true→
 decide ((0:Int)≤n)=true∧
 decide ((n:Int)<13)=true∧
 isI .i64 tb ((Int.toNat (n))*7+1)=true∧
 (((getI tb ((Int.toNat (n))*7+1):Int)==n)=true→
 decide ((0:Int)≤n)=true∧
 decide ((n:Int)<13)=true∧
 isB tb ((Int.toNat (n))*7+5)=true∧
 (getB tb ((Int.toNat (n))*7+5)=true→
 R (.int .i64 (6)) ([some ⟨1,tb⟩]++rows13 sl))∧
 (getB tb ((Int.toNat (n))*7+5)=false→
 decide ((0:Int)≤n)=true∧
 decide ((n:Int)<13)=true∧
 (isNilA tb ((Int.toNat (n))*7+7)=true→
 False)∧
 (isNilA tb ((Int.toNat (n))*7+7)=false→
 isPA 1 13 tb ((Int.toNat (n))*7+7)=true∧
 Nat.beq (foA tb ((Int.toNat (n))*7+7)) (0)=true∧
 leB (fkA 1 tb ((Int.toNat (n))*7+7)+1) (13)=true∧
 rowsA sl (rp 13 sl)=true∧
 leB (fkA 1 tb ((Int.toNat (n))*7+7)+1) (List.length sl)=true∧
 okU [.agg (rowA sl (fkA 1 tb ((Int.toNat (n))*7+7)))]=true∧
 leB ((Int.toNat (n))*7+6) (List.length tb)=true∧
 leB ((Int.toNat (n))*7+7) (List.length (setPart tb ((Int.toNat (n))*7+5) (.bool (true))))=true∧
 leB ((Int.toNat (n))*7+8) (List.length (setPart (setPart tb ((Int.toNat (n))*7+5) (.bool (true))) ((Int.toNat (n))*7+6) (.int .i64 (kAnd .i64 (a) (255)))))=true∧
 rowsA sl (rp 13 sl)=true∧
 k15 [.agg (setPart (setPart (setPart tb ((Int.toNat (n))*7+5) (.bool (true))) ((Int.toNat (n))*7+6) (.int .i64 (kAnd .i64 (a) (255)))) ((Int.toNat (n))*7+7) (.ptr (.rw 14) (0))),.agg sl,.agg (childU [.agg (rowA sl (fkA 1 tb ((Int.toNat (n))*7+7)))])]=true∧
 (rl) [.agg ([.ptr (.rw 0) (0),.int .i64 (0),.slice true (.rw 15) (0) (kidNU [.agg (setPart (setPart (setPart tb ((Int.toNat (n))*7+5) (.bool (true))) ((Int.toNat (n))*7+6) (.int .i64 (kAnd .i64 (a) (255)))) ((Int.toNat (n))*7+7) (.ptr (.rw 14) (0))),.int .i64 (n)]),.int .i64 (((kidNU [.agg (setPart (setPart (setPart tb ((Int.toNat (n))*7+5) (.bool (true))) ((Int.toNat (n))*7+6) (.int .i64 (kAnd .i64 (a) (255)))) ((Int.toNat (n))*7+7) (.ptr (.rw 14) (0))),.int .i64 (n)]:Nat):Int)),.int .i64 (0)]:List AV),.agg ((tp3 [.tup [.int .i64 (1),.agg (setPart (setPart (setPart tb ((Int.toNat (n))*7+5) (.bool (true))) ((Int.toNat (n))*7+6) (.int .i64 (kAnd .i64 (a) (255)))) ((Int.toNat (n))*7+7) (.ptr (.rw 14) (0)))]] sl [.tup [.int .i64 (1),.agg (childU [.agg (rowA sl (fkA 1 tb ((Int.toNat (n))*7+7)))])],.tup [.int .i64 (1),.agg (kidLU [.agg (setPart (setPart (setPart tb ((Int.toNat (n))*7+5) (.bool (true))) ((Int.toNat (n))*7+6) (.int .i64 (kAnd .i64 (a) (255)))) ((Int.toNat (n))*7+7) (.ptr (.rw 14) (0))),.int .i64 (n)])]]):List AV)]=true∧
 isB t2 (0)=true∧
 (getB t2 (0)=true→
 isI .i64 t2 (8)=true∧
 (((getI t2 (8):Int)==1)=true→
 isB t2 (12)=true∧
 (getB t2 (12)=true→
 rowsA sl (rp 13 sl)=true∧
 k15 [.agg t2,.agg sl,.agg z]=true∧
 (rm) [.agg ([.ptr (.rw 0) (0),.int .i64 (0),.slice true (.rw 16) (0) (kidNU [.agg t2,.int .i64 (1)]),.int .i64 (((kidNU [.agg t2,.int .i64 (1)]:Nat):Int)),.int .i64 (0)]:List AV),.agg ((tp3 [.tup [.int .i64 (1),.agg t2]] sl [.tup [.int .i64 (1),.agg z],.tup [.int .i64 (1),.agg ks],.tup [.int .i64 (1),.agg (kidLU [.agg t2,.int .i64 (1)])]]):List AV)]=true∧
 R (.int .i64 (0)) ([some ⟨1,t3⟩]++(rows13 sl++[some ⟨1,z⟩])))∧
 (getB t2 (12)=false→
 R (.int .i64 (0)) ([some ⟨1,t2⟩]++(rows13 sl++[some ⟨1,z⟩]))))∧
 (((getI t2 (8):Int)==1)=false→
 rowsA sl (rp 13 sl)=true∧
 k15 [.agg t2,.agg sl,.agg z]=true∧
 (rm) [.agg ([.ptr (.rw 0) (0),.int .i64 (0),.slice true (.rw 16) (0) (kidNU [.agg t2,.int .i64 (1)]),.int .i64 (((kidNU [.agg t2,.int .i64 (1)]:Nat):Int)),.int .i64 (0)]:List AV),.agg ((tp3 [.tup [.int .i64 (1),.agg t2]] sl [.tup [.int .i64 (1),.agg z],.tup [.int .i64 (1),.agg ks],.tup [.int .i64 (1),.agg (kidLU [.agg t2,.int .i64 (1)])]]):List AV)]=true∧
 R (.int .i64 (0)) ([some ⟨1,t3⟩]++(rows13 sl++[some ⟨1,z⟩]))))∧
 (getB t2 (0)=false→
 rowsA sl (rp 13 sl)=true∧
 k15 [.agg t2,.agg sl,.agg z]=true∧
 (rm) [.agg ([.ptr (.rw 0) (0),.int .i64 (0),.slice true (.rw 16) (0) (kidNU [.agg t2,.int .i64 (1)]),.int .i64 (((kidNU [.agg t2,.int .i64 (1)]:Nat):Int)),.int .i64 (0)]:List AV),.agg ((tp3 [.tup [.int .i64 (1),.agg t2]] sl [.tup [.int .i64 (1),.agg z],.tup [.int .i64 (1),.agg ks],.tup [.int .i64 (1),.agg (kidLU [.agg t2,.int .i64 (1)])]]):List AV)]=true∧
 R (.int .i64 (0)) ([some ⟨1,t3⟩]++(rows13 sl++[some ⟨1,z⟩]))))))∧
 (((getI tb ((Int.toNat (n))*7+1):Int)==n)=false→
 R (.int .i64 (6)) ([some ⟨1,tb⟩]++rows13 sl)))∧
 (decide ((n:Int)≤12)=false→
 R (.int .i64 (6)) ([some ⟨1,tb⟩]++rows13 sl)))∧
 (decide ((n:Int)≥1)=false→
 R (.int .i64 (6)) ([some ⟨1,tb⟩]++rows13 sl)))∧
 (getB tb (0)=false→
 R (.int .i64 (1)) ([some ⟨1,tb⟩]++rows13 sl))):=by kernel_rfl
end Go.Am
namespace Go.Am
open Go.Proofs Crc
set_option maxRecDepth 100000
theorem V_get {p:Nat→AV} {s:Ptb} {n k:Nat} (hn:n<13) (hk:k<7):(encV p s)[n*7+(k+1)]?=some (fcell (s.at_ n) (p n) k):=by
 unfold encV
 rw [show n*7+(k+1)=(n*7+k)+1 by omega,List.getElem?_cons_succ,tabL_get hn hk]
theorem V_num {p:Nat→AV} {s:Ptb} {n:Nat} (hn:n<13):isI .i64 (encV p s) (n*7+1)=true∧getI (encV p s) (n*7+1)=(s.at_ n).num:=by simp [isI,getI,V_get (p:=p) (s:=s) (k:=0) hn (by omega),fcell]
theorem V_en {p:Nat→AV} {s:Ptb} {n:Nat} (hn:n<13):isB (encV p s) (n*7+5)=true∧getB (encV p s) (n*7+5)=(s.at_ n).en:=by simp [isB,getB,V_get (p:=p) (s:=s) (k:=4) hn (by omega),fcell]
def parU (s:Ptb) (c:Nat):Ptb:=updC s c { s.at_ c with par:=1 }
def parL (s:Ptb):List Nat→Ptb:=fun l=>l.foldl parU s
def endU (s:Ptb) (c:Nat):Ptb:=if (s.at_ c).en=true then freeX s c else s
def endL (s:Ptb):List Nat→Ptb:=fun l=>l.foldl endU s
theorem take_snoc {l:List Nat} {i:Nat} (hi:i<l.length):l.take (i+1)=l.take i++[l[i]]:=by
 rw [List.take_add_one,List.getElem?_eq_getElem hi];rfl
theorem parL_step {s:Ptb} {l:List Nat} {i:Nat} (hi:i<l.length):parL s (l.take (i+1))=parU (parL s (l.take i)) l[i]:=by
 unfold parL;rw [take_snoc hi,List.foldl_append];rfl
theorem endL_step {s:Ptb} {l:List Nat} {i:Nat} (hi:i<l.length):endL s (l.take (i+1))=endU (endL s (l.take i)) l[i]:=by
 unfold endL;rw [take_snoc hi,List.foldl_append];rfl
theorem V_par {s:Ptb} {q c:Nat}:setPart (encV (ptC s q) s) (c*7+2) (.int .i64 1)=encV (ptC (parU s c) q) (parU s c):=
 V_set (p:=ptC s q) (n:=c) (k:=1) (s:=s) (x:={ s.at_ c with par:=1 }) (by omega) (by intro l h;cases h) fun j hj=>by
  match j,hj with
  | 0,_ | 1,_ | 2,_ | 3,_ | 4,_ | 5,_=>rfl
theorem V_free {s:Ptb} {q c:Nat} (hc:c<13):setPart (encV (ptC s q) s) (c*7+1) (.agg (rowT zc .nilp))=encV (ptC (freeX s c) q) (freeX s c):=by
 rw [V_row hc]
 show encV _ _=encV _ _
 unfold encV
 congr 1
 refine tabL_congr fun a j _ _=>?_
 show fcell (if a=c then zc else s.at_ a) (if a=c then .nilp else ptC s q a) j=fcell (if a=c then zc else s.at_ a) (ptC (freeX s c) q a) j
 congr 1
 unfold ptC
 show _=match (if a=c then none else s.sg a) with | none=>AV.nilp | some _=>_
 by_cases e:a=c
 ·simp only [if_pos e]
 ·simp only [if_neg e]
  cases s.sg a<;>rfl
theorem e0_loop (G:Nat→List AV) (B:Nat) (s:Ptb) (q:Nat) (sl z:List AV) (ks:List Nat) (hk:∀ x∈ks,x<13) (hl:ks.length≤13):AWp (⟨Try.prog,G,B⟩:Ctx) 14 (.loop (loopN Try.f27 0)) (fl 82 [0,6,44,45,46] [.ptr (.rw 0) 0,.int .i64 0,.slice true (.rw 15) 0 ks.length,.int .i64 (ks.length:Int),.int .i64 0]) (vHp G (hp3 [some ⟨1,.var 1 (encV (ptC s q) s)⟩] (.var 2 sl) [some ⟨1,.var 23 z⟩,some ⟨1,.var 22 (nl ks)⟩])) (lv 82 [0,6,44,45,46] (LOut.post G 14 (.one (.exit 0) [.ptr (.rw 0) (.lit 0),.int .i64 (.lit 0),.undef,.undef,.undef] (hp3 [some ⟨1,.var 21 (encV (ptC (parL s ks) q) (parL s ks))⟩] (.var 2 sl) [some ⟨1,.var 23 z⟩,some ⟨1,.var 22 (nl ks)⟩])))):=by
 refine scan ks.length (fun i=>[.ptr (.rw 0) 0,.int .i64 0,.slice true (.rw 15) 0 ks.length,.int .i64 (ks.length:Int),.int .i64 (i:Int)]) (fun i=>vHp G (hp3 [some ⟨1,.var 1 (encV (ptC (parL s (ks.take i)) q) (parL s (ks.take i)))⟩] (.var 2 sl) [some ⟨1,.var 23 z⟩,some ⟨1,.var 22 (nl ks)⟩])) fun i hi=>?_
 refine dloop_ok (C:=(⟨Try.prog,G,B⟩:Ctx)) (K:=Dc Try.prog [] [] [] 0) (dgood (mix G B) (by kernel_rfl) .nil .nil) (fuel:=300) (n0:=40) (m:=14) (c:=loopN Try.f27 0)
  (vs:=[.ptr (.rw 0) (.lit 0),.int .i64 (.lit 0),.slice true (.rw 15) (.lit 0) (.var 6 ks.length),.int .i64 (.ofN (.var 6 ks.length)),.int .i64 (.ofN (.var 8 i))]) (H:=(hp3 [some ⟨1,.var 1 (encV (ptC (parL s (ks.take i)) q) (parL s (ks.take i)))⟩] (.var 2 sl) [some ⟨1,.var 23 z⟩,some ⟨1,.var 22 (nl ks)⟩])) (Nat.le_of_ble_eq_true rfl) ?_
 rw [e_l0]
 refine ⟨fun h=>?_,fun h=>?_⟩
 ·have hlt:i<ks.length:=by have:=of_decide_eq_true h;omega
  obtain ⟨k1,k2⟩:=nl_getI (l:=ks) hlt
  have hc:=hk _ (List.getElem_mem hlt)
  rw [k2,Int.toNat_natCast,V_par,i64_in (by omega)]
  refine ⟨decide_eq_true (by omega),h,k1,decide_eq_true (by omega),decide_eq_true (by omega),leB_iff.2 (by rw [encV_len];omega),hlt,.inl ⟨rfl,?_⟩⟩
  rw [parL_step hlt];rfl
 ·have he:i=ks.length:=by have:=of_decide_eq_false h;omega
  subst he
  refine ⟨rfl,.inl ⟨by simp [wk,vVs,vV,vR,vN,vI],?_⟩⟩
  rw [List.take_length];rfl
theorem e2_loop (G:Nat→List AV) (B:Nat) (s:Ptb) (q:Nat) (sl z ys:List AV) (ks:List Nat) (hk:∀ x∈ks,x<13) (hl:ks.length≤13):AWp (⟨Try.prog,G,B⟩:Ctx) 14 (.loop (loopN Try.f27 1)) (fl 82 [0,6,61,62,63] [.ptr (.rw 0) 0,.int .i64 0,.slice true (.rw 16) 0 ks.length,.int .i64 (ks.length:Int),.int .i64 0]) (vHp G (hp3 [some ⟨1,.var 1 (encV (ptC s q) s)⟩] (.var 2 sl) [some ⟨1,.var 23 z⟩,some ⟨1,.var 22 ys⟩,some ⟨1,.var 25 (nl ks)⟩])) (lv 82 [0,6,61,62,63] (LOut.post G 14 (.one (.exit 2) [.ptr (.rw 0) (.lit 0),.int .i64 (.lit 0),.undef,.undef,.undef] (hp3 [some ⟨1,.var 26 (encV (ptC (endL s ks) q) (endL s ks))⟩] (.var 2 sl) [some ⟨1,.var 23 z⟩,some ⟨1,.var 22 ys⟩,some ⟨1,.var 25 (nl ks)⟩])))):=by
 refine scan ks.length (fun i=>[.ptr (.rw 0) 0,.int .i64 0,.slice true (.rw 16) 0 ks.length,.int .i64 (ks.length:Int),.int .i64 (i:Int)]) (fun i=>vHp G (hp3 [some ⟨1,.var 1 (encV (ptC (endL s (ks.take i)) q) (endL s (ks.take i)))⟩] (.var 2 sl) [some ⟨1,.var 23 z⟩,some ⟨1,.var 22 ys⟩,some ⟨1,.var 25 (nl ks)⟩])) fun i hi=>?_
 refine dloop_ok (C:=(⟨Try.prog,G,B⟩:Ctx)) (K:=Dc Try.prog [] [] [] 0) (dgood (mix G B) (by kernel_rfl) .nil .nil) (fuel:=300) (n0:=40) (m:=14) (c:=loopN Try.f27 1)
  (vs:=[.ptr (.rw 0) (.lit 0),.int .i64 (.lit 0),.slice true (.rw 16) (.lit 0) (.var 6 ks.length),.int .i64 (.ofN (.var 6 ks.length)),.int .i64 (.ofN (.var 8 i))]) (H:=(hp3 [some ⟨1,.var 1 (encV (ptC (endL s (ks.take i)) q) (endL s (ks.take i)))⟩] (.var 2 sl) [some ⟨1,.var 23 z⟩,some ⟨1,.var 22 ys⟩,some ⟨1,.var 25 (nl ks)⟩])) (Nat.le_of_ble_eq_true rfl) ?_
 rw [e_l2]
 refine ⟨fun h=>?_,fun h=>?_⟩
 ·have hlt:i<ks.length:=by have:=of_decide_eq_true h;omega
  obtain ⟨k1,k2⟩:=nl_getI (l:=ks) hlt
  have hc:=hk _ (List.getElem_mem hlt)
  have e5:=V_en (p:=ptC (endL s (ks.take i)) q) (s:=endL s (ks.take i)) hc
  have ef:=V_free (s:=endL s (ks.take i)) (q:=q) hc
  unfold rowT zc at ef
  rw [k2,Int.toNat_natCast,e5.2,ef,i64_in (by omega)]
  refine ⟨decide_eq_true (by omega),h,k1,decide_eq_true (by omega),decide_eq_true (by omega),e5.1,fun he=>⟨decide_eq_true (by omega),decide_eq_true (by omega),leB_iff.2 (by rw [encV_len];omega),hlt,.inl ⟨rfl,?_⟩⟩,fun he=>⟨hlt,.inl ⟨rfl,?_⟩⟩⟩
  ·rw [endL_step hlt,show endU (endL s (ks.take i)) ks[i]=freeX (endL s (ks.take i)) ks[i] from if_pos he];rfl
  ·rw [endL_step hlt,show endU (endL s (ks.take i)) ks[i]=endL s (ks.take i) from if_neg (by rw [he];simp)];rfl
 ·have he:i=ks.length:=by have:=of_decide_eq_false h;omega
  subst he
  refine ⟨rfl,.inl ⟨by simp [wk,vVs,vV,vR,vN,vI],?_⟩⟩
  rw [List.take_length];rfl
def endS (s:Ptb) (n:Nat) (a:Int):Ptb:=⟨fun j=>if j=n then { s.at_ n with en:=true,st:=a % 256 } else s.at_ j,fun j=>if j=n then some (childOf (sgD s n)) else s.sg j⟩
def endP (s:Ptb) (n:Int) (a:Int):Ptb:=parL (endS s n.toNat a) (kidT s n 13)
def endR (s:Ptb) (n:Int) (a:Int):Int×Ptb:=
 if live s n=true then (0,if live (endP s n a) 1=true then endP s n a else endL (endP s n a) (kidT (endP s n a) 1 13)) else (6,s)
theorem Wf.endS {s:Ptb} (h:Wf s) {n:Nat} (hn:(s.at_ n).num≠0) (a:Int):Wf (endS s n a):=by
 have h1:=h.upd (c:=n) (x:={ s.at_ n with en:=true,st:=a % 256 }) hn rfl (h.grp hn) fun e=>by
  show (s.at_ n).par=0
  rw [e];exact h.one.2
 have h2:=h1.updS (c:=n) (p:=childOf (sgD s n)) (by
  show (if n=n then _ else s.at_ n).num≠0
  rw [if_pos rfl];exact hn)
 exact h2
theorem kidT_end {s:Ptb} {n:Nat} {a m:Int}:kidT (endS s n a) m 13=kidT s m 13:=by
 unfold kidT
 refine List.filter_congr fun c _=>?_
 unfold kidB
 show (decide (0<(if c=n then _ else s.at_ c).num)&&kidC m (if c=n then _ else s.at_ c).par)=_
 by_cases e:c=n
 ·subst e;rw [if_pos rfl]
 ·rw [if_neg e]
theorem Wf.parL {s:Ptb} (h:Wf s):∀ {l:List Nat},(∀ c∈l,(s.at_ c).num≠0∧c≠1)→Wf (parL s l):=by
 intro l
 induction l generalizing s with
 | nil=>intro _;exact h
 | cons c l ih=>
  intro hl
  obtain ⟨h1,h2⟩:=hl c (by simp)
  refine ih (s:=parU s c) (h.upd h1 rfl (h.grp h1) fun e=>absurd e h2) fun x hx=>?_
  obtain ⟨g1,g2⟩:=hl x (by simp [hx])
  refine ⟨?_,g2⟩
  show (if x=c then _ else s.at_ x).num≠0
  by_cases e:x=c
  ·subst e;rw [if_pos rfl];exact g1
  ·rw [if_neg e];exact g1
theorem Wf.endL {s:Ptb} (h:Wf s):∀ {l:List Nat},(∀ c∈l,c≠1)→Wf (endL s l):=by
 intro l
 induction l generalizing s with
 | nil=>intro _;exact h
 | cons c l ih=>
  intro hl
  refine ih (s:=endU s c) ?_ fun x hx=>hl x (by simp [hx])
  unfold endU
  split
  ·exact h.free (hl c (by simp))
  ·exact h
theorem Wf.endP {s:Ptb} (h:Wf s) {n:Int} (hl:live s n=true) (a:Int):Wf (endP s n a):=by
 have hl':=live_iff.1 hl
 refine (h.endS (n:=n.toNat) (by omega) a).parL fun c hc=>?_
 have h1:=kidT_ne1 h hc
 obtain ⟨_,g2,_,_⟩:=kidT_mem hc
 refine ⟨?_,h1⟩
 show (if c=n.toNat then _ else s.at_ c).num≠0
 by_cases e:c=n.toNat
 ·rw [if_pos e,←e];show (s.at_ c).num≠0;omega
 ·rw [if_neg e];omega
theorem Wf.endR {s:Ptb} (h:Wf s) (n a:Int):Wf (endR s n a).2:=by
 unfold Go.Am.endR
 split
 ·rename_i hl
  have h2:=h.endP hl a
  show Wf (if live (Go.Am.endP s n a) 1=true then Go.Am.endP s n a else Go.Am.endL (Go.Am.endP s n a) (kidT (Go.Am.endP s n a) 1 13))
  split
  ·exact h2
  ·exact h2.endL fun c hc=>kidT_ne1 h2 hc
 ·exact h
theorem parL_sg {s:Ptb}:∀ l:List Nat,(parL s l).sg=s.sg:=by
 intro l
 induction l generalizing s with
 | nil=>rfl
 | cons c l ih=>exact ih (s:=parU s c)
theorem endL_sg {s:Ptb}:∀ (l:List Nat) (j:Nat) (p:Sg),(endL s l).sg j=some p→s.sg j=some p:=by
 intro l
 induction l generalizing s with
 | nil=>intro j p h;exact h
 | cons c l ih=>
  intro j p h
  have:=ih (s:=endU s c) j p h
  unfold endU at this
  split at this
  ·have h2:(if j=c then none else s.sg j)=some p:=this
   split at h2
   ·cases h2
   ·exact h2
  ·exact this
end Go.Am
