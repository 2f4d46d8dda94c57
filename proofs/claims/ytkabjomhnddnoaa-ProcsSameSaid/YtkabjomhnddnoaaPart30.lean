/-
  Processes: a table compared with itself. ProcsSame: trees.
-/
import Derived.Test.YtkabjomhnddnoaaPart23
import Derived.Test.YtkabjomhnddnoaaPart28
import Derived.Test.YtkabjomhnddnoaaPart29
namespace Go.Am
open Go.Proofs Crc
set_option maxRecDepth 100000
theorem sm_cx (G:Nat→List AV) (rl:List AV→Bool) (ta sl:List AV) (Q:Ex→List AV→Hp→Prop) (R:AV→Hp→Prop):vT G Q R (dcall (Dc Try.prog [36] [] [DLat 2379 (rl) 0 52 [1,4,23,24] (.one (.exit 0) [.undef,.undef,.undef,.undef] (hp3 [some ⟨1,.var 1 ta⟩] (.var 2 sl) []))] 14) 300 20 Try.f15 [.ptr (.rw 0) (.lit 0),.ptr (.rw 0) (.lit 0)] (hp3 [some ⟨1,.var 1 ta⟩] (.var 2 sl) []) 14)=(
  isB ta (0)=true∧
 (getB ta (0)=true→
 isB ta (0)=true∧
 getB ta (0)=true∧
 leB (92) (List.length ta)=true∧
 (rl) [.agg ([.ptr (.rw 0) (0),.bool (false),.agg (subL ta (1) (91)),.int .i64 (0)]:List AV),.agg ((tp3 [.tup [.int .i64 (1),.agg ta]] sl []):List AV)]=true∧
 R (.bool (true)) ([some ⟨1,ta⟩]++rows13 sl))∧
 (getB ta (0)=false→
 isB ta (0)=true∧
 isB ta (0)=true∧
 R (.bool (((getB ta (0):Bool)==getB ta (0)))) ([some ⟨1,ta⟩]++rows13 sl))):=by kernel_rfl
theorem sx_F {s:Ptb} {i:Nat} (hi:i<13):SmF 13 i (subL (encT 1 s) 1 91) (encT 1 s) (setsL encP s) (rp 13 (setsL encP s)) (s.at_ i) (s.at_ i) (s.sg i) (s.sg i):=by
 rw [ar_eq]
 refine ⟨by rw [arT_len];omega,by rw [encT_len];omega,⟨ptC s 13 i,arT_row hi,?_⟩,?_,?_,rowsA_same _ 13⟩
 ·unfold ptC
  cases e:s.sg i with
  | none=>exact .inl ⟨rfl,rfl⟩
  | some p=>
   refine .inr ⟨p,i,rfl,?_,by omega,by rw [setsL_len];omega,by rw [rowA_sets hi,e];rfl⟩
   simp only;rw [if_neg (by omega)]
 ·rw [sub76,T_row hi];rfl
 ·have h:=T_ptr (b:=1) (s:=s) hi
  cases e:s.sg i with
  | none=>exact .inl ⟨rfl,by rw [ptr_nil h,e];rfl⟩
  | some q=>
   rw [e] at h
   refine .inr ⟨q,i,rfl,by rw [ptr_nil h];rfl,?_,?_,?_,by omega,by rw [setsL_len];omega,by rw [rowA_sets hi,e];rfl⟩
   ·unfold isPA;rw [h]
    simp only [ptrO,Bool.and_eq_true]
    exact ⟨Nat.ble_eq_true_of_le (by omega),Nat.ble_eq_true_of_le (by omega)⟩
   ·unfold fkA;rw [h]
    show 1+i - 1=i;omega
   ·unfold foA;rw [h];rfl
theorem sx_loop (G:Nat→List AV) (B:Nat) (s:Ptb):AWp (⟨Try.prog,G,B⟩:Ctx) 14 (.loop (loopN Try.f15 0)) (fl 52 [1,4,23,24] [.ptr (.rw 0) 0,.bool false,.agg (subL (encT 1 s) 1 91),.int .i64 0]) (vHp G (hp3 [some ⟨1,.var 1 (encT 1 s)⟩] (.var 2 (setsL encP s)) [])) (lv 52 [1,4,23,24] (LOut.post G 14 (.one (.exit 0) [.undef,.undef,.undef,.undef] (hp3 [some ⟨1,.var 1 (encT 1 s)⟩] (.var 2 (setsL encP s)) [])))):=by
 refine scan 13 (fun i=>[.ptr (.rw 0) 0,.bool false,.agg (subL (encT 1 s) 1 91),.int .i64 (i:Int)]) (fun _=>vHp G (hp3 [some ⟨1,.var 1 (encT 1 s)⟩] (.var 2 (setsL encP s)) [])) fun i hi=>?_
 refine dloop_ok (C:=(⟨Try.prog,G,B⟩:Ctx)) (K:=Df Try.prog [(48,1,13)] [36] [(24,sameF sideP)] [] 0) (fuel:=400) (n0:=20) (m:=14) (c:=loopN Try.f15 0)
  (vs:=[.ptr (.rw 0) (.lit 0),.bool (.lit false),.agg (.var 25 (subL (encT 1 s) 1 91)),.int .i64 (.ofN (.var 8 i))]) (H:=(hp3 [some ⟨1,.var 1 (encT 1 s)⟩] (.var 2 (setsL encP s)) [])) (by rw [show loopsOf (loopN Try.f15 0)=[] by kernel_rfl];exact dgoodf (mix G B) (by kernel_rfl) (.cons (sameFP_ok G B) .nil) .nil) (Nat.le_of_ble_eq_true rfl) ?_
 rw [sm_bx]
 have hH:vHp G (hp3 [some ⟨1,.var 1 (encT 1 s)⟩] (.var 2 (setsL encP s)) [])=can tsP s:=hp_can (t:=tsP) (s:=s)
 have same:(pcB (s.at_ i) (s.at_ i)&&sgoB (s.sg i) (s.sg i))=true:=by
  rw [Bool.and_eq_true]
  refine ⟨by simp [pcB],?_⟩
  cases s.sg i with
  | none=>rfl
  | some p=>exact sameB_refl' p
 refine sm_tree (K:=13) (x:=s.at_ i) (y:=s.at_ i) (u:=s.sg i) (v:=s.sg i) (fun hi=>sx_F hi) (fun hi hb=>?_) (fun hi hb=>?_) (fun hi=>?_)
 ·refine ⟨hi,.inr ?_⟩
  rw [i64_in (by omega)]
  show View 14 _ (vHp G (hp3 [some ⟨1,.var 1 (encT 1 s)⟩] (.var 2 (setsL encP s)) [])) _ (vHp G (hp3 [some ⟨1,.var 1 (encT 1 s)⟩] (.var 2 (setsL encP s)) [])++[some ⟨1,subL (subL (encT 1 s) 1 91) (i*7) 7⟩])
  rw [hH]
  refine View.same (by rw [can_len];omega) (by rw [can_len];exact can_hpB tsP_ok s) ?_
  rw [can_len]
  refine ⟨⟨rfl,rfl⟩,⟨rfl,rfl⟩,⟨?_,rfl⟩,⟨rfl,rfl⟩,trivial⟩
  have h:=tsP_ok.bnd 14 (ptrs 1 s) s fun n hn=>bnd_ptrs (by omega) n hn
  rw [bnds_eq,List.all_eq_true] at h
  show bnds 14 (subL (encT 1 s) 1 91)=true
  rw [bnds_eq,List.all_eq_true]
  exact fun v hv=>h v (List.mem_of_mem_drop (List.mem_of_mem_take hv))
 ·rw [same] at hb;cases hb
 ·exact ⟨rfl,.inl ⟨trivial,rfl⟩⟩
theorem p_sameX (G:Nat→List AV) (B:Nat) (s:Ptb):ACalls (⟨Try.prog,G,B⟩:Ctx) 15 [.ptr (.rw 0) 0,.ptr (.rw 0) 0] (can tsP s) fun v H'=>v=.bool true∧H'=can tsP s:=by
 have h:=dcall_ok (C:=(⟨Try.prog,G,B⟩:Ctx)) (K:=Dc Try.prog [36] [] [DLat 2379 (isSt [.ptr (.rw 0) 0,.bool false,.agg (subL (encT 1 s) 1 91),.int .i64 0] (vHp G (hp3 [some ⟨1,.var 1 (encT 1 s)⟩] (.var 2 (setsL encP s)) []))) 0 52 [1,4,23,24] (.one (.exit 0) [.undef,.undef,.undef,.undef] (hp3 [some ⟨1,.var 1 (encT 1 s)⟩] (.var 2 (setsL encP s)) []))] 14) (fuel:=300) (n0:=20) (f:=15) (fn:=Try.f15) (args:=[.ptr (.rw 0) (.lit 0),.ptr (.rw 0) (.lit 0)]) (H:=(hp3 [some ⟨1,.var 1 (encT 1 s)⟩] (.var 2 (setsL encP s)) [])) (keep:=14)
  (R:=fun v H=>v=.bool true∧H=vHp G (hp3 [some ⟨1,.var 1 (encT 1 s)⟩] (.var 2 (setsL encP s)) [])) (dgood (mix G B) (by kernel_rfl) .nil (.cast (.cons (i:=0) (by kernel_rfl) rfl (DLat_okC rfl (sx_loop G B s)) .nil) (by kernel_rfl))) (by kernel_rfl) (by kernel_rfl) (by kernel_rfl) (by
  rw [sm_cx]
  exact ⟨rfl,fun _=>⟨rfl,rfl,leB_iff.2 (by rw [encT_len];omega),isSt_refl,rfl,rfl⟩,fun h=>by cases h⟩)
 rw [show vHp G (hp3 [some ⟨1,.var 1 (encT 1 s)⟩] (.var 2 (setsL encP s)) [])=can tsP s from hp_can (t:=tsP) (s:=s)] at h
 refine ACalls.keep (k:=14) h (by rw [can_len];exact Nat.le_refl _) ?_ rfl (by simp)
 rw [can_len];exact can_hpB tsP_ok s
def sameQx (tg:Nat) (ok:List AV→Bool):DSum:=fun args H=>match args with
 | [.ptr (.rw i) (.lit 0),.ptr (.rw j) (.lit 0)]=>match Nat.beq i j with
  | true=>match objAt tg H i with
   | some o=>some (.chk (oaChk tg ok o) (.one (.bool (.lit true)) []))
   | none=>none
  | false=>sameQ tg ok args H
 | _=>none
theorem sameQx_ok {C:Ctx} {tg:Nat} {t:TS} (ht:TSOk t) {f:FuncId} (h:∀ s s',Wf s→Wf s'→ACalls C f [.ptr (.rw 0) 0,.ptr (.rw 14) 0] (two t s s') fun v H'=>v=.bool (sameT s s')∧H'=two t s s')
  (h1:∀ s,Wf s→ACalls C f [.ptr (.rw 0) 0,.ptr (.rw 0) 0] (can t s) fun v H'=>v=.bool true∧H'=can t s):DSumOk C f (sameQx tg (okObj t)):=by
 intro args H o ho
 unfold sameQx at ho
 split at ho
 ·rename_i i j
  split at ho
  ·rename_i hij
   have hij:=Nat.eq_of_beq_eq_true hij
   subst hij
   split at ho
   ·rename_i oa hoa
    simp only [Option.some.injEq] at ho
    subst ho
    intro h2
    have h2:okObj t [.int .i64 (oa.b:Int),.agg (vL C.G oa.x),.tup (vVs C.G (.agg oa.c0::oa.cs.map EV.agg))]=true:=h2
    obtain ⟨s,hw,hx,hc⟩:=okObj_iff.1 h2
    rw [Int.toNat_natCast] at hc
    have live:=oa_live ht hoa hc
    refine DOut.fr (θ:=thO i oa.b) (H0:=can t s) (H1:=can t s) (v0:=.bool true) (args0:=[.ptr (.rw 0) 0,.ptr (.rw 0) 0]) (thO_nodup (objAt_ok hoa).1) (by rw [thO_len,can_len]) live (by rw [thO_len];rfl) rfl (h1 s hw) (Nat.le_refl _) rfl (by rw [can_len];exact can_hpB ht s) rfl ?_
    unfold merge
    rw [can_len,thO_len,Nat.sub_self,List.drop_of_length_le (by rw [can_len];omega)]
    show vHp C.G H=lay _ _ _ _++[]
    rw [List.append_nil,lay_same]
    intro k b hk hb
    obtain ⟨b0,rfl,g1,g2⟩:=live k b hb
    rw [g2]
    simp only [renO,Option.map_some,renB,rens_wide _ g1]
   ·cases ho
  ·exact sameQ_ok ht h _ _ _ ho
 ·cases ho
end Go.Am
namespace Go.Am
open Go.Proofs Crc
set_option maxRecDepth 100000
theorem ps_a (G:Nat→List AV) (okP1 okR1 eqx okS:List AV→Bool) (x y:List AV) (k n kb nb i:Nat) (Q:Ex→List AV→Hp→Prop) (R:AV→Hp→Prop):vT G Q R (dloop (Dc Try.prog [] [(18,doD okP1 okR1 eqx okS)] [] 0) 600 20 0 (loopN Try.f4 0) 82 [0,1,5,6,7,8,9,10] [.slice true (.ro (.var 2 k)) (.lit 0) (.var 3 n),.slice true (.ro (.var 12 kb)) (.lit 0) (.var 13 nb),.ptr (.rw 0) (.lit 0),.ptr (.rw 14) (.lit 0),.ptr (.rw 28) (.lit 0),.ptr (.rw 42) (.lit 0),.bool (.lit true),.int .i64 (.ofN (.var 4 i))] (objD 1 (.var 5 x)++objE 15 (.var 5 x)++objD 29 (.var 6 y)++objE 43 (.var 6 y)))=(
  (decide ((((i:Nat):Int):Int)<((n:Nat):Int))=true→
 (decide ((((i:Nat):Int):Int)<60)=true→
 decide ((0:Int)≤((i:Nat):Int))=true∧
 decide ((((i:Nat):Int):Int)<((n:Nat):Int))=true∧
 leafsOk (G (k)) ((i)*4) [.int .i64,.int .i64,.int .i64,.int .i64]=true∧
 (okP1) (okA (1) x)=true∧
 (okR1) (okB (15) x)=true∧
 (eqx) [.agg x,.agg x]=true∧
 (okS) [.agg ([.int .i64 (getI (G (k)) ((i)*4)),.int .i64 (getI (G (k)) ((i)*4+1)),.int .i64 (getI (G (k)) ((i)*4+2)),.int .i64 (getI (G (k)) ((i)*4+3))]:List AV)]=true∧
 Q .normal [.slice true (.ro (k)) (0) (n),.slice true (.ro (kb)) (0) (nb),.ptr (.rw 56) (0),.ptr (.rw 70) (0),.ptr (.rw 28) (0),.ptr (.rw 42) (0),.bool (true),.int .i64 (IntKind.wrap .i64 (((i:Nat):Int)+1))] ([none,none,none,none,none,none,none,none,none,none,none,none,none,none,none,none,none,none,none,none,none,none,none,none,none,none,none,none]++(objL (29) y++(objU (43) y++(objL (57) ((stepXU) [.agg x,.agg ([.int .i64 (getI (G (k)) ((i)*4)),.int .i64 (getI (G (k)) ((i)*4+1)),.int .i64 (getI (G (k)) ((i)*4+2)),.int .i64 (getI (G (k)) ((i)*4+3))]:List AV)])++objU (71) ((stepXU) [.agg x,.agg ([.int .i64 (getI (G (k)) ((i)*4)),.int .i64 (getI (G (k)) ((i)*4+1)),.int .i64 (getI (G (k)) ((i)*4+2)),.int .i64 (getI (G (k)) ((i)*4+3))]:List AV)]))))))∧
 (decide ((((i:Nat):Int):Int)<60)=false→
 Q (.exit 0) [.slice true (.ro (k)) (0) (n),.slice true (.ro (kb)) (0) (nb),.ptr (.rw 0) (0),.ptr (.rw 14) (0),.ptr (.rw 28) (0),.ptr (.rw 42) (0),.bool (true),.int .i64 (((i:Nat):Int))] (objL (1) x++(objU (15) x++(objL (29) y++objU (43) y)))))∧
 (decide ((((i:Nat):Int):Int)<((n:Nat):Int))=false→
 Q (.exit 0) [.slice true (.ro (k)) (0) (n),.slice true (.ro (kb)) (0) (nb),.ptr (.rw 0) (0),.ptr (.rw 14) (0),.ptr (.rw 28) (0),.ptr (.rw 42) (0),.bool (true),.int .i64 (((i:Nat):Int))] (objL (1) x++(objU (15) x++(objL (29) y++objU (43) y))))):=by kernel_rfl
theorem ps_b (G:Nat→List AV) (okP1 okR1 eqx okS:List AV→Bool) (x y:List AV) (kb nb i:Nat) (Q:Ex→List AV→Hp→Prop) (R:AV→Hp→Prop):vT G Q R (dloop (Dc Try.prog [] [(18,doD okP1 okR1 eqx okS)] [] 0) 600 20 0 (loopN Try.f4 1) 82 [1,5,6,7,8,9,11] [.slice true (.ro (.var 12 kb)) (.lit 0) (.var 13 nb),.ptr (.rw 0) (.lit 0),.ptr (.rw 14) (.lit 0),.ptr (.rw 28) (.lit 0),.ptr (.rw 42) (.lit 0),.bool (.lit true),.int .i64 (.ofN (.var 4 i))] (objD 1 (.var 5 x)++objE 15 (.var 5 x)++objD 29 (.var 6 y)++objE 43 (.var 6 y)))=(
  (decide ((((i:Nat):Int):Int)<((nb:Nat):Int))=true→
 (decide ((((i:Nat):Int):Int)<60)=true→
 decide ((0:Int)≤((i:Nat):Int))=true∧
 decide ((((i:Nat):Int):Int)<((nb:Nat):Int))=true∧
 leafsOk (G (kb)) ((i)*4) [.int .i64,.int .i64,.int .i64,.int .i64]=true∧
 (okP1) (okA (29) y)=true∧
 (okR1) (okB (43) y)=true∧
 (eqx) [.agg y,.agg y]=true∧
 (okS) [.agg ([.int .i64 (getI (G (kb)) ((i)*4)),.int .i64 (getI (G (kb)) ((i)*4+1)),.int .i64 (getI (G (kb)) ((i)*4+2)),.int .i64 (getI (G (kb)) ((i)*4+3))]:List AV)]=true∧
 Q .normal [.slice true (.ro (kb)) (0) (nb),.ptr (.rw 0) (0),.ptr (.rw 14) (0),.ptr (.rw 56) (0),.ptr (.rw 70) (0),.bool (true),.int .i64 (IntKind.wrap .i64 (((i:Nat):Int)+1))] (objL (1) x++(objU (15) x++([none,none,none,none,none,none,none,none,none,none,none,none,none,none,none,none,none,none,none,none,none,none,none,none,none,none,none,none]++(objL (57) ((stepXU) [.agg y,.agg ([.int .i64 (getI (G (kb)) ((i)*4)),.int .i64 (getI (G (kb)) ((i)*4+1)),.int .i64 (getI (G (kb)) ((i)*4+2)),.int .i64 (getI (G (kb)) ((i)*4+3))]:List AV)])++objU (71) ((stepXU) [.agg y,.agg ([.int .i64 (getI (G (kb)) ((i)*4)),.int .i64 (getI (G (kb)) ((i)*4+1)),.int .i64 (getI (G (kb)) ((i)*4+2)),.int .i64 (getI (G (kb)) ((i)*4+3))]:List AV)]))))))∧
 (decide ((((i:Nat):Int):Int)<60)=false→
 Q (.exit 2) [.slice true (.ro (kb)) (0) (nb),.ptr (.rw 0) (0),.ptr (.rw 14) (0),.ptr (.rw 28) (0),.ptr (.rw 42) (0),.bool (true),.int .i64 (((i:Nat):Int))] (objL (1) x++(objU (15) x++(objL (29) y++objU (43) y)))))∧
 (decide ((((i:Nat):Int):Int)<((nb:Nat):Int))=false→
 Q (.exit 2) [.slice true (.ro (kb)) (0) (nb),.ptr (.rw 0) (0),.ptr (.rw 14) (0),.ptr (.rw 28) (0),.ptr (.rw 42) (0),.bool (true),.int .i64 (((i:Nat):Int))] (objL (1) x++(objU (15) x++(objL (29) y++objU (43) y))))):=by kernel_rfl
theorem ps_c (G:Nat→List AV) (okP1 okR1 rl rm:List AV→Bool) (x1 y0 y1:List AV) (k n kb nb:Nat) (Q:Ex→List AV→Hp→Prop) (R:AV→Hp→Prop):vT G Q R (dlaw (Dc Try.prog [] [(9,knownS),(10,newQ 2101 tsP),(17,newQ 2251 tsR),(15,sameQx 2101 okP1),(19,sameQ 2251 okR1)] [DLat 2481 (rl) 0 82 [0,1,5,6,7,8,9,10] (.one (.exit 0) [.undef,.slice true (.ro (.var 12 kb)) (.lit 0) (.var 13 nb),.ptr (.rw 0) (.lit 0),.ptr (.rw 14) (.lit 0),.ptr (.rw 28) (.lit 0),.ptr (.rw 42) (.lit 0),.bool (.lit true),.undef] (objD 1 (.var 15 x1)++objE 15 (.var 15 x1)++objD 29 (.var 6 y0)++objE 43 (.var 6 y0))),DLat 2482 (rm) 2 82 [1,5,6,7,8,9,11] (.one (.exit 2) [.undef,.ptr (.rw 0) (.lit 0),.ptr (.rw 14) (.lit 0),.ptr (.rw 28) (.lit 0),.ptr (.rw 42) (.lit 0),.bool (.lit true),.undef] (objD 1 (.var 15 x1)++objE 15 (.var 15 x1)++objD 29 (.var 16 y1)++objE 43 (.var 16 y1)))] 0) 600 20 Try.f4 [.slice true (.ro (.var 2 k)) (.lit 0) (.var 3 n),.slice true (.ro (.var 12 kb)) (.lit 0) (.var 13 nb)] [])=(
  (rl) [.agg ([.slice true (.ro (k)) (0) (n),.slice true (.ro (kb)) (0) (nb),.ptr (.rw 0) (0),.ptr (.rw 14) (0),.ptr (.rw 28) (0),.ptr (.rw 42) (0),.bool (true),.int .i64 (0)]:List AV),.agg ([.tup [.int .i64 (1),.agg ((tabF tsP) [.int .i64 (1),.agg ((new0U) [])])],.tup [.int .i64 (1),.agg ((setF tsP 0) [.agg ((new0U) [])])],.tup [.int .i64 (1),.agg ((setF tsP 1) [.agg ((new0U) [])])],.tup [.int .i64 (1),.agg ((setF tsP 2) [.agg ((new0U) [])])],.tup [.int .i64 (1),.agg ((setF tsP 3) [.agg ((new0U) [])])],.tup [.int .i64 (1),.agg ((setF tsP 4) [.agg ((new0U) [])])],.tup [.int .i64 (1),.agg ((setF tsP 5) [.agg ((new0U) [])])],.tup [.int .i64 (1),.agg ((setF tsP 6) [.agg ((new0U) [])])],.tup [.int .i64 (1),.agg ((setF tsP 7) [.agg ((new0U) [])])],.tup [.int .i64 (1),.agg ((setF tsP 8) [.agg ((new0U) [])])],.tup [.int .i64 (1),.agg ((setF tsP 9) [.agg ((new0U) [])])],.tup [.int .i64 (1),.agg ((setF tsP 10) [.agg ((new0U) [])])],.tup [.int .i64 (1),.agg ((setF tsP 11) [.agg ((new0U) [])])],.tup [.int .i64 (1),.agg ((setF tsP 12) [.agg ((new0U) [])])],.tup [.int .i64 (1),.agg ((tabF tsR) [.int .i64 (15),.agg ((new0U) [])])],.tup [.int .i64 (1),.agg ((setF tsR 0) [.agg ((new0U) [])])],.tup [.int .i64 (1),.agg ((setF tsR 1) [.agg ((new0U) [])])],.tup [.int .i64 (1),.agg ((setF tsR 2) [.agg ((new0U) [])])],.tup [.int .i64 (1),.agg ((setF tsR 3) [.agg ((new0U) [])])],.tup [.int .i64 (1),.agg ((setF tsR 4) [.agg ((new0U) [])])],.tup [.int .i64 (1),.agg ((setF tsR 5) [.agg ((new0U) [])])],.tup [.int .i64 (1),.agg ((setF tsR 6) [.agg ((new0U) [])])],.tup [.int .i64 (1),.agg ((setF tsR 7) [.agg ((new0U) [])])],.tup [.int .i64 (1),.agg ((setF tsR 8) [.agg ((new0U) [])])],.tup [.int .i64 (1),.agg ((setF tsR 9) [.agg ((new0U) [])])],.tup [.int .i64 (1),.agg ((setF tsR 10) [.agg ((new0U) [])])],.tup [.int .i64 (1),.agg ((setF tsR 11) [.agg ((new0U) [])])],.tup [.int .i64 (1),.agg ((setF tsR 12) [.agg ((new0U) [])])],.tup [.int .i64 (1),.agg ((tabF tsP) [.int .i64 (29),.agg ((new0U) [])])],.tup [.int .i64 (1),.agg ((setF tsP 0) [.agg ((new0U) [])])],.tup [.int .i64 (1),.agg ((setF tsP 1) [.agg ((new0U) [])])],.tup [.int .i64 (1),.agg ((setF tsP 2) [.agg ((new0U) [])])],.tup [.int .i64 (1),.agg ((setF tsP 3) [.agg ((new0U) [])])],.tup [.int .i64 (1),.agg ((setF tsP 4) [.agg ((new0U) [])])],.tup [.int .i64 (1),.agg ((setF tsP 5) [.agg ((new0U) [])])],.tup [.int .i64 (1),.agg ((setF tsP 6) [.agg ((new0U) [])])],.tup [.int .i64 (1),.agg ((setF tsP 7) [.agg ((new0U) [])])],.tup [.int .i64 (1),.agg ((setF tsP 8) [.agg ((new0U) [])])],.tup [.int .i64 (1),.agg ((setF tsP 9) [.agg ((new0U) [])])],.tup [.int .i64 (1),.agg ((setF tsP 10) [.agg ((new0U) [])])],.tup [.int .i64 (1),.agg ((setF tsP 11) [.agg ((new0U) [])])],.tup [.int .i64 (1),.agg ((setF tsP 12) [.agg ((new0U) [])])],.tup [.int .i64 (1),.agg ((tabF tsR) [.int .i64 (43),.agg ((new0U) [])])],.tup [.int .i64 (1),.agg ((setF tsR 0) [.agg ((new0U) [])])],.tup [.int .i64 (1),.agg ((setF tsR 1) [.agg ((new0U) [])])],.tup [.int .i64 (1),.agg ((setF tsR 2) [.agg ((new0U) [])])],.tup [.int .i64 (1),.agg ((setF tsR 3) [.agg ((new0U) [])])],.tup [.int .i64 (1),.agg ((setF tsR 4) [.agg ((new0U) [])])],.tup [.int .i64 (1),.agg ((setF tsR 5) [.agg ((new0U) [])])],.tup [.int .i64 (1),.agg ((setF tsR 6) [.agg ((new0U) [])])],.tup [.int .i64 (1),.agg ((setF tsR 7) [.agg ((new0U) [])])],.tup [.int .i64 (1),.agg ((setF tsR 8) [.agg ((new0U) [])])],.tup [.int .i64 (1),.agg ((setF tsR 9) [.agg ((new0U) [])])],.tup [.int .i64 (1),.agg ((setF tsR 10) [.agg ((new0U) [])])],.tup [.int .i64 (1),.agg ((setF tsR 11) [.agg ((new0U) [])])],.tup [.int .i64 (1),.agg ((setF tsR 12) [.agg ((new0U) [])])]]:List AV)]=true∧
 (rm) [.agg ([.slice true (.ro (kb)) (0) (nb),.ptr (.rw 0) (0),.ptr (.rw 14) (0),.ptr (.rw 28) (0),.ptr (.rw 42) (0),.bool (true),.int .i64 (0)]:List AV),.agg ([.tup [.int .i64 (1),.agg ((tabF tsP) [.int .i64 (1),.agg x1])],.tup [.int .i64 (1),.agg ((setF tsP 0) [.agg x1])],.tup [.int .i64 (1),.agg ((setF tsP 1) [.agg x1])],.tup [.int .i64 (1),.agg ((setF tsP 2) [.agg x1])],.tup [.int .i64 (1),.agg ((setF tsP 3) [.agg x1])],.tup [.int .i64 (1),.agg ((setF tsP 4) [.agg x1])],.tup [.int .i64 (1),.agg ((setF tsP 5) [.agg x1])],.tup [.int .i64 (1),.agg ((setF tsP 6) [.agg x1])],.tup [.int .i64 (1),.agg ((setF tsP 7) [.agg x1])],.tup [.int .i64 (1),.agg ((setF tsP 8) [.agg x1])],.tup [.int .i64 (1),.agg ((setF tsP 9) [.agg x1])],.tup [.int .i64 (1),.agg ((setF tsP 10) [.agg x1])],.tup [.int .i64 (1),.agg ((setF tsP 11) [.agg x1])],.tup [.int .i64 (1),.agg ((setF tsP 12) [.agg x1])],.tup [.int .i64 (1),.agg ((tabF tsR) [.int .i64 (15),.agg x1])],.tup [.int .i64 (1),.agg ((setF tsR 0) [.agg x1])],.tup [.int .i64 (1),.agg ((setF tsR 1) [.agg x1])],.tup [.int .i64 (1),.agg ((setF tsR 2) [.agg x1])],.tup [.int .i64 (1),.agg ((setF tsR 3) [.agg x1])],.tup [.int .i64 (1),.agg ((setF tsR 4) [.agg x1])],.tup [.int .i64 (1),.agg ((setF tsR 5) [.agg x1])],.tup [.int .i64 (1),.agg ((setF tsR 6) [.agg x1])],.tup [.int .i64 (1),.agg ((setF tsR 7) [.agg x1])],.tup [.int .i64 (1),.agg ((setF tsR 8) [.agg x1])],.tup [.int .i64 (1),.agg ((setF tsR 9) [.agg x1])],.tup [.int .i64 (1),.agg ((setF tsR 10) [.agg x1])],.tup [.int .i64 (1),.agg ((setF tsR 11) [.agg x1])],.tup [.int .i64 (1),.agg ((setF tsR 12) [.agg x1])],.tup [.int .i64 (1),.agg ((tabF tsP) [.int .i64 (29),.agg y0])],.tup [.int .i64 (1),.agg ((setF tsP 0) [.agg y0])],.tup [.int .i64 (1),.agg ((setF tsP 1) [.agg y0])],.tup [.int .i64 (1),.agg ((setF tsP 2) [.agg y0])],.tup [.int .i64 (1),.agg ((setF tsP 3) [.agg y0])],.tup [.int .i64 (1),.agg ((setF tsP 4) [.agg y0])],.tup [.int .i64 (1),.agg ((setF tsP 5) [.agg y0])],.tup [.int .i64 (1),.agg ((setF tsP 6) [.agg y0])],.tup [.int .i64 (1),.agg ((setF tsP 7) [.agg y0])],.tup [.int .i64 (1),.agg ((setF tsP 8) [.agg y0])],.tup [.int .i64 (1),.agg ((setF tsP 9) [.agg y0])],.tup [.int .i64 (1),.agg ((setF tsP 10) [.agg y0])],.tup [.int .i64 (1),.agg ((setF tsP 11) [.agg y0])],.tup [.int .i64 (1),.agg ((setF tsP 12) [.agg y0])],.tup [.int .i64 (1),.agg ((tabF tsR) [.int .i64 (43),.agg y0])],.tup [.int .i64 (1),.agg ((setF tsR 0) [.agg y0])],.tup [.int .i64 (1),.agg ((setF tsR 1) [.agg y0])],.tup [.int .i64 (1),.agg ((setF tsR 2) [.agg y0])],.tup [.int .i64 (1),.agg ((setF tsR 3) [.agg y0])],.tup [.int .i64 (1),.agg ((setF tsR 4) [.agg y0])],.tup [.int .i64 (1),.agg ((setF tsR 5) [.agg y0])],.tup [.int .i64 (1),.agg ((setF tsR 6) [.agg y0])],.tup [.int .i64 (1),.agg ((setF tsR 7) [.agg y0])],.tup [.int .i64 (1),.agg ((setF tsR 8) [.agg y0])],.tup [.int .i64 (1),.agg ((setF tsR 9) [.agg y0])],.tup [.int .i64 (1),.agg ((setF tsR 10) [.agg y0])],.tup [.int .i64 (1),.agg ((setF tsR 11) [.agg y0])],.tup [.int .i64 (1),.agg ((setF tsR 12) [.agg y0])]]:List AV)]=true∧
 (okP1) (okA (1) x1)=true∧
 (okP1) (okA (29) y1)=true∧
 (okR1) (okB (15) x1)=true∧
 (okR1) (okB (43) y1)=true∧
 ((sameXU) [.agg x1,.agg y1]=true→
 (sameXU) [.agg x1,.agg y1]=true∧
 (okP1) (okA (1) x1)=true∧
 R (.bool (true)) [])∧
 ((sameXU) [.agg x1,.agg y1]=false→
 (!((sameXU) [.agg x1,.agg y1]))=true∧
 (okP1) (okA (1) x1)=true∧
 R (.bool (true)) [])):=by kernel_rfl
end Go.Am
namespace Go.Am
open Go.Proofs Crc
set_option maxRecDepth 100000
set_option maxHeartbeats 1000000
structure StepsAt (cs:List AV) (n:Nat):Prop where
 ok:okI .i64 cs 0 (n*4)=true
 rng:∀ i,i<n→-9223372036854775808≤getI cs (i*4+2)
def runX (cs:List AV):Nat→Ptb
 | 0=>new0
 | i+1=>stepX (runX cs i) (getI cs (i*4)) (getI cs (i*4+1)) (getI cs (i*4+2)) (getI cs (i*4+3))
theorem runX_wf (cs:List AV):∀ i,Wf (runX cs i)
 | 0=>new0_wf
 | i+1=>(runX_wf cs i).stepX _ _ _ _
theorem stepXU_enc {s:Ptb} (hs:thin s) {c p a b:Int}:stepXU [.agg (encX s),.agg [.int .i64 c,.int .i64 p,.int .i64 a,.int .i64 b]]=encX (stepX s c p a b):=by
 show encX (stepX (decX (encX s)) c p a b)=_
 rw [decX_enc hs]
theorem stepOk_at {cs:List AV} {n i:Nat} (h:StepsAt cs n) (hi:i<n):stepOk [.agg [.int .i64 (getI cs (i*4)),.int .i64 (getI cs (i*4+1)),.int .i64 (getI cs (i*4+2)),.int .i64 (getI cs (i*4+3))]]=true:=stepOk_iff.2 ⟨_,_,_,_,rfl,h.rng i hi⟩
theorem doD_law (G:Nat→List AV) (B:Nat):DSumOk (⟨Try.prog,G,B⟩:Ctx) 18 (doD (okObj tsP) (okObj tsR) eqXU stepOk):=doD_ok (fun s hw c p a b ha=>do_call G B hw c p a b ha)
theorem obj4 {s t:Ptb} (hs:thin s) (ht:thin t):objL 1 (encX s)++(objU 15 (encX s)++(objL 29 (encX t)++objU 43 (encX t)))=objs 0 [(tsP,s),(tsR,s),(tsP,t),(tsR,t)]:=by
 rw [show objL 1 (encX s)=_ from objL_enc hs 1,show objU 15 (encX s)=_ from objU_enc hs 15,show objL 29 (encX t)=_ from objL_enc ht 29,show objU 43 (encX t)=_ from objU_enc ht 43]
 simp only [objs,List.append_nil]
theorem hObj4 {s t:Ptb} (hs:thin s) (ht:thin t) (G:Nat→List AV):vHp G (objD 1 (.var 5 (encX s))++objE 15 (.var 5 (encX s))++objD 29 (.var 6 (encX t))++objE 43 (.var 6 (encX t)))=objs 0 [(tsP,s),(tsR,s),(tsP,t),(tsR,t)]:=by
 rw [←obj4 hs ht];rfl
theorem v_a {s t:Ptb} (hs:thin s) (ht:thin t) {X:List AV} (hX:X=encX s) {H:Hp} (hH:H=[none,none,none,none,none,none,none,none,none,none,none,none,none,none,none,none,none,none,none,none,none,none,none,none,none,none,none,none]++(objL 29 (encX t)++(objU 43 (encX t)++(objL 57 X++objU 71 X)))) (k n kb nb:Nat) (i:Int) :
  View 0 [.slice true (.ro k) 0 n,.slice true (.ro kb) 0 nb,.ptr (.rw 0) 0,.ptr (.rw 14) 0,.ptr (.rw 28) 0,.ptr (.rw 42) 0,.bool true,.int .i64 i] (objs 0 [(tsP,s),(tsR,s),(tsP,t),(tsR,t)]) [.slice true (.ro k) 0 n,.slice true (.ro kb) 0 nb,.ptr (.rw 56) 0,.ptr (.rw 70) 0,.ptr (.rw 28) 0,.ptr (.rw 42) 0,.bool true,.int .i64 i] H:=by
 subst hH
 refine View.objs (m:=0) (os:=[(tsP,s),(tsR,s),(tsP,t),(tsR,t)]) (pl:=[(56,57),(70,71),(28,29),(42,43)]) (Nat.zero_le _) ⟨tsP_ok,AtO.word hX hs rfl (m13 ⟨rfl,rfl,rfl,rfl,rfl,rfl,rfl,rfl,rfl,rfl,rfl,rfl,rfl⟩),tsR_ok,AtO.word hX hs rfl (m13 ⟨rfl,rfl,rfl,rfl,rfl,rfl,rfl,rfl,rfl,rfl,rfl,rfl,rfl⟩),tsP_ok,AtO.word rfl ht rfl (m13 ⟨rfl,rfl,rfl,rfl,rfl,rfl,rfl,rfl,rfl,rfl,rfl,rfl,rfl⟩),tsR_ok,AtO.word rfl ht rfl (m13 ⟨rfl,rfl,rfl,rfl,rfl,rfl,rfl,rfl,rfl,rfl,rfl,rfl,rfl⟩),trivial⟩ (by decide) rfl ?_
 exact ⟨rfl,rfl,rfl,rfl,rfl,rfl,rfl,rfl,trivial⟩
theorem v_b {s t:Ptb} (hs:thin s) (ht:thin t) {X:List AV} (hX:X=encX t) {H:Hp} (hH:H=objL 1 (encX s)++(objU 15 (encX s)++([none,none,none,none,none,none,none,none,none,none,none,none,none,none,none,none,none,none,none,none,none,none,none,none,none,none,none,none]++(objL 57 X++objU 71 X)))) (kb nb:Nat) (i:Int) :
  View 0 [.slice true (.ro kb) 0 nb,.ptr (.rw 0) 0,.ptr (.rw 14) 0,.ptr (.rw 28) 0,.ptr (.rw 42) 0,.bool true,.int .i64 i] (objs 0 [(tsP,s),(tsR,s),(tsP,t),(tsR,t)]) [.slice true (.ro kb) 0 nb,.ptr (.rw 0) 0,.ptr (.rw 14) 0,.ptr (.rw 56) 0,.ptr (.rw 70) 0,.bool true,.int .i64 i] H:=by
 subst hH
 refine View.objs (m:=0) (os:=[(tsP,s),(tsR,s),(tsP,t),(tsR,t)]) (pl:=[(0,1),(14,15),(56,57),(70,71)]) (Nat.zero_le _) ⟨tsP_ok,AtO.word rfl hs rfl (m13 ⟨rfl,rfl,rfl,rfl,rfl,rfl,rfl,rfl,rfl,rfl,rfl,rfl,rfl⟩),tsR_ok,AtO.word rfl hs rfl (m13 ⟨rfl,rfl,rfl,rfl,rfl,rfl,rfl,rfl,rfl,rfl,rfl,rfl,rfl⟩),tsP_ok,AtO.word hX ht rfl (m13 ⟨rfl,rfl,rfl,rfl,rfl,rfl,rfl,rfl,rfl,rfl,rfl,rfl,rfl⟩),tsR_ok,AtO.word hX ht rfl (m13 ⟨rfl,rfl,rfl,rfl,rfl,rfl,rfl,rfl,rfl,rfl,rfl,rfl,rfl⟩),trivial⟩ (by decide) rfl ?_
 exact ⟨rfl,rfl,rfl,rfl,rfl,rfl,rfl,trivial⟩
theorem eqX_self (x:List AV):eqXU [.agg x,.agg x]=true:=eqXU_iff.2 rfl
theorem ps_loopA (G:Nat→List AV) (B:Nat) (k n kb nb:Nat) (hk:StepsAt (G k) n):AWp (⟨Try.prog,G,B⟩:Ctx) 0 (.loop (loopN Try.f4 0)) (fl 82 [0,1,5,6,7,8,9,10] [.slice true (.ro k) 0 n,.slice true (.ro kb) 0 nb,.ptr (.rw 0) 0,.ptr (.rw 14) 0,.ptr (.rw 28) 0,.ptr (.rw 42) 0,.bool true,.int .i64 0]) (objs 0 [(tsP,new0),(tsR,new0),(tsP,new0),(tsR,new0)]) (lv 82 [0,1,5,6,7,8,9,10] (LOut.post G 0 (.one (.exit 0) [.undef,.slice true (.ro (.var 12 kb)) (.lit 0) (.var 13 nb),.ptr (.rw 0) (.lit 0),.ptr (.rw 14) (.lit 0),.ptr (.rw 28) (.lit 0),.ptr (.rw 42) (.lit 0),.bool (.lit true),.undef] (objD 1 (.var 15 (encX (runX (G k) (min n 60))))++objE 15 (.var 15 (encX (runX (G k) (min n 60))))++objD 29 (.var 6 (encX new0))++objE 43 (.var 6 (encX new0)))))):=by
 refine scan (min n 60) (fun i=>[.slice true (.ro k) 0 n,.slice true (.ro kb) 0 nb,.ptr (.rw 0) 0,.ptr (.rw 14) 0,.ptr (.rw 28) 0,.ptr (.rw 42) 0,.bool true,.int .i64 (i:Int)]) (fun i=>objs 0 [(tsP,(runX (G k) i)),(tsR,(runX (G k) i)),(tsP,new0),(tsR,new0)]) fun i hi=>?_
 have hw:=runX_wf (G k) i
 rw [←hObj4 hw.thin new0_wf.thin G]
 refine dloop_ok (C:=(⟨Try.prog,G,B⟩:Ctx)) (K:=Dc Try.prog [] [(18,doD (okObj tsP) (okObj tsR) eqXU stepOk)] [] 0) (fuel:=600) (n0:=20) (m:=0) (c:=loopN Try.f4 0)
  (vs:=[.slice true (.ro (.var 2 k)) (.lit 0) (.var 3 n),.slice true (.ro (.var 12 kb)) (.lit 0) (.var 13 nb),.ptr (.rw 0) (.lit 0),.ptr (.rw 14) (.lit 0),.ptr (.rw 28) (.lit 0),.ptr (.rw 42) (.lit 0),.bool (.lit true),.int .i64 (.ofN (.var 4 i))]) (H:=(objD 1 (.var 5 (encX (runX (G k) i)))++objE 15 (.var 5 (encX (runX (G k) i)))++objD 29 (.var 6 (encX new0))++objE 43 (.var 6 (encX new0)))) (by rw [show loopsOf (loopN Try.f4 0)=[] by kernel_rfl];exact dgood (mix G B) (by kernel_rfl) (.cons (doD_law G B) .nil) .nil) (Nat.zero_le _) ?_
 rw [ps_a]
 have out:¬(i<n∧i<60)→LOut.post G 0 (.one (.exit 0) [.undef,.slice true (.ro (.var 12 kb)) (.lit 0) (.var 13 nb),.ptr (.rw 0) (.lit 0),.ptr (.rw 14) (.lit 0),.ptr (.rw 28) (.lit 0),.ptr (.rw 42) (.lit 0),.bool (.lit true),.undef] (objD 1 (.var 15 (encX (runX (G k) (min n 60))))++objE 15 (.var 15 (encX (runX (G k) (min n 60))))++objD 29 (.var 6 (encX new0))++objE 43 (.var 6 (encX new0)))) (.exit 0) [.slice true (.ro k) 0 n,.slice true (.ro kb) 0 nb,.ptr (.rw 0) 0,.ptr (.rw 14) 0,.ptr (.rw 28) 0,.ptr (.rw 42) 0,.bool true,.int .i64 (i:Int)] (objL 1 (encX (runX (G k) i))++(objU 15 (encX (runX (G k) i))++(objL 29 (encX new0)++objU 43 (encX new0)))):=fun h=>by
  have e:i=min n 60:=by omega
  subst e
  exact ⟨rfl,.inl ⟨by simp [wk,vVs,vV,vR,vN,vB],rfl⟩⟩
 refine ⟨fun h1=>⟨fun h2=>?_,fun h2=>out fun h=>by have:=of_decide_eq_false h2;omega⟩,fun h1=>out fun h=>by have:=of_decide_eq_false h1;omega⟩
 have h1':i<n:=by have:=of_decide_eq_true h1;omega
 have h2':i<60:=by have:=of_decide_eq_true h2;omega
 refine ⟨decide_eq_true (by omega),h1,leafs4 hk.ok h1',okO hw 1,okOU hw 15,eqX_self _,stepOk_at hk h1',by omega,.inr ?_⟩
 rw [i64_in (by omega)]
 exact v_a (runX_wf (G k) (i+1)).thin new0_wf.thin (stepXU_enc hw.thin) rfl k n kb nb ((i+1:Nat):Int)
theorem ps_loopB (G:Nat→List AV) (B:Nat) (s:Ptb) (hs:Wf s) (kb nb:Nat) (hk:StepsAt (G kb) nb):AWp (⟨Try.prog,G,B⟩:Ctx) 0 (.loop (loopN Try.f4 1)) (fl 82 [1,5,6,7,8,9,11] [.slice true (.ro kb) 0 nb,.ptr (.rw 0) 0,.ptr (.rw 14) 0,.ptr (.rw 28) 0,.ptr (.rw 42) 0,.bool true,.int .i64 0]) (objs 0 [(tsP,s),(tsR,s),(tsP,new0),(tsR,new0)]) (lv 82 [1,5,6,7,8,9,11] (LOut.post G 0 (.one (.exit 2) [.undef,.ptr (.rw 0) (.lit 0),.ptr (.rw 14) (.lit 0),.ptr (.rw 28) (.lit 0),.ptr (.rw 42) (.lit 0),.bool (.lit true),.undef] (objD 1 (.var 15 (encX s))++objE 15 (.var 15 (encX s))++objD 29 (.var 16 (encX (runX (G kb) (min nb 60))))++objE 43 (.var 16 (encX (runX (G kb) (min nb 60)))))))):=by
 refine scan (min nb 60) (fun i=>[.slice true (.ro kb) 0 nb,.ptr (.rw 0) 0,.ptr (.rw 14) 0,.ptr (.rw 28) 0,.ptr (.rw 42) 0,.bool true,.int .i64 (i:Int)]) (fun i=>objs 0 [(tsP,s),(tsR,s),(tsP,(runX (G kb) i)),(tsR,(runX (G kb) i))]) fun i hi=>?_
 have hw:=runX_wf (G kb) i
 rw [←hObj4 hs.thin hw.thin G]
 refine dloop_ok (C:=(⟨Try.prog,G,B⟩:Ctx)) (K:=Dc Try.prog [] [(18,doD (okObj tsP) (okObj tsR) eqXU stepOk)] [] 0) (fuel:=600) (n0:=20) (m:=0) (c:=loopN Try.f4 1)
  (vs:=[.slice true (.ro (.var 12 kb)) (.lit 0) (.var 13 nb),.ptr (.rw 0) (.lit 0),.ptr (.rw 14) (.lit 0),.ptr (.rw 28) (.lit 0),.ptr (.rw 42) (.lit 0),.bool (.lit true),.int .i64 (.ofN (.var 4 i))]) (H:=(objD 1 (.var 5 (encX s))++objE 15 (.var 5 (encX s))++objD 29 (.var 6 (encX (runX (G kb) i)))++objE 43 (.var 6 (encX (runX (G kb) i))))) (by rw [show loopsOf (loopN Try.f4 1)=[] by kernel_rfl];exact dgood (mix G B) (by kernel_rfl) (.cons (doD_law G B) .nil) .nil) (Nat.zero_le _) ?_
 rw [ps_b]
 have out:¬(i<nb∧i<60)→LOut.post G 0 (.one (.exit 2) [.undef,.ptr (.rw 0) (.lit 0),.ptr (.rw 14) (.lit 0),.ptr (.rw 28) (.lit 0),.ptr (.rw 42) (.lit 0),.bool (.lit true),.undef] (objD 1 (.var 15 (encX s))++objE 15 (.var 15 (encX s))++objD 29 (.var 16 (encX (runX (G kb) (min nb 60))))++objE 43 (.var 16 (encX (runX (G kb) (min nb 60)))))) (.exit 2) [.slice true (.ro kb) 0 nb,.ptr (.rw 0) 0,.ptr (.rw 14) 0,.ptr (.rw 28) 0,.ptr (.rw 42) 0,.bool true,.int .i64 (i:Int)] (objL 1 (encX s)++(objU 15 (encX s)++(objL 29 (encX (runX (G kb) i))++objU 43 (encX (runX (G kb) i))))):=fun h=>by
  have e:i=min nb 60:=by omega
  subst e
  exact ⟨rfl,.inl ⟨by simp [wk,vVs,vV,vR,vN,vB],rfl⟩⟩
 refine ⟨fun h1=>⟨fun h2=>?_,fun h2=>out fun h=>by have:=of_decide_eq_false h2;omega⟩,fun h1=>out fun h=>by have:=of_decide_eq_false h1;omega⟩
 have h1':i<nb:=by have:=of_decide_eq_true h1;omega
 have h2':i<60:=by have:=of_decide_eq_true h2;omega
 refine ⟨decide_eq_true (by omega),h1,leafs4 hk.ok h1',okO hw 29,okOU hw 43,eqX_self _,stepOk_at hk h1',by omega,.inr ?_⟩
 rw [i64_in (by omega)]
 exact v_b hs.thin (runX_wf (G kb) (i+1)).thin (stepXU_enc hw.thin) rfl kb nb ((i+1:Nat):Int)
theorem same_call (G:Nat→List AV) (B:Nat) (k n kb nb:Nat) (hk:StepsAt (G k) n) (hb:StepsAt (G kb) nb):ACalls (⟨Try.prog,G,B⟩:Ctx) 4 [.slice true (.ro k) 0 n,.slice true (.ro kb) 0 nb] [] fun v _=>v=.bool true:=by
 have:=dlaw_ok (C:=(⟨Try.prog,G,B⟩:Ctx)) (K:=Dc Try.prog [] [(9,knownS),(10,newQ 2101 tsP),(17,newQ 2251 tsR),(15,sameQx 2101 (okObj tsP)),(19,sameQ 2251 (okObj tsR))] [DLat 2481 (isSt [.slice true (.ro k) 0 n,.slice true (.ro kb) 0 nb,.ptr (.rw 0) 0,.ptr (.rw 14) 0,.ptr (.rw 28) 0,.ptr (.rw 42) 0,.bool true,.int .i64 0] (objs 0 [(tsP,new0),(tsR,new0),(tsP,new0),(tsR,new0)])) 0 82 [0,1,5,6,7,8,9,10] (.one (.exit 0) [.undef,.slice true (.ro (.var 12 kb)) (.lit 0) (.var 13 nb),.ptr (.rw 0) (.lit 0),.ptr (.rw 14) (.lit 0),.ptr (.rw 28) (.lit 0),.ptr (.rw 42) (.lit 0),.bool (.lit true),.undef] (objD 1 (.var 15 (encX (runX (G k) (min n 60))))++objE 15 (.var 15 (encX (runX (G k) (min n 60))))++objD 29 (.var 6 (encX new0))++objE 43 (.var 6 (encX new0)))),DLat 2482 (isSt [.slice true (.ro kb) 0 nb,.ptr (.rw 0) 0,.ptr (.rw 14) 0,.ptr (.rw 28) 0,.ptr (.rw 42) 0,.bool true,.int .i64 0] (objs 0 [(tsP,(runX (G k) (min n 60))),(tsR,(runX (G k) (min n 60))),(tsP,new0),(tsR,new0)])) 2 82 [1,5,6,7,8,9,11] (.one (.exit 2) [.undef,.ptr (.rw 0) (.lit 0),.ptr (.rw 14) (.lit 0),.ptr (.rw 28) (.lit 0),.ptr (.rw 42) (.lit 0),.bool (.lit true),.undef] (objD 1 (.var 15 (encX (runX (G k) (min n 60))))++objE 15 (.var 15 (encX (runX (G k) (min n 60))))++objD 29 (.var 16 (encX (runX (G kb) (min nb 60))))++objE 43 (.var 16 (encX (runX (G kb) (min nb 60))))))] 0) (fuel:=600) (n0:=20) (f:=4) (fn:=Try.f4) (args:=[.slice true (.ro (.var 2 k)) (.lit 0) (.var 3 n),.slice true (.ro (.var 12 kb)) (.lit 0) (.var 13 nb)]) (H:=[]) (R:=fun v _=>v=.bool true) (by
   rw [show loopsOf (bodyOf Try.f4)=[loopN Try.f4 0,loopN Try.f4 1] by kernel_rfl]
   refine dgood (mix G B) (by kernel_rfl) (.cons (knownS_ok G B) (.cons (newQ_ok tsP_ok (p_new G B)) (.cons (newQ_ok tsR_ok (r_new G B)) (.cons (sameQx_ok tsP_ok (fun s s' _ _=>p_sameM G B s s') (fun s _=>p_sameX G B s)) (.cons (sameQ_ok tsR_ok (fun s s' hw hw'=>r_sameM G B hw hw')) .nil))))) (.cons (i:=0) (by kernel_rfl) rfl (DLat_okC rfl (ps_loopA G B k n kb nb hk)) (.cons (i:=2) (by kernel_rfl) rfl (DLat_okC rfl (ps_loopB G B _ (runX_wf _ _) kb nb hb)) .nil))) (by kernel_rfl) (by kernel_rfl) (by kernel_rfl) (by
  rw [ps_c]
  have w1:=runX_wf (G k) (min n 60)
  have w2:=runX_wf (G kb) (min nb 60)
  refine ⟨?_,?_,okO w1 1,okO w2 29,okOU w1 15,okOU w2 43,fun h=>⟨h,okO w1 1,rfl⟩,fun h=>⟨by rw [h];rfl,okO w1 1,rfl⟩⟩
  ·have e:=obj4 (s:=new0) (t:=new0) new0_wf.thin new0_wf.thin
   rw [←e]
   exact isSt_refl
  ·rw [←obj4 w1.thin new0_wf.thin]
   exact isSt_refl)
 exact this
end Go.Am
