/-
  Processes: the document's Fork: its loop and the call. Processes: the document's End: its loops and the call.
-/
import Derived.Test.YtkabjomhnddnoaaPart23
import Derived.Test.YtkabjomhnddnoaaBase10
import Derived.Test.YtkabjomhnddnoaaPart19
namespace Go.Am
open Go.Proofs Crc
set_option maxRecDepth 100000
theorem W_at {p:Nat→AV} {s:Ptb} {n:Nat} (hn:n<13):(encW p s)[n+78]?=some (p n):=by
 unfold encW
 rw [List.getElem?_append_right (by rw [tabL_len];omega),tabL_len,show n+78 - 13*6=n by omega,List.getElem?_map,List.getElem?_range hn];rfl
theorem encW_len {p:Nat→AV} {s:Ptb}:(encW p s).length=91:=by simp [encW,tabL_len]
theorem famW_facts {s s':Ptb} {n:Nat} {p:Sg} (hn:n<13) (hp:s.sg n=some p):isNilA (encW (ptrs 1 s) s') (n+78)=false∧isPA 1 13 (encW (ptrs 1 s) s') (n+78)=true∧fkA 1 (encW (ptrs 1 s) s') (n+78)=n∧foA (encW (ptrs 1 s) s') (n+78)=0:=by
 have h:(encW (ptrs 1 s) s')[n+78]?=some (ptrO 1 n (s.sg n)):=W_at hn
 have e:=ptr_fam hn h (by rw [hp];rfl)
 exact ⟨by rw [ptr_nil h,hp];rfl,e.1,e.2.1,e.2.2⟩
theorem seenU_lay {s:Ptb} {c q:Nat} {x:Pc} {p:Sg} {s':Ptb} {E:Hp} (hq:14≤q) (h1:∀ j,s'.at_ j=if j=c then x else s.at_ j) (h2:∀ j,s'.sg j=if j=c then some p else s.sg j) (hE:E[q - 14]?=some (some ⟨1,encR p⟩)) :
  SeenQ tsR s' c q (some ⟨1,encW (fun j=>if j=c then .ptr (.rw q) 0 else ptrs 1 s j) (updC s c x)⟩::((List.range 13).map (fun n=>some ⟨1,rowA (setsL encR s) n⟩)++E)):=by
 refine ⟨by simp,?_,fun n hn=>?_⟩
 ·rw [List.getElem?_cons_zero]
  congr 3
  show encW _ _=encW _ _
  unfold encW
  congr 1
  ·refine tabL_congr fun a j _ _=>?_
   show fcell (if a=c then x else s.at_ a) _ j=fcell (s'.at_ a) _ j
   rw [h1 a]
  ·refine List.map_congr_left fun a _=>?_
   show (if a=c then AV.ptr (.rw q) 0 else ptrO 1 a (s.sg a))=match s'.sg a with | none=>.nilp | some _=>.ptr (.rw (if a=c then q else 1+a)) 0
   rw [h2 a]
   by_cases e:a=c
   ·simp only [if_pos e]
   ·simp only [if_neg e]
    cases s.sg a<;>rfl
 ·by_cases e:n=c
  ·rw [if_pos e]
   refine ⟨encR p,?_,fun p' hp'=>?_⟩
   ·rw [show q=(q - 1)+1 by omega,List.getElem?_cons_succ,List.getElem?_append_right (by simp;omega),List.length_map,List.length_range,show q - 1 - 13=q - 14 by omega]
    exact hE
   ·rw [h2 n,if_pos e] at hp'
    simp only [Option.some.injEq] at hp'
    rw [hp'];rfl
  ·rw [if_neg e]
   refine ⟨rowA (setsL encR s) n,?_,fun p' hp'=>?_⟩
   ·rw [Nat.add_comm 1 n,List.getElem?_cons_succ,List.getElem?_append_left (by simpa using hn),List.getElem?_map,List.getElem?_range hn];rfl
   ·rw [h2 n,if_neg e] at hp'
    rw [rowA_sets hn,hp'];rfl
theorem fu_loop (G:Nat→List AV) (B:Nat) {s:Ptb} (hw:Wf s) {n:Int} (hl:live s n=true):AWp (⟨Try.prog,G,B⟩:Ctx) 14 (.loop (loopN Try.f41 0)) (fl 61 [0,1,4,5,7] [.ptr (.rw 0) 0,.int .i64 n,.int .i64 0,.int .i64 0,.int .i64 1]) (vHp G (hp3 [some ⟨1,.var 1 (encU 1 s)⟩] (.var 2 (setsL encR s)) [])) (lv 61 [0,1,4,5,7] (LOut.post G 14 (.tst (.var 9 (decide (lowF s≤12))) (.one .ret [.undef,.undef,.int .i64 (.ofN (.var 6 (lowF s))),.int .i64 (.lit 0),.undef] (hp3 [some ⟨1,.var 21 (encW (fun j=>if j=lowF s then .ptr (.rw 14) 0 else ptrs 1 s j) (updC s (lowF s) (forkP s n (lowF s))))⟩] (.var 2 (setsL encR s)) [some ⟨1,.var 23 (encR (childOf (sgD s n.toNat)))⟩])) (.one (.exit 0) [.undef,.undef,.int .i64 (.lit 0),.int .i64 (.lit 0),.undef] (hp3 [some ⟨1,.var 1 (encU 1 s)⟩] (.var 2 (setsL encR s)) []))))):=by
 refine scanP (fun i=>∀ j,j<i→isP s ((j:Int)+1)=true) 12 (fun i=>[.ptr (.rw 0) 0,.int .i64 n,.int .i64 0,.int .i64 0,.int .i64 ((i+1:Nat):Int)]) (fun _=>vHp G (hp3 [some ⟨1,.var 1 (encU 1 s)⟩] (.var 2 (setsL encR s)) [])) (fun j h=>by omega) fun i hi hP=>?_
 refine dloop_ok (C:=(⟨Try.prog,G,B⟩:Ctx)) (K:=Df Try.prog [(75,1,13)] [67,60] [(68,fChildS sideD)] [] 0) (by rw [show loopsOf (loopN Try.f41 0)=[] by kernel_rfl];exact dgoodf (mix G B) (by kernel_rfl) (.cons (fChildS_ok (sideD_ok G) (r_child' G B)) .nil) .nil) (fuel:=300) (n0:=40) (m:=14) (c:=loopN Try.f41 0)
  (vs:=[.ptr (.rw 0) (.lit 0),.int .i64 (.var 3 n),.int .i64 (.lit 0),.int .i64 (.lit 0),.int .i64 (.ofN (.var 8 (i+1)))]) (H:=(hp3 [some ⟨1,.var 1 (encU 1 s)⟩] (.var 2 (setsL encR s)) [])) (Nat.le_of_ble_eq_true rfl) ?_
 unfold sideD
 rw [fu_b]
 have hlv:=live_iff.1 hl
 have low:i<12→isP s ((i:Int)+1)=false→lowF s=i+1:=fun h12 h0=>by
  unfold lowF
  have:=find_at (l:=List.range 12) (p:=fun (j:Nat)=>!isP s ((j:Int)+1)) (i:=i) (by simpa using h12) (by simp [h0]) (fun j hj hji=>by
   simp only [List.getElem_range]
   rw [hP j hji];rfl)
  rw [this]
  simp
 refine ⟨fun h=>?_,fun h=>?_⟩
 ·have h12:i<12:=by have:=of_decide_eq_true h;omega
  have t:=U_num (b:=1) (s:=s) (n:=i+1) (by omega)
  have tg:=U_grp (b:=1) (s:=s) (n:=n.toNat) (by omega)
  have tu:=U_usr (b:=1) (s:=s) (n:=n.toNat) (by omega)
  have d0:decide ((0:Int)≤((i+1:Nat):Int))=true:=decide_eq_true (by omega)
  have d13:decide (((i+1:Nat):Int)<13)=true:=decide_eq_true (by omega)
  have dn0:decide ((0:Int)≤n)=true:=decide_eq_true (by omega)
  have dn13:decide (n<13)=true:=decide_eq_true (by omega)
  rw [t.2,tg.2,tu.2]
  have zP:(s.at_ (i+1)).num=0↔isP s ((i:Int)+1)=false:=by
   have:=hw.isP (i+1)
   rw [show ((i+1:Nat):Int)=(i:Int)+1 by omega] at this
   constructor
   ·intro h
    cases e:isP s ((i:Int)+1) with
    | false=>rfl
    | true=>exact absurd h (this.1 e)
   ·intro h
    apply Decidable.byContradiction
    intro h2
    rw [this.2 h2] at h;cases h
  refine ⟨d0,d13,t.1,fun h2=>?_,fun h2=>⟨h12,fun j hj=>?_,.inl ⟨?_,rfl⟩⟩⟩
  ·have h2:=eq_of_beq h2
   have eL:=low h12 (zP.1 h2)
   obtain ⟨p,hp⟩:=(hw.there (n:=n.toNat) (by omega)).2.2.2
   have ed:sgD s n.toNat=p:=by unfold sgD;rw [hp];rfl
   have er:=W_row (p:=ptrs 1 s) (n:=i+1) (s:=s) (x:=forkP s n (i+1)) (by omega)
   have er2:setPart (encU 1 s) ((i+1)*6) (.agg [.int .i64 ((i+1:Nat):Int),.int .i64 n,.int .i64 (s.at_ n.toNat).grp,.int .i64 (s.at_ n.toNat).usr,.bool false,.int .i64 0])=encW (ptrs 1 s) (updC s (i+1) (forkP s n (i+1))):=er
   obtain ⟨f1,f2,f3,f4⟩:=famW_facts (s:=s) (s':=updC s (i+1) (forkP s n (i+1))) (n:=n.toNat) (by omega) hp
   have f5:rowA (setsL encR s) n.toNat=encR p:=by rw [rowA_sets (by omega),hp];rfl
   rw [er2,f3,f4,f5,toPU_enc,childU_enc,encRU_enc,W_ptr (by omega) (by intro l h;cases h)]
   refine ⟨dn0,dn13,tg.1,dn0,dn13,tu.1,d0,d13,leB_iff.2 (by rw [encU_len];omega),dn0,dn13,(fun h=>by rw [f1] at h;cases h),fun _=>⟨f2,rfl,leB_iff.2 (by omega),rowsA_same _ 13,leB_iff.2 (by rw [setsL_len];omega),okRd_enc p,d0,d13,leB_iff.2 (by rw [encW_len];omega),?_⟩⟩
   refine .inl ⟨decide_eq_true (by omega),rfl,.inl ⟨?_,?_⟩⟩
   ·simp only [vVs,vV,vI,vN,eL];simp [wk]
   ·rw [eL,ed];rfl
  ·by_cases e:j=i
   ·subst e
    cases e2:isP s ((j:Int)+1) with
    | true=>rfl
    | false=>rw [zP.2 e2] at h2;cases h2
   ·exact hP j (by omega)
  ·rw [i64_in (by omega)];rfl
 ·have he:i=12:=by have:=of_decide_eq_false h;omega
  subst he
  have eL:lowF s=13:=by
   unfold lowF
   rw [find_none fun j hj=>by
    simp only [List.length_range] at hj
    simp only [List.getElem_range]
    rw [hP j hj];rfl]
   rfl
  refine .inr ⟨decide_eq_false (by omega),rfl,.inl ⟨by simp [wk,vVs,vV,vI],rfl⟩⟩
theorem dgFu (G:Nat→List AV) (B:Nat) {s:Ptb} (hw:Wf s) (n:Int) (q:List AV→Bool) (hl:DLoopOk (⟨Try.prog,G,B⟩:Ctx) 14 (loopN Try.f41 0) (DLat 2375 q 0 61 [0,1,4,5,7] (.tst (.var 9 (decide (lowF s≤12))) (.one .ret [.undef,.undef,.int .i64 (.ofN (.var 6 (lowF s))),.int .i64 (.lit 0),.undef] (hp3 [some ⟨1,.var 21 (encW (fun j=>if j=lowF s then .ptr (.rw 14) 0 else ptrs 1 s j) (updC s (lowF s) (forkP s n (lowF s))))⟩] (.var 2 (setsL encR s)) [some ⟨1,.var 23 (encR (childOf (sgD s n.toNat)))⟩])) (.one (.exit 0) [.undef,.undef,.int .i64 (.lit 0),.int .i64 (.lit 0),.undef] (hp3 [some ⟨1,.var 1 (encU 1 s)⟩] (.var 2 (setsL encR s)) []))))):DGood (⟨Try.prog,G,B⟩:Ctx) (Dc Try.prog [67,60] [] [DLat 2375 q 0 61 [0,1,4,5,7] (.tst (.var 9 (decide (lowF s≤12))) (.one .ret [.undef,.undef,.int .i64 (.ofN (.var 6 (lowF s))),.int .i64 (.lit 0),.undef] (hp3 [some ⟨1,.var 21 (encW (fun j=>if j=lowF s then .ptr (.rw 14) 0 else ptrs 1 s j) (updC s (lowF s) (forkP s n (lowF s))))⟩] (.var 2 (setsL encR s)) [some ⟨1,.var 23 (encR (childOf (sgD s n.toNat)))⟩])) (.one (.exit 0) [.undef,.undef,.int .i64 (.lit 0),.int .i64 (.lit 0),.undef] (hp3 [some ⟨1,.var 1 (encU 1 s)⟩] (.var 2 (setsL encR s)) [])))] 14) (loopsOf (bodyOf Try.f41)):=
 dgood (mix G B) (by kernel_rfl) .nil (.cast (.cons (i:=0) (by kernel_rfl) rfl hl .nil) (by kernel_rfl))
theorem r_forkQ (G:Nat→List AV) (B:Nat) {s:Ptb} (hw:Wf s) (n:Int) (q:List AV→Bool) (hl:DLoopOk (⟨Try.prog,G,B⟩:Ctx) 14 (loopN Try.f41 0) (DLat 2375 q 0 61 [0,1,4,5,7] (.tst (.var 9 (decide (lowF s≤12))) (.one .ret [.undef,.undef,.int .i64 (.ofN (.var 6 (lowF s))),.int .i64 (.lit 0),.undef] (hp3 [some ⟨1,.var 21 (encW (fun j=>if j=lowF s then .ptr (.rw 14) 0 else ptrs 1 s j) (updC s (lowF s) (forkP s n (lowF s))))⟩] (.var 2 (setsL encR s)) [some ⟨1,.var 23 (encR (childOf (sgD s n.toNat)))⟩])) (.one (.exit 0) [.undef,.undef,.int .i64 (.lit 0),.int .i64 (.lit 0),.undef] (hp3 [some ⟨1,.var 1 (encU 1 s)⟩] (.var 2 (setsL encR s)) []))))) (hq:live s n=true→q [.agg [.ptr (.rw 0) 0,.int .i64 n,.int .i64 0,.int .i64 0,.int .i64 1],.agg (encHB (vHp G (hp3 [some ⟨1,.var 1 (encU 1 s)⟩] (.var 2 (setsL encR s)) [])))]=true):ACalls (⟨Try.prog,G,B⟩:Ctx) 41 [.ptr (.rw 0) 0,.int .i64 n] (can tsR s) fun v H'=>v=pairV (forkR s n).1∧H'=mov tsR (forkR s n).2:=by
 have h:=dcall_ok (C:=(⟨Try.prog,G,B⟩:Ctx)) (K:=Dc Try.prog [67,60] [] [DLat 2375 q 0 61 [0,1,4,5,7] (.tst (.var 9 (decide (lowF s≤12))) (.one .ret [.undef,.undef,.int .i64 (.ofN (.var 6 (lowF s))),.int .i64 (.lit 0),.undef] (hp3 [some ⟨1,.var 21 (encW (fun j=>if j=lowF s then .ptr (.rw 14) 0 else ptrs 1 s j) (updC s (lowF s) (forkP s n (lowF s))))⟩] (.var 2 (setsL encR s)) [some ⟨1,.var 23 (encR (childOf (sgD s n.toNat)))⟩])) (.one (.exit 0) [.undef,.undef,.int .i64 (.lit 0),.int .i64 (.lit 0),.undef] (hp3 [some ⟨1,.var 1 (encU 1 s)⟩] (.var 2 (setsL encR s)) [])))] 14) (fuel:=300) (n0:=40) (f:=41) (fn:=Try.f41) (args:=[.ptr (.rw 0) (.lit 0),.int .i64 (.var 3 n)]) (H:=(hp3 [some ⟨1,.var 1 (encU 1 s)⟩] (.var 2 (setsL encR s)) [])) (keep:=15)
  (R:=fun v H=>v=pairV (forkR s n).1∧(Seen tsR (forkR s n).2 13 H∨∃ c,SeenQ tsR (forkR s n).2 c 14 H∧14<H.length)) (dgFu G B hw n q hl) (by kernel_rfl) (by kernel_rfl) (by kernel_rfl) (by
  rw [fu_c]
  refine liveU_tree 1 (fun hl=>?_) fun hl=>?_
  ·refine ⟨hq hl,fun h1=>?_,fun h1=>?_⟩
   ·have h1:=of_decide_eq_true h1
    unfold forkR
    rw [if_pos hl,if_neg (by omega)]
    refine ⟨rfl,.inr ⟨(lowF s),?_,by simp [rows13]⟩⟩
    exact seenU_lay (s:=s) (c:=(lowF s)) (q:=14) (x:=forkP s n (lowF s)) (p:=childOf (sgD s n.toNat)) (s':=forkX s n (lowF s)) (E:=[some ⟨1,encR (childOf (sgD s n.toNat))⟩]) (by omega) (fun j=>rfl) (fun j=>rfl) rfl
   ·have h1:=of_decide_eq_false h1
    unfold forkR
    rw [if_pos hl,if_pos (by omega)];exact ⟨rfl,.inl seenU_same⟩
  ·unfold forkR
   rw [hl];exact ⟨rfl,.inl seenU_same⟩)
 rw [hU] at h
 exact pm_move tsR_ok (q:=14) (by omega) h rfl
theorem r_fork (G:Nat→List AV) (B:Nat) {s:Ptb} (hw:Wf s) (n:Int):ACalls (⟨Try.prog,G,B⟩:Ctx) 41 [.ptr (.rw 0) 0,.int .i64 n] (can tsR s) fun v H'=>v=pairV (forkR s n).1∧H'=mov tsR (forkR s n).2:=by
 cases hc:live s n with
 | true=>exact r_forkQ G B hw n (isSt [.ptr (.rw 0) 0,.int .i64 n,.int .i64 0,.int .i64 0,.int .i64 1] (vHp G (hp3 [some ⟨1,.var 1 (encU 1 s)⟩] (.var 2 (setsL encR s)) []))) (DLat_okC rfl (fu_loop G B hw hc)) fun _=>isSt_refl
 | false=>exact r_forkQ G B hw n (fun _=>false) (DLat_ok (cb:=false) (vs0:=[.ptr (.rw 0) 0,.int .i64 n,.int .i64 0,.int .i64 0,.int .i64 1]) (H0:=[]) rfl fun h=>by cases h) fun h=>by rw [hc] at h;cases h
end Go.Am
namespace Go.Am
open Go.Proofs Crc
set_option maxRecDepth 100000
theorem tmod_256 (a:Int):Int.tmod (IntKind.wrap .i64 (Int.tmod a 256+256)) 256=a % 256:=by
 have h:-256<Int.tmod a 256∧Int.tmod a 256<256∧∃ q,a=Int.tmod a 256+256*q:=by
  refine ⟨?_,?_,⟨Int.tdiv a 256,(Int.tmod_add_mul_tdiv a 256).symm⟩⟩
  ·by_cases ha:0≤a
   ·have:=Int.tmod_nonneg 256 ha;omega
   ·have:=Int.tmod_nonneg 256 (a:=-a) (by omega)
    have h2:=Int.tmod_lt_of_pos (-a) (b:=256) (by omega)
    rw [Int.neg_tmod] at this h2;omega
  ·exact Int.tmod_lt_of_pos a (by omega)
 obtain ⟨h1,h2,q,h3⟩:=h
 rw [i64_in (by omega),Int.tmod_eq_emod_of_nonneg (by omega)]
 omega
section
variable {p:Nat→AV} {s:Ptb} {n:Nat}
theorem W_get {k:Nat} (hn:n<13) (hk:k<6):(encW p s)[n*6+k]?=some (fcell (s.at_ n) .undef k):=by
 unfold encW
 rw [List.getElem?_append_left (by rw [tabL_len];omega),tabL_get hn hk]
theorem W_num (hn:n<13):isI .i64 (encW p s) (n*6)=true∧getI (encW p s) (n*6)=(s.at_ n).num:=by
 have:=W_get (p:=p) (s:=s) (k:=0) hn (by omega)
 rw [Nat.add_zero] at this
 simp [isI,getI,this,fcell]
theorem W_par (hn:n<13):isI .i64 (encW p s) (n*6+1)=true∧getI (encW p s) (n*6+1)=(s.at_ n).par:=by simp [isI,getI,W_get (p:=p) (s:=s) (k:=1) hn (by omega),fcell]
theorem W_en (hn:n<13):isB (encW p s) (n*6+4)=true∧getB (encW p s) (n*6+4)=(s.at_ n).en:=by simp [isB,getB,W_get (p:=p) (s:=s) (k:=4) hn (by omega),fcell]
theorem W_set {k:Nat} {v:AV} {x:Pc} (hn:n<13) (hk:k<6) (hv:∀ l,v≠.agg l) (hx:∀ j,j<6→fcell x .undef j=if j=k then v else fcell (s.at_ n) .undef j) :
  setPart (encW p s) (n*6+k) v=encW p (updC s n x):=by
 rw [setPart_cell hv]
 unfold encW
 rw [List.set_append_left _ _ (by rw [tabL_len];omega),tabL_set (by omega)]
 congr 1
 refine tabL_congr fun a j _ hj=>?_
 show _=fcell (if a=n then x else s.at_ a) .undef j
 by_cases e:a=n
 ·subst e
  rw [if_pos rfl,hx j hj]
  by_cases e2:j=k
  ·rw [if_pos ⟨rfl,e2⟩,if_pos e2]
  ·rw [if_neg fun h=>e2 h.2,if_neg e2]
 ·rw [if_neg fun h=>e h.1,if_neg e]
end
theorem W_parU {s:Ptb} {q c:Nat} (hc:c<13):setPart (encW (ptC s q) s) (c*6+1) (.int .i64 1)=encW (ptC (parU s c) q) (parU s c):=
 W_set (p:=ptC s q) (n:=c) (k:=1) (s:=s) (x:={ s.at_ c with par:=1 }) hc (by omega) (by intro l h;cases h) fun j hj=>by
  match j,hj with
  | 0,_ | 1,_ | 2,_ | 3,_ | 4,_ | 5,_=>rfl
theorem W_freeU {s:Ptb} {q c:Nat} (hc:c<13):setPart (setPart (encW (ptC s q) s) (c*6) (.agg (rowU zc))) (c+78) .nilp=encW (ptC (freeX s c) q) (freeX s c):=by
 rw [W_row hc,W_ptr hc (by intro l h;cases h)]
 show encW _ _=encW _ _
 unfold encW
 congr 1
 refine List.map_congr_left fun a _=>?_
 show (if a=c then AV.nilp else ptC s q a)=ptC (freeX s c) q a
 unfold ptC
 show _=match (if a=c then none else s.sg a) with | none=>AV.nilp | some _=>_
 by_cases e:a=c
 ·simp only [if_pos e]
 ·simp only [if_neg e]
  cases s.sg a<;>rfl
theorem parL_at {s:Ptb} {c:Nat}:∀ {l:List Nat},c ∉ l→(parL s l).at_ c=s.at_ c:=by
 intro l
 induction l generalizing s with
 | nil=>intro _;rfl
 | cons x l ih=>
  intro h
  simp only [List.mem_cons,not_or] at h
  have:=ih (s:=parU s x) h.2
  show (parL (parU s x) l).at_ c=_
  rw [this]
  show (if c=x then _ else s.at_ c)=_
  rw [if_neg h.1]
theorem endL_at {s:Ptb} {c:Nat}:∀ {l:List Nat},c ∉ l→(endL s l).at_ c=s.at_ c:=by
 intro l
 induction l generalizing s with
 | nil=>intro _;rfl
 | cons x l ih=>
  intro h
  simp only [List.mem_cons,not_or] at h
  have:=ih (s:=endU s x) h.2
  show (endL (endU s x) l).at_ c=_
  rw [this]
  unfold endU
  split
  ·show (if c=x then zc else s.at_ c)=_
   rw [if_neg h.1]
  ·rfl
theorem parL_snoc {s:Ptb} {l:List Nat} {c:Nat}:parL s (l++[c])=parU (parL s l) c:=by
 unfold parL;rw [List.foldl_append];rfl
theorem endL_snoc {s:Ptb} {l:List Nat} {c:Nat}:endL s (l++[c])=endU (endL s l) c:=by
 unfold endL;rw [List.foldl_append];rfl
theorem kid_self {s:Ptb} {n:Int} {c:Nat}:c ∉ kidT s n c:=fun h=>absurd (kidT_mem h).1 (by omega)
theorem kid_one {s:Ptb} (hw:Wf s) (n:Int):kidT s n 1=[]:=by
 show List.filter (kidB s n) [0]=[]
 rw [List.filter_cons_of_neg,List.filter_nil]
 unfold kidB
 rw [(hw.z 0 (.inl rfl)).1];simp [zc]
theorem kidB_iff {s:Ptb} (hw:Wf s) {n:Int} (hn:1≤n) {c:Nat} (h1:1≤c):kidB s n c=true↔(s.at_ c).num=(c:Int)∧(s.at_ c).par=n:=by
 unfold kidB kidC
 simp only [Bool.and_eq_true,decide_eq_true_eq,beq_iff_eq]
 constructor
 ·rintro ⟨a,_,b⟩
  exact ⟨(hw.there (by omega)).1,b⟩
 ·rintro ⟨a,b⟩
  exact ⟨by omega,hn,b⟩
theorem eu0_loop (G:Nat→List AV) (B:Nat) {s:Ptb} (hw:Wf s) (q:Nat) (sl z:List AV) {n:Int} (hn:1≤n):AWp (⟨Try.prog,G,B⟩:Ctx) 14 (.loop (loopN Try.f42 0)) (fl 117 [0,1,8] [.ptr (.rw 0) 0,.int .i64 n,.int .i64 1]) (vHp G (hp3 [some ⟨1,.var 1 (encW (ptC s q) s)⟩] (.var 2 sl) [some ⟨1,.var 23 z⟩])) (lv 117 [0,1,8] (LOut.post G 14 (.one (.exit 0) [.ptr (.rw 0) (.lit 0),.undef,.undef] (hp3 [some ⟨1,.var 21 (encW (ptC (parL s (kidT s n 13)) q) (parL s (kidT s n 13)))⟩] (.var 2 sl) [some ⟨1,.var 23 z⟩])))):=by
 have h0:vHp G (hp3 [some ⟨1,.var 1 (encW (ptC s q) s)⟩] (.var 2 sl) [some ⟨1,.var 23 z⟩])=(fun i=>vHp G (hp3 [some ⟨1,.var 1 (encW (ptC (parL s (kidT s n (i+1))) q) (parL s (kidT s n (i+1))))⟩] (.var 2 sl) [some ⟨1,.var 23 z⟩])) 0:=by
  show vHp G (hp3 [some ⟨1,.var 1 (encW (ptC s q) s)⟩] (.var 2 sl) [some ⟨1,.var 23 z⟩])=vHp G (hp3 [some ⟨1,.var 1 (encW (ptC (parL s (kidT s n 1)) q) (parL s (kidT s n 1)))⟩] (.var 2 sl) [some ⟨1,.var 23 z⟩])
  rw [kid_one hw n];rfl
 rw [h0]
 refine scan 12 (fun i=>[.ptr (.rw 0) 0,.int .i64 n,.int .i64 ((i+1:Nat):Int)]) (fun i=>vHp G (hp3 [some ⟨1,.var 1 (encW (ptC (parL s (kidT s n (i+1))) q) (parL s (kidT s n (i+1))))⟩] (.var 2 sl) [some ⟨1,.var 23 z⟩])) fun i hi=>?_
 refine dloop_ok (C:=(⟨Try.prog,G,B⟩:Ctx)) (K:=Dc Try.prog [] [] [] 0) (dgood (mix G B) (by kernel_rfl) .nil .nil) (fuel:=300) (n0:=40) (m:=14) (c:=loopN Try.f42 0)
  (vs:=[.ptr (.rw 0) (.lit 0),.int .i64 (.var 3 n),.int .i64 (.ofN (.var 8 (i+1)))]) (H:=(hp3 [some ⟨1,.var 1 (encW (ptC (parL s (kidT s n (i+1))) q) (parL s (kidT s n (i+1))))⟩] (.var 2 sl) [some ⟨1,.var 23 z⟩])) (Nat.le_of_ble_eq_true rfl) ?_
 rw [eu_l0]
 refine ⟨fun h=>?_,fun h=>?_⟩
 ·have h12:i<12:=by have:=of_decide_eq_true h;omega
  have tn:=W_num (p:=ptC (parL s (kidT s n (i+1))) q) (s:=parL s (kidT s n (i+1))) (n:=i+1) (by omega)
  have tp:=W_par (p:=ptC (parL s (kidT s n (i+1))) q) (s:=parL s (kidT s n (i+1))) (n:=i+1) (by omega)
  rw [parL_at kid_self] at tn tp
  have d0:decide ((0:Int)≤((i+1:Nat):Int))=true:=decide_eq_true (by omega)
  have d13:decide (((i+1:Nat):Int)<13)=true:=decide_eq_true (by omega)
  have ew:IntKind.wrap .i64 (((i+1:Nat):Int)+1)=((i+1+1:Nat):Int):=by rw [i64_in (by omega)];rfl
  have no:kidB s n (i+1)=false→kidT s n (i+1+1)=kidT s n (i+1):=fun h=>by
   rw [kidT_succ s n (i+1),h];simp
  rw [tn.2,tp.2,ew,W_parU (by omega)]
  refine ⟨d0,d13,tn.1,fun h1=>⟨d0,d13,tp.1,fun h2=>⟨d0,d13,leB_iff.2 (by rw [encW_len];omega),h12,.inl ⟨rfl,?_⟩⟩,fun h2=>⟨h12,.inl ⟨rfl,?_⟩⟩⟩,fun h1=>⟨h12,.inl ⟨rfl,?_⟩⟩⟩
  ·have e:kidT s n (i+1+1)=kidT s n (i+1)++[i+1]:=by
    rw [kidT_succ s n (i+1),(kidB_iff hw hn (by omega)).2 ⟨eq_of_beq h1,eq_of_beq h2⟩];rfl
   rw [e,parL_snoc];rfl
  ·rw [no]
   ·rfl
   ·cases e:kidB s n (i+1) with
    | false=>rfl
    | true=>
     have:=((kidB_iff hw hn (by omega)).1 e).2
     rw [this,beq_self_eq_true] at h2;cases h2
  ·rw [no]
   ·rfl
   ·cases e:kidB s n (i+1) with
    | false=>rfl
    | true=>
     have:=((kidB_iff hw hn (by omega)).1 e).1
     rw [this,beq_self_eq_true] at h1;cases h1
 ·have he:i=12:=by have:=of_decide_eq_false h;omega
  subst he
  exact ⟨rfl,.inl ⟨by simp [wk,vVs,vV,vR,vN,vI],rfl⟩⟩
def enL (s:Ptb) (l:List Nat):Ptb:=if (s.at_ 1).en=true then endL s l else s
theorem eu2_loop (G:Nat→List AV) (B:Nat) {s:Ptb} (hw:Wf s) (q:Nat) (sl z:List AV):AWp (⟨Try.prog,G,B⟩:Ctx) 14 (.loop (loopN Try.f42 1)) (fl 117 [0,9] [.ptr (.rw 0) 0,.int .i64 1]) (vHp G (hp3 [some ⟨1,.var 1 (encW (ptC s q) s)⟩] (.var 2 sl) [some ⟨1,.var 23 z⟩])) (lv 117 [0,9] (LOut.post G 14 (.one (.exit 2) [.ptr (.rw 0) (.lit 0),.undef] (hp3 [some ⟨1,.var 26 (encW (ptC (enL s (kidT s 1 13)) q) (enL s (kidT s 1 13)))⟩] (.var 2 sl) [some ⟨1,.var 23 z⟩])))):=by
 have h0:vHp G (hp3 [some ⟨1,.var 1 (encW (ptC s q) s)⟩] (.var 2 sl) [some ⟨1,.var 23 z⟩])=(fun i=>vHp G (hp3 [some ⟨1,.var 1 (encW (ptC (enL s (kidT s 1 (i+1))) q) (enL s (kidT s 1 (i+1))))⟩] (.var 2 sl) [some ⟨1,.var 23 z⟩])) 0:=by
  have e:enL s (kidT s 1 1)=s:=by rw [kid_one hw 1];unfold enL;split<;>rfl
  show vHp G (hp3 [some ⟨1,.var 1 (encW (ptC s q) s)⟩] (.var 2 sl) [some ⟨1,.var 23 z⟩])=vHp G (hp3 [some ⟨1,.var 1 (encW (ptC (enL s (kidT s 1 1)) q) (enL s (kidT s 1 1)))⟩] (.var 2 sl) [some ⟨1,.var 23 z⟩])
  rw [e]
 rw [h0]
 refine scan 12 (fun i=>[.ptr (.rw 0) 0,.int .i64 ((i+1:Nat):Int)]) (fun i=>vHp G (hp3 [some ⟨1,.var 1 (encW (ptC (enL s (kidT s 1 (i+1))) q) (enL s (kidT s 1 (i+1))))⟩] (.var 2 sl) [some ⟨1,.var 23 z⟩])) fun i hi=>?_
 refine dloop_ok (C:=(⟨Try.prog,G,B⟩:Ctx)) (K:=Dc Try.prog [69] [] [] 0) (dgood (mix G B) (by kernel_rfl) .nil .nil) (fuel:=300) (n0:=40) (m:=14) (c:=loopN Try.f42 1)
  (vs:=[.ptr (.rw 0) (.lit 0),.int .i64 (.ofN (.var 8 (i+1)))]) (H:=(hp3 [some ⟨1,.var 1 (encW (ptC (enL s (kidT s 1 (i+1))) q) (enL s (kidT s 1 (i+1))))⟩] (.var 2 sl) [some ⟨1,.var 23 z⟩])) (Nat.le_of_ble_eq_true rfl) ?_
 rw [eu_l2]
 have at_:∀ c,c ∉ kidT s 1 (i+1)→(enL s (kidT s 1 (i+1))).at_ c=s.at_ c:=fun c hc=>by
  unfold enL
  split
  ·exact endL_at hc
  ·rfl
 have one:(1:Nat) ∉ kidT s 1 (i+1):=fun h=>kidT_ne1 hw h rfl
 refine ⟨fun h=>?_,fun h=>?_⟩
 ·have h12:i<12:=by have:=of_decide_eq_true h;omega
  have t1:=W_en (p:=ptC (enL s (kidT s 1 (i+1))) q) (s:=(enL s (kidT s 1 (i+1)))) (n:=1) (by omega)
  have tn:=W_num (p:=ptC (enL s (kidT s 1 (i+1))) q) (s:=(enL s (kidT s 1 (i+1)))) (n:=i+1) (by omega)
  have tp:=W_par (p:=ptC (enL s (kidT s 1 (i+1))) q) (s:=(enL s (kidT s 1 (i+1)))) (n:=i+1) (by omega)
  have te:=W_en (p:=ptC (enL s (kidT s 1 (i+1))) q) (s:=(enL s (kidT s 1 (i+1)))) (n:=i+1) (by omega)
  rw [at_ _ kid_self] at tn tp te
  rw [at_ _ one] at t1
  have d0:decide ((0:Int)≤((i+1:Nat):Int))=true:=decide_eq_true (by omega)
  have d13:decide (((i+1:Nat):Int)<13)=true:=decide_eq_true (by omega)
  have ew:IntKind.wrap .i64 (((i+1:Nat):Int)+1)=((i+1+1:Nat):Int):=by rw [i64_in (by omega)];rfl
  have er:=W_freeU (s:=(enL s (kidT s 1 (i+1)))) (q:=q) (c:=i+1) (by omega)
  have er1:=W_row (p:=ptC (enL s (kidT s 1 (i+1))) q) (n:=i+1) (s:=(enL s (kidT s 1 (i+1)))) (x:=zc) (by omega)
  unfold rowU zc at er er1
  have g1:getB (encW (ptC (enL s (kidT s 1 (i+1))) q) (enL s (kidT s 1 (i+1)))) 10=(s.at_ 1).en:=t1.2
  rw [tn.2,tp.2,te.2,g1,ew,er,er1]
  refine ⟨t1.1,fun hE=>?_,fun hE=>?_⟩
  ·have no:kidB s 1 (i+1)=false∨(s.at_ (i+1)).en=false→enL s (kidT s 1 (i+1+1))=(enL s (kidT s 1 (i+1))):=fun h=>by
    cases hk:kidB s 1 (i+1) with
    | false=>rw [kidT_succ s 1 (i+1),hk];simp
    | true=>
     rcases h with h | h
     ·rw [hk] at h;cases h
     ·rw [kidT_succ s 1 (i+1),hk]
      unfold enL
      rw [if_pos hE,if_pos hE]
      show endL s (kidT s 1 (i+1)++[i+1])=_
      rw [endL_snoc]
      unfold endU
      rw [if_neg]
      rw [endL_at kid_self,h];simp
   have next:∀ e2:Ptb,enL s (kidT s 1 (i+1+1))=e2→(i<12∧(([.ptr (.rw 0) 0,.int .i64 ((i+1+1:Nat):Int)]:List AV)=[.ptr (.rw 0) 0,.int .i64 ((i+1+1:Nat):Int)]∧([some (⟨1,encW (ptC e2 q) e2⟩:Blk)]++(rows13 sl++[some ⟨1,z⟩]))=vHp G (hp3 [some ⟨1,.var 1 (encW (ptC (enL s (kidT s 1 (i+1+1))) q) (enL s (kidT s 1 (i+1+1))))⟩] (.var 2 sl) [some ⟨1,.var 23 z⟩]))):=fun e2 h=>⟨h12,rfl,by rw [h];rfl⟩
   have nn:kidB s 1 (i+1)=false∨(s.at_ (i+1)).en=false→_:=fun h=>next _ (no h)
   have kb:¬((s.at_ (i+1)).num=((i+1:Nat):Int)∧(s.at_ (i+1)).par=1)→kidB s 1 (i+1)=false:=fun h=>by
    cases e:kidB s 1 (i+1) with
    | false=>rfl
    | true=>exact absurd ((kidB_iff hw (by omega) (by omega)).1 e) h
   refine ⟨d0,d13,tn.1,fun h1=>⟨d0,d13,te.1,fun h2=>⟨d0,d13,tp.1,fun h3=>⟨d0,d13,leB_iff.2 (by rw [encW_len];omega),d0,d13,leB_iff.2 (by rw [encW_len];omega),?_⟩,fun h3=>?_⟩,fun h2=>?_⟩,fun h1=>?_⟩
   ·have e:enL s (kidT s 1 (i+1+1))=freeX (enL s (kidT s 1 (i+1))) (i+1):=by
     have hk:=(kidB_iff hw (n:=1) (by omega) (c:=i+1) (by omega)).2 ⟨eq_of_beq h1,eq_of_beq h3⟩
     rw [kidT_succ s 1 (i+1),hk]
     unfold enL
     rw [if_pos hE,if_pos hE]
     show endL s (kidT s 1 (i+1)++[i+1])=_
     rw [endL_snoc]
     unfold endU
     rw [if_pos]
     rw [endL_at kid_self,h2]
    exact ⟨(next _ e).1,.inl (next _ e).2⟩
   ·have h:=nn (.inl (kb fun hh=>by rw [hh.2,beq_self_eq_true] at h3;cases h3))
    exact ⟨h.1,.inl h.2⟩
   ·have h:=nn (.inr h2)
    exact ⟨h.1,.inl h.2⟩
   ·have h:=nn (.inl (kb fun hh=>by rw [hh.1,beq_self_eq_true] at h1;cases h1))
    exact ⟨h.1,.inl h.2⟩
  ·have e:∀ l,enL s l=s:=fun l=>by unfold enL;rw [if_neg (by rw [hE];simp)]
   refine ⟨rfl,.inl ⟨by simp [wk,vVs,vV,vR,vN,vI],?_⟩⟩
   rw [e,e];rfl
 ·have he:i=12:=by have:=of_decide_eq_false h;omega
  subst he
  exact ⟨rfl,.inl ⟨by simp [wk,vVs,vV,vR,vN,vI],rfl⟩⟩
theorem encW_end {s:Ptb} {n:Nat} {a:Int} (hn:n<13):setPart (setPart (setPart (encU 1 s) (n*6+4) (.bool true)) (n*6+5) (.int .i64 (a % 256))) (n+78) (.ptr (.rw 14) 0)=encW (ptC (endS s n a) n) (endS s n a):=by
 rw [encU_W,W_set (n:=n) (k:=4) (s:=s) (x:={ s.at_ n with en:=true }) hn (by omega) (by intro l h;cases h) (fun j hj=>by
  match j,hj with
  | 0,_ | 1,_ | 2,_ | 3,_ | 4,_ | 5,_=>rfl),W_set (n:=n) (k:=5) (x:={ s.at_ n with en:=true,st:=a % 256 }) hn (by omega) (by intro l h;cases h) (fun j hj=>by
  show _=if j=5 then _ else fcell (if n=n then _ else s.at_ n) .undef j
  rw [if_pos rfl]
  match j,hj with
  | 0,_ | 1,_ | 2,_ | 3,_ | 4,_ | 5,_=>rfl),W_ptr hn (by intro l h;cases h)]
 unfold encW
 congr 1
 ·refine tabL_congr fun b j _ _=>?_
  show fcell (if b=n then _ else if b=n then _ else s.at_ b) _ j=fcell (if b=n then _ else s.at_ b) _ j
  by_cases e:b=n
  ·subst e;simp only [if_pos]
  ·simp only [if_neg e]
 ·refine List.map_congr_left fun b _=>?_
  show (if b=n then _ else ptrO 1 b (s.sg b))=(match (if b=n then some (childOf (sgD s n)) else s.sg b) with | none=>AV.nilp | some _=>AV.ptr (.rw (if b=n then 14 else 1+b)) 0)
  by_cases e:b=n
  ·simp only [if_pos e]
  ·simp only [if_neg e]
   cases s.sg b<;>rfl
theorem seenU_end {s s':Ptb} {n:Nat} {E:Hp} (h1:∀ j p,s'.sg j=some p→(if j=n then some (childOf (sgD s n)) else s.sg j)=some p) :
  SeenQ tsR s' n 14 (some ⟨1,encW (ptC s' n) s'⟩::((List.range 13).map (fun n=>some ⟨1,rowA (setsL encR s) n⟩)++(some ⟨1,encR (childOf (sgD s n))⟩::E))):=by
 refine ⟨by simp,rfl,fun j hj=>?_⟩
 by_cases e:j=n
 ·rw [if_pos e]
  refine ⟨_,by rw [show (14:Nat)=13+1 from rfl,List.getElem?_cons_succ,List.getElem?_append_right (by simp),List.length_map,List.length_range];rfl,fun p hp=>?_⟩
  have:=h1 j p hp
  rw [if_pos e] at this
  simp only [Option.some.injEq] at this
  rw [this];rfl
 ·rw [if_neg e]
  refine ⟨rowA (setsL encR s) j,?_,fun p hp=>?_⟩
  ·rw [Nat.add_comm 1 j,List.getElem?_cons_succ,List.getElem?_append_left (by simpa using hj),List.getElem?_map,List.getElem?_range hj];rfl
  ·have:=h1 j p hp
   rw [if_neg e] at this
   rw [rowA_sets hj,this];rfl
theorem endR_enL {s:Ptb} (hw:Wf s) {n:Int} (hl:live s n=true) (a:Int):endR s n a=(0,(enL (endP s n a) (kidT (endP s n a) 1 13))):=by
 unfold endR
 rw [if_pos hl]
 have w2:=hw.endP hl a
 have e:live (endP s n a) 1=!((endP s n a).at_ 1).en:=by
  unfold live
  rw [isP_iff.2 ⟨by omega,by omega,w2.one.1⟩];rfl
 unfold enL
 rw [e]
 cases ((endP s n a).at_ 1).en<;>rfl
theorem dgEu (G:Nat→List AV) (B:Nat) {s:Ptb} (n a:Int) (q q':List AV→Bool) (h1:DLoopOk (⟨Try.prog,G,B⟩:Ctx) 14 (loopN Try.f42 0) (DLat 2376 q 0 117 [0,1,8] (.one (.exit 0) [.ptr (.rw 0) (.lit 0),.undef,.undef] (hp3 [some ⟨1,.var 21 (encW (ptC (endP s n a) n.toNat) (endP s n a))⟩] (.var 2 (setsL encR s)) [some ⟨1,.var 23 (encR (childOf (sgD s n.toNat)))⟩])))) (h2:DLoopOk (⟨Try.prog,G,B⟩:Ctx) 14 (loopN Try.f42 1) (DLat 2377 q' 2 117 [0,9] (.one (.exit 2) [.ptr (.rw 0) (.lit 0),.undef] (hp3 [some ⟨1,.var 26 (encW (ptC (enL (endP s n a) (kidT (endP s n a) 1 13)) n.toNat) (enL (endP s n a) (kidT (endP s n a) 1 13)))⟩] (.var 2 (setsL encR s)) [some ⟨1,.var 23 (encR (childOf (sgD s n.toNat)))⟩])))):DGood (⟨Try.prog,G,B⟩:Ctx) (Df Try.prog [(75,1,13)] [67,60] [(68,fChildS sideD)] [DLat 2376 q 0 117 [0,1,8] (.one (.exit 0) [.ptr (.rw 0) (.lit 0),.undef,.undef] (hp3 [some ⟨1,.var 21 (encW (ptC (endP s n a) n.toNat) (endP s n a))⟩] (.var 2 (setsL encR s)) [some ⟨1,.var 23 (encR (childOf (sgD s n.toNat)))⟩])),DLat 2377 q' 2 117 [0,9] (.one (.exit 2) [.ptr (.rw 0) (.lit 0),.undef] (hp3 [some ⟨1,.var 26 (encW (ptC (enL (endP s n a) (kidT (endP s n a) 1 13)) n.toNat) (enL (endP s n a) (kidT (endP s n a) 1 13)))⟩] (.var 2 (setsL encR s)) [some ⟨1,.var 23 (encR (childOf (sgD s n.toNat)))⟩]))] 14) (loopsOf (bodyOf Try.f42)):=by
 refine dgoodf (mix G B) (by kernel_rfl) (.cons (fChildS_ok (sideD_ok G) (r_child' G B)) .nil) ?_
 rw [show loopsOf (bodyOf Try.f42)=[loopN Try.f42 0,loopN Try.f42 1] by kernel_rfl]
 exact .cons (i:=0) (by kernel_rfl) rfl h1 (.cons (i:=2) (by kernel_rfl) rfl h2 .nil)
theorem r_endQ (G:Nat→List AV) (B:Nat) {s:Ptb} (hw:Wf s) (n a:Int) (q q':List AV→Bool) (g1:DLoopOk (⟨Try.prog,G,B⟩:Ctx) 14 (loopN Try.f42 0) (DLat 2376 q 0 117 [0,1,8] (.one (.exit 0) [.ptr (.rw 0) (.lit 0),.undef,.undef] (hp3 [some ⟨1,.var 21 (encW (ptC (endP s n a) n.toNat) (endP s n a))⟩] (.var 2 (setsL encR s)) [some ⟨1,.var 23 (encR (childOf (sgD s n.toNat)))⟩])))) (g2:DLoopOk (⟨Try.prog,G,B⟩:Ctx) 14 (loopN Try.f42 1) (DLat 2377 q' 2 117 [0,9] (.one (.exit 2) [.ptr (.rw 0) (.lit 0),.undef] (hp3 [some ⟨1,.var 26 (encW (ptC (enL (endP s n a) (kidT (endP s n a) 1 13)) n.toNat) (enL (endP s n a) (kidT (endP s n a) 1 13)))⟩] (.var 2 (setsL encR s)) [some ⟨1,.var 23 (encR (childOf (sgD s n.toNat)))⟩]))))
  (hq:live s n=true→q [.agg [.ptr (.rw 0) 0,.int .i64 n,.int .i64 1],.agg (encHB (vHp G (hp3 [some ⟨1,.var 1 (encW (ptC (endS s n.toNat a) n.toNat) (endS s n.toNat a))⟩] (.var 2 (setsL encR s)) [some ⟨1,.var 23 (encR (childOf (sgD s n.toNat)))⟩])))]=true∧q' [.agg [.ptr (.rw 0) 0,.int .i64 1],.agg (encHB (vHp G (hp3 [some ⟨1,.var 1 (encW (ptC (endP s n a) n.toNat) (endP s n a))⟩] (.var 2 (setsL encR s)) [some ⟨1,.var 23 (encR (childOf (sgD s n.toNat)))⟩])))]=true):ACalls (⟨Try.prog,G,B⟩:Ctx) 42 [.ptr (.rw 0) 0,.int .i64 n,.int .i64 a] (can tsR s) fun v H'=>v=.int .i64 (endR s n a).1∧H'=mov tsR (endR s n a).2:=by
 have h:=dcall_ok (C:=(⟨Try.prog,G,B⟩:Ctx)) (K:=Df Try.prog [(75,1,13)] [67,60] [(68,fChildS sideD)] [DLat 2376 q 0 117 [0,1,8] (.one (.exit 0) [.ptr (.rw 0) (.lit 0),.undef,.undef] (hp3 [some ⟨1,.var 21 (encW (ptC (endP s n a) n.toNat) (endP s n a))⟩] (.var 2 (setsL encR s)) [some ⟨1,.var 23 (encR (childOf (sgD s n.toNat)))⟩])),DLat 2377 q' 2 117 [0,9] (.one (.exit 2) [.ptr (.rw 0) (.lit 0),.undef] (hp3 [some ⟨1,.var 26 (encW (ptC (enL (endP s n a) (kidT (endP s n a) 1 13)) n.toNat) (enL (endP s n a) (kidT (endP s n a) 1 13)))⟩] (.var 2 (setsL encR s)) [some ⟨1,.var 23 (encR (childOf (sgD s n.toNat)))⟩]))] 14) (fuel:=300) (n0:=40) (f:=42) (fn:=Try.f42) (args:=[.ptr (.rw 0) (.lit 0),.int .i64 (.var 3 n),.int .i64 (.var 4 a)]) (H:=(hp3 [some ⟨1,.var 1 (encU 1 s)⟩] (.var 2 (setsL encR s)) [])) (keep:=15)
  (R:=fun v H=>v=.int .i64 (endR s n a).1∧(Seen tsR (endR s n a).2 13 H∨∃ c,SeenQ tsR (endR s n a).2 c 14 H∧14<H.length)) (dgEu G B n a q q' g1 g2) (by kernel_rfl) (by kernel_rfl) (by kernel_rfl) (by
  unfold sideD
  rw [eu_c]
  refine liveU_tree 1 (fun hl=>?_) fun hl=>?_
  ·have h:=live_iff.1 hl
   obtain ⟨p,hp⟩:=(hw.there (n:=n.toNat) (by omega)).2.2.2
   have ed:sgD s n.toNat=p:=by unfold sgD;rw [hp];rfl
   have f5:rowA (setsL encR s) n.toNat=encR p:=by rw [rowA_sets (by omega),hp];rfl
   have es:setPart (setPart (encU 1 s) (n.toNat*6+4) (.bool true)) (n.toNat*6+5) (.int .i64 (a % 256))=encW (ptrs 1 s) (updC (updC s n.toNat { s.at_ n.toNat with en:=true }) n.toNat { s.at_ n.toNat with en:=true,st:=a % 256 }):=by
    rw [encU_W,W_set (n:=n.toNat) (k:=4) (s:=s) (x:={ s.at_ n.toNat with en:=true }) (by omega) (by omega) (by intro l h;cases h) (fun j hj=>by
     match j,hj with
     | 0,_ | 1,_ | 2,_ | 3,_ | 4,_ | 5,_=>rfl),W_set (n:=n.toNat) (k:=5) (x:={ s.at_ n.toNat with en:=true,st:=a % 256 }) (by omega) (by omega) (by intro l h;cases h) (fun j hj=>by
     show _=if j=5 then _ else fcell (if n.toNat=n.toNat then _ else s.at_ n.toNat) .undef j
     rw [if_pos rfl]
     match j,hj with
     | 0,_ | 1,_ | 2,_ | 3,_ | 4,_ | 5,_=>rfl)]
    rfl
   have ew:=encW_end (s:=s) (n:=n.toNat) (a:=a) (by omega)
   rw [tmod_256,ew,es]
   obtain ⟨f1,f2,f3,f4⟩:=famW_facts (s:=s) (s':=updC (updC s n.toNat { s.at_ n.toNat with en:=true }) n.toNat { s.at_ n.toNat with en:=true,st:=a % 256 }) (n:=n.toNat) (by omega) hp
   rw [f3,f4,f5,toPU_enc,childU_enc,encRU_enc]
   have dn0:decide ((0:Int)≤n)=true:=decide_eq_true (by omega)
   have dn13:decide (n<13)=true:=decide_eq_true (by omega)
   have ez:encR (setW p 0#32)=(encR (childOf (sgD s n.toNat))):=by rw [ed];rfl
   obtain ⟨hq1,hq2⟩:=hq hl
   have sgs:∀ j p,(endP s n a).sg j=some p→(if j=n.toNat then some (childOf (sgD s n.toNat)) else s.sg j)=some p:=fun j p h=>by
    have:(endP s n a).sg=(endS s n.toNat a).sg:=parL_sg _
    rw [this] at h;exact h
   refine ⟨dn0,dn13,leB_iff.2 (by rw [encU_len];omega),dn0,dn13,?_,dn0,dn13,(fun h=>by rw [f1] at h;cases h),fun _=>⟨f2,rfl,leB_iff.2 (by omega),rowsA_same _ 13,leB_iff.2 (by rw [setsL_len];omega),okRd_enc p,dn0,dn13,leB_iff.2 (by rw [encW_len];omega),?_,hq2,?_⟩⟩
   ·refine leB_iff.2 ?_
    rw [setPart_cell (by intro l h;cases h),List.length_set,encU_len];omega
   ·rw [ez];exact hq1
   ·rw [endR_enL hw hl]
    refine ⟨rfl,.inr ⟨n.toNat,seenU_end (E:=[]) (fun j p h=>sgs j p ?_),by simp [rows13]⟩⟩
    unfold enL at h
    split at h
    ·exact endL_sg _ j p h
    ·exact h
  ·unfold endR
   rw [hl];exact ⟨rfl,.inl seenU_same⟩)
 rw [hU] at h
 exact pm_move tsR_ok (q:=14) (by omega) h rfl
theorem r_end (G:Nat→List AV) (B:Nat) {s:Ptb} (hw:Wf s) (n a:Int):ACalls (⟨Try.prog,G,B⟩:Ctx) 42 [.ptr (.rw 0) 0,.int .i64 n,.int .i64 a] (can tsR s) fun v H'=>v=.int .i64 (endR s n a).1∧H'=mov tsR (endR s n a).2:=by
 cases hc:live s n with
 | true=>
  have h:=live_iff.1 hc
  have w1:=hw.endS (n:=n.toNat) (by omega) a
  have w2:=hw.endP hc a
  have l1:=eu0_loop G B w1 n.toNat (setsL encR s) (encR (childOf (sgD s n.toNat))) h.1
  rw [kidT_end] at l1
  exact r_endQ G B hw n a (isSt [.ptr (.rw 0) 0,.int .i64 n,.int .i64 1] (vHp G (hp3 [some ⟨1,.var 1 (encW (ptC (endS s n.toNat a) n.toNat) (endS s n.toNat a))⟩] (.var 2 (setsL encR s)) [some ⟨1,.var 23 (encR (childOf (sgD s n.toNat)))⟩]))) (isSt [.ptr (.rw 0) 0,.int .i64 1] (vHp G (hp3 [some ⟨1,.var 1 (encW (ptC (endP s n a) n.toNat) (endP s n a))⟩] (.var 2 (setsL encR s)) [some ⟨1,.var 23 (encR (childOf (sgD s n.toNat)))⟩]))) (DLat_okC rfl l1) (DLat_okC rfl (eu2_loop G B w2 n.toNat (setsL encR s) (encR (childOf (sgD s n.toNat))))) fun _=>⟨isSt_refl,isSt_refl⟩
 | false=>exact r_endQ G B hw n a (fun _=>false) (fun _=>false) (DLat_ok (cb:=false) (vs0:=[]) (H0:=[]) rfl fun h=>by cases h) (DLat_ok (cb:=false) (vs0:=[]) (H0:=[]) rfl fun h=>by cases h) fun h=>by rw [hc] at h;cases h
end Go.Am
namespace Go.Am
open Go.Proofs Crc
set_option maxRecDepth 100000
theorem seen_BU {s:Ptb} {b:Nat} {H:Hp} (h0:H[0]?=some (some ⟨1,encU b s⟩)) (h1:∀ n,n<13→H[b+n]?=some (some ⟨1,blkO encR (s.sg n)⟩)):SeenB tsR s b H:=
 ⟨h0,fun n hn=>⟨_,h1 n hn,fun p hp=>by rw [hp];rfl⟩⟩
theorem r_takeM (G:Nat→List AV) (B:Nat) {s:Ptb} (hw:Wf s) (n:Int):ACalls (⟨Try.prog,G,B⟩:Ctx) 51 [.ptr (.rw 0) 0,.int .i64 n] (can tsR s) fun v H'=>v=takeVv s n∧H'=mov tsR (takeX s n):=by
 have hs:DSumsOk (⟨Try.prog,G,B⟩:Ctx) [(75,fTakeS sideD),(42,objF 2251 (okTF tsR) (xOf tsR) tsR .move endK)]:=
  .cons (fTakeS_ok (sideD_ok G) (r_take' G B)) (.cons (objF_ok tsR_ok tsR_inj (endK_ok (fun s hw n a=>r_end G B hw n a) (by intro h;cases h))) .nil)
 have h:=dcall_ok (C:=(⟨Try.prog,G,B⟩:Ctx)) (K:=Df Try.prog [(75,1,13)] [67,60] [(75,fTakeS sideD),(42,objF 2251 (okTF tsR) (xOf tsR) tsR .move endK)] [] 0) (fuel:=300) (n0:=40) (f:=51) (fn:=Try.f51) (args:=[.ptr (.rw 0) (.lit 0),.int .i64 (.var 3 n)]) (H:=(hp3 [some ⟨1,.var 1 (encU 1 s)⟩] (.var 2 (setsL encR s)) [])) (keep:=40)
  (R:=fun v H=>v=takeVv s n∧(Seen tsR (takeX s n) 13 (H.take 14)∨SeenB tsR (takeX s n) 16 H)) (by rw [show loopsOf (bodyOf Try.f51)=[] by kernel_rfl];exact dgoodf (mix G B) (by kernel_rfl) hs .nil) (by kernel_rfl) (by kernel_rfl) (by kernel_rfl) (by
  unfold sideD
  rw [tu_c]
  have hvn:live s n=false→takeVv s n=.tup [.agg [.int .i64 0,.bool false,.int .u32 0],.bool false]:=fun hl=>by
   unfold takeVv takeG takeN takeA takeO
   rw [hl];rfl
  refine liveU_tree 1 (fun hl=>?_) fun hl=>?_
  ·have h:=live_iff.1 hl
   obtain ⟨p,hp⟩:=(hw.there (n:=n.toNat) (by omega)).2.2.2
   obtain ⟨e1,e2,e3,e4,e5⟩:=famU_facts (by omega) hp
   have ed:sgD s n.toNat=p:=by unfold sgD;rw [hp];rfl
   have w1:=hw.takeS1 hl
   have es:putA (setsL encR s) n.toNat (encR (tkP p))=setsL encR (takeS1 s n):=by
    unfold takeS1
    rw [ed]
    exact setsL_put (t:=tsR) (by omega)
   have et:encU 1 s=tsR.tb (ptrs 1 (takeS1 s n)) (takeS1 s n):=by
    show encW (ptrs 1 s) s=encW (ptrs 1 (takeS1 s n)) (takeS1 s n)
    unfold takeS1
    rw [ptrs_updS hp];rfl
   have ex:xOf tsR [.agg (encU 1 s),.agg (setsL encR (takeS1 s n))]=encX (takeS1 s n):=by
    rw [et];exact xOf_enc tsR_inj w1
   have hsg:=tkSig_range p
   rw [e3,e4,e5,toPU_enc,tkOkU_enc,tkEndsU_enc,tkSigU_enc,tkAtU_enc,tkU_enc,encRU_enc,es,ex,i64_in (by omega),xX2_enc w1.thin]
   have hv:takeVv s n=.tup [.agg [.int .i64 (tkSig p),.bool (tkEnds p),.int .u32 (tkAt p)],.bool (tkOk p)]:=by
    unfold takeVv takeG takeN takeA takeO
    rw [if_pos hl,if_pos hl,if_pos hl,if_pos hl,ed]
   have sst:takeX s n=takeS1 s n→Seen tsR (takeX s n) 13 (some ⟨1,encU 1 s⟩::(List.range 13).map fun j=>some ⟨1,rowA (setsL encR (takeS1 s n)) j⟩):=fun e=>by
    rw [e]
    refine seen_rows (t:=tsR) et tsR_ok ?_
    intro j hj q hq
    rw [rowA_sets hj,hq];rfl
   refine ⟨decide_eq_true (by omega),decide_eq_true (by omega),(fun h=>by rw [e1] at h;cases h),fun _=>⟨e2,rfl,leB_iff.2 (by omega),rowsA_same _ 13,leB_iff.2 (by rw [setsL_len];omega),okRd_enc p,fun ho=>⟨fun hn=>⟨rowsA_same _ 13,okTF_iff.2 ⟨_,w1,et,rfl⟩,hv.symm,.inr ?_⟩,fun hn=>⟨hv.symm,.inl ?_⟩⟩,fun ho=>⟨hv.symm,.inl ?_⟩⟩⟩
   ·have eX:takeX s n=endX (takeS1 s n) n (128+tkSig p):=by
     unfold takeX
     rw [if_pos hl,ed,ho,hn];rfl
    rw [eX]
    have we:Wf (endX (takeS1 s n) n (128+tkSig p)):=w1.endR _ _
    generalize endX (takeS1 s n) n (128+tkSig p)=s9 at we
    refine seen_BU ?_ fun j hj=>?_
    ·show some (some (⟨1,tabF tsR [.int .i64 16,.agg (encX s9)]⟩:Blk))=_
     simp only [tabF,decX_enc we.thin];rfl
    ·have e9:∀ j,setF tsR j [.agg (encX s9)]=blkO encR (s9.sg j):=fun j=>by simp only [setF,decX_enc we.thin];rfl
     match j,hj with
     | 0,_ | 1,_ | 2,_ | 3,_ | 4,_ | 5,_ | 6,_ | 7,_ | 8,_ | 9,_ | 10,_ | 11,_ | 12,_=>exact congrArg (fun l=>some (some (⟨1,l⟩:Blk))) (e9 _)
   ·refine sst ?_
    unfold takeX
    rw [if_pos hl,ed,ho,hn];rfl
   ·refine sst ?_
    unfold takeX
    rw [if_pos hl,ed,ho];rfl
  ·have hx:takeX s n=s:=by unfold takeX;rw [hl];rfl
   rw [hx]
   exact ⟨(hvn hl).symm,.inl seenU_same⟩)
 rw [hU] at h
 exact pm_move3 tsR_ok (k:=40) (b:=16) (by omega) (h.monoK fun v H ⟨a,b⟩=>⟨a,b.imp (fun b=>b.more) id⟩) rfl
end Go.Am
namespace Go.Am
open Go.Proofs Crc
set_option maxRecDepth 100000
theorem kk_b (G:Nat→List AV) (rd:List AV→Bool) (pu:List AV→List AV) (tb sl:List AV) (n to sg:Int) (b1 b2:Bool) (i:Nat) (Q:Ex→List AV→Hp→Prop) (R:AV→Hp→Prop):vT G Q R (dloop (Df Try.prog [(75,1,13)] [67,60,70] [(71,fSendS (sideQ (rd) (pu)))] [] 0) 300 20 14 (loopN Try.f46 0) 100 [0,1,2,3,10,11,12] [.ptr (.rw 0) (.lit 0),.int .i64 (.var 3 n),.int .i64 (.var 4 to),.int .i64 (.var 5 sg),.bool (.var 6 b1),.bool (.var 7 b2),.int .i64 (.ofN (.var 8 i))] (hp3 [some ⟨1,.var 1 tb⟩] (.var 2 sl) []))=(
  (decide ((((i:Nat):Int):Int)≤12)=true→
 (decide ((((i:Nat):Int):Int)≥1)=true→
 decide ((((i:Nat):Int):Int)≤12)=true∧
 decide ((0:Int)≤((i:Nat):Int))=true∧
 decide ((((i:Nat):Int):Int)<13)=true∧
 isI .i64 tb ((i)*6)=true∧
 (((getI tb ((i)*6):Int)==((i:Nat):Int))=true→
 decide ((0:Int)≤((i:Nat):Int))=true∧
 decide ((((i:Nat):Int):Int)<13)=true∧
 isB tb ((i)*6+4)=true∧
 (getB tb ((i)*6+4)=true→
 Q .normal [.ptr (.rw 0) (0),.int .i64 (n),.int .i64 (to),.int .i64 (sg),.bool (b1),.bool (b2),.int .i64 (IntKind.wrap .i64 (((i:Nat):Int)+1))] ([some ⟨1,tb⟩]++rows13 sl))∧
 (getB tb ((i)*6+4)=false→
 decide ((0:Int)≤((i:Nat):Int))=true∧
 decide ((((i:Nat):Int):Int)<13)=true∧
 isI .i64 tb ((i)*6+2)=true∧
 (((getI tb ((i)*6+2):Int)==IntKind.wrap .i64 (0 - (to)))=true→
 decide ((0:Int)≤n)=true∧
 decide ((n:Int)<13)=true∧
 isI .i64 tb ((Int.toNat (n))*6+3)=true∧
 (((getI tb ((Int.toNat (n))*6+3):Int)==0)=true→
 decide ((0:Int)≤((i:Nat):Int))=true∧
 decide ((((i:Nat):Int):Int)<13)=true∧
 (isNilA tb (i+78)=true→
 False)∧
 (isNilA tb (i+78)=false→
 isPA 1 13 tb (i+78)=true∧
 Nat.beq (foA tb (i+78)) (0)=true∧
 leB (fkA 1 tb (i+78)+1) (13)=true∧
 rowsA sl (rp 13 sl)=true∧
 leB (fkA 1 tb (i+78)+1) (List.length sl)=true∧
 (rd) [.agg (rowA sl (fkA 1 tb (i+78)))]=true∧
 Q .normal [.ptr (.rw 0) (0),.int .i64 (n),.int .i64 (to),.int .i64 (sg),.bool (true),.bool (true),.int .i64 (IntKind.wrap .i64 (((i:Nat):Int)+1))] ([some ⟨1,tb⟩]++rows13 (putA sl (fkA 1 tb (i+78)) (encRU [.agg (sendXU [.agg ((pu) [.agg (rowA sl (fkA 1 tb (i+78)))]),.int .i64 (sg)])])))))∧
 (((getI tb ((Int.toNat (n))*6+3):Int)==0)=false→
 decide ((0:Int)≤n)=true∧
 decide ((n:Int)<13)=true∧
 isI .i64 tb ((Int.toNat (n))*6+3)=true∧
 decide ((0:Int)≤((i:Nat):Int))=true∧
 decide ((((i:Nat):Int):Int)<13)=true∧
 isI .i64 tb ((i)*6+3)=true∧
 (((getI tb ((Int.toNat (n))*6+3):Int)==getI tb ((i)*6+3))=true→
 decide ((0:Int)≤((i:Nat):Int))=true∧
 decide ((((i:Nat):Int):Int)<13)=true∧
 (isNilA tb (i+78)=true→
 False)∧
 (isNilA tb (i+78)=false→
 isPA 1 13 tb (i+78)=true∧
 Nat.beq (foA tb (i+78)) (0)=true∧
 leB (fkA 1 tb (i+78)+1) (13)=true∧
 rowsA sl (rp 13 sl)=true∧
 leB (fkA 1 tb (i+78)+1) (List.length sl)=true∧
 (rd) [.agg (rowA sl (fkA 1 tb (i+78)))]=true∧
 Q .normal [.ptr (.rw 0) (0),.int .i64 (n),.int .i64 (to),.int .i64 (sg),.bool (true),.bool (true),.int .i64 (IntKind.wrap .i64 (((i:Nat):Int)+1))] ([some ⟨1,tb⟩]++rows13 (putA sl (fkA 1 tb (i+78)) (encRU [.agg (sendXU [.agg ((pu) [.agg (rowA sl (fkA 1 tb (i+78)))]),.int .i64 (sg)])])))))∧
 (((getI tb ((Int.toNat (n))*6+3):Int)==getI tb ((i)*6+3))=false→
 Q .normal [.ptr (.rw 0) (0),.int .i64 (n),.int .i64 (to),.int .i64 (sg),.bool (true),.bool (b2),.int .i64 (IntKind.wrap .i64 (((i:Nat):Int)+1))] ([some ⟨1,tb⟩]++rows13 sl))))∧
 (((getI tb ((i)*6+2):Int)==IntKind.wrap .i64 (0 - (to)))=false→
 Q .normal [.ptr (.rw 0) (0),.int .i64 (n),.int .i64 (to),.int .i64 (sg),.bool (b1),.bool (b2),.int .i64 (IntKind.wrap .i64 (((i:Nat):Int)+1))] ([some ⟨1,tb⟩]++rows13 sl))))∧
 (((getI tb ((i)*6):Int)==((i:Nat):Int))=false→
 Q .normal [.ptr (.rw 0) (0),.int .i64 (n),.int .i64 (to),.int .i64 (sg),.bool (b1),.bool (b2),.int .i64 (IntKind.wrap .i64 (((i:Nat):Int)+1))] ([some ⟨1,tb⟩]++rows13 sl)))∧
 (decide ((((i:Nat):Int):Int)≥1)=false→
 Q .normal [.ptr (.rw 0) (0),.int .i64 (n),.int .i64 (to),.int .i64 (sg),.bool (b1),.bool (b2),.int .i64 (IntKind.wrap .i64 (((i:Nat):Int)+1))] ([some ⟨1,tb⟩]++rows13 sl)))∧
 (decide ((((i:Nat):Int):Int)≤12)=false→
 Q (.exit 0) [.ptr (.rw 0) (0),.int .i64 (n),.int .i64 (to),.int .i64 (sg),.bool (b1),.bool (b2),.int .i64 (((i:Nat):Int))] ([some ⟨1,tb⟩]++rows13 sl))):=by kernel_rfl
end Go.Am
