/-
  Processes: the program's End: the call. Tables of processes: the calls' words.
-/
import Derived.Test.YtkabjomhnddnoaaPart15
import Derived.Test.YtkabjomhnddnoaaBase10
namespace Go.Am
open Go.Proofs Crc
set_option maxRecDepth 100000
theorem kid_lt {s:Ptb} {n:Int}:∀ x∈kidT s n 13,x<13:=fun x hx=>(kidT_mem hx).1
theorem dgEnd (G:Nat→List AV) (B:Nat) {s:Ptb} (n a:Int):DGood (⟨Try.prog,G,B⟩:Ctx) (Df Try.prog [(48,1,13)] [36,38,39,20] [(31,kidsS),(58,fChildS sideP)] [DLat 0x924 (isSt [.ptr (.rw 0) 0,.int .i64 0,.slice true (.rw 15) 0 (kidT s n 13).length,.int .i64 ((kidT s n 13).length:Int),.int .i64 0] (vHp G (hp3 [some ⟨1,.var 1 (encV (ptC (endS s n.toNat a) n.toNat) (endS s n.toNat a))⟩] (.var 2 (setsL encP s)) [some ⟨1,.var 23 (encP (childOf (sgD s n.toNat)))⟩,some ⟨1,.var 22 (nl (kidT s n 13))⟩]))) 0 82 [0,6,44,45,46] (.one (.exit 0) [.ptr (.rw 0) (.lit 0),.int .i64 (.lit 0),.undef,.undef,.undef] (hp3 [some ⟨1,.var 21 (encV (ptC (endP s n a) n.toNat) (endP s n a))⟩] (.var 2 (setsL encP s)) [some ⟨1,.var 23 (encP (childOf (sgD s n.toNat)))⟩,some ⟨1,.var 22 (nl (kidT s n 13))⟩])),DLat 0x925 (isSt [.ptr (.rw 0) 0,.int .i64 0,.slice true (.rw 16) 0 (kidT (endP s n a) 1 13).length,.int .i64 ((kidT (endP s n a) 1 13).length:Int),.int .i64 0] (vHp G (hp3 [some ⟨1,.var 1 (encV (ptC (endP s n a) n.toNat) (endP s n a))⟩] (.var 2 (setsL encP s)) [some ⟨1,.var 23 (encP (childOf (sgD s n.toNat)))⟩,some ⟨1,.var 22 (nl (kidT s n 13))⟩,some ⟨1,.var 25 (nl (kidT (endP s n a) 1 13))⟩]))) 2 82 [0,6,61,62,63] (.one (.exit 2) [.ptr (.rw 0) (.lit 0),.int .i64 (.lit 0),.undef,.undef,.undef] (hp3 [some ⟨1,.var 26 (encV (ptC (endL (endP s n a) (kidT (endP s n a) 1 13)) n.toNat) (endL (endP s n a) (kidT (endP s n a) 1 13)))⟩] (.var 2 (setsL encP s)) [some ⟨1,.var 23 (encP (childOf (sgD s n.toNat)))⟩,some ⟨1,.var 22 (nl (kidT s n 13))⟩,some ⟨1,.var 25 (nl (kidT (endP s n a) 1 13))⟩]))] 14) (loopsOf (bodyOf Try.f27)):=by
 refine dgoodf (mix G B) (by kernel_rfl) (.cons (kidsS_ok G B) (.cons (fChildS_ok (sideP_ok G) (p_child G B)) .nil)) ?_
 rw [show loopsOf (bodyOf Try.f27)=[loopN Try.f27 0,loopN Try.f27 1] by kernel_rfl]
 exact .cons (i:=0) (by kernel_rfl) rfl (DLat_okC rfl (e0_loop G B (endS s n.toNat a) n.toNat (setsL encP s) (encP (childOf (sgD s n.toNat))) (kidT s n 13) kid_lt (kidT_len s n 13))) (.cons (i:=2) (by kernel_rfl) rfl (DLat_okC rfl (e2_loop G B (endP s n a) n.toNat (setsL encP s) (encP (childOf (sgD s n.toNat))) (nl (kidT s n 13)) (kidT (endP s n a) 1 13) kid_lt (kidT_len _ _ 13))) .nil)
theorem kAnd255 (a:Int):kAnd .i64 a 255=a % 256:=by
 have e:kAnd .i64 a 255=(((BitVec.ofInt 64 a) &&& 255#64).toNat:Int):=by
  show IntKind.i64.wrap (((BitVec.ofInt 64 a) &&& 255#64).toNat:Int)=_
  have:=Nat.and_le_right (n:=(BitVec.ofInt 64 a).toNat) (m:=255)
  rw [BitVec.toNat_and]
  exact i64_in (by have e:(255#64).toNat=255:=rfl;rw [e];omega)
 rw [e,BitVec.toNat_and,BitVec.toNat_ofInt]
 have e2:(255#64).toNat=2^8 - 1:=rfl
 rw [e2,Nat.and_two_pow_sub_one_eq_mod]
 omega
theorem enc_end {s:Ptb} {n:Nat} {a:Int} (hn:n<13):setPart (setPart (setPart (encT 1 s) (n*7+5) (.bool true)) (n*7+6) (.int .i64 (a % 256))) (n*7+7) (.ptr (.rw 14) 0)=encV (ptC (endS s n a) n) (endS s n a):=by
 rw [encT_V,V_set (p:=fun n=>ptrO 1 n (s.sg n)) (n:=n) (k:=4) (s:=s) (x:={ s.at_ n with en:=true }) (by omega) (by intro l h;cases h) (fun j hj=>by
  match j,hj with
  | 0,_ | 1,_ | 2,_ | 3,_ | 4,_ | 5,_=>rfl),V_set (p:=fun n=>ptrO 1 n (s.sg n)) (n:=n) (k:=5) (x:={ s.at_ n with en:=true,st:=a % 256 }) (by omega) (by intro l h;cases h) (fun j hj=>by
  show _=if j=5 then _ else fcell (if n=n then _ else s.at_ n) .undef j
  rw [if_pos rfl]
  match j,hj with
  | 0,_ | 1,_ | 2,_ | 3,_ | 4,_ | 5,_=>rfl),V_ptr (by intro l h;cases h)]
 unfold encV
 congr 1
 refine tabL_congr fun b j _ _=>?_
 show fcell (if b=n then _ else if b=n then _ else s.at_ b) (if b=n then _ else _) j=fcell (if b=n then _ else s.at_ b) (match (if b=n then some (childOf (sgD s n)) else s.sg b) with | none=>AV.nilp | some _=>AV.ptr (.rw (if b=n then 14 else 1+b)) 0) j
 by_cases e:b=n
 ·subst e;simp only [if_pos]
 ·simp only [if_neg e]
  cases s.sg b<;>rfl
theorem kidNU_V {k:IntKind} {p:Nat→AV} {s:Ptb} {n:Int}:kidNU [.agg (encV p s),.int k n]=(kidT s n 13).length:=by
 unfold kidNU;simp only [kidLC_eq]
theorem kidLU_V {k:IntKind} {p:Nat→AV} {s:Ptb} {n:Int}:kidLU [.agg (encV p s),.int k n]=nl (kidT s n 13):=by
 unfold kidLU;simp only [kidLC_eq]
theorem seen_end {s s':Ptb} {n:Nat} {E:Hp} (hn:n<13) (h1:∀ j p,s'.sg j=some p→(if j=n then some (childOf (sgD s n)) else s.sg j)=some p) :
  SeenQ tsP s' n 14 (some ⟨1,encV (ptC s' n) s'⟩::((List.range 13).map (fun n=>some ⟨1,rowA (setsL encP s) n⟩)++(some ⟨1,encP (childOf (sgD s n))⟩::E))):=by
 refine ⟨by simp,rfl,fun j hj=>?_⟩
 by_cases e:j=n
 ·rw [if_pos e]
  refine ⟨_,by rw [show (14:Nat)=13+1 from rfl,List.getElem?_cons_succ,List.getElem?_append_right (by simp),List.length_map,List.length_range];rfl,fun p hp=>?_⟩
  have:=h1 j p hp
  rw [if_pos e] at this
  simp only [Option.some.injEq] at this
  rw [this];rfl
 ·rw [if_neg e]
  refine ⟨rowA (setsL encP s) j,?_,fun p hp=>?_⟩
  ·rw [Nat.add_comm 1 j,List.getElem?_cons_succ,List.getElem?_append_left (by simpa using hj),List.getElem?_map,List.getElem?_range hj];rfl
  ·have:=h1 j p hp
   rw [if_neg e] at this
   rw [rowA_sets hj,this];rfl
theorem k15_ok {s s':Ptb} {n:Nat} {p:Sg} (hw:Wf s'):okK15 [.agg (encV (ptC s' n) s'),.agg (setsL encP s),.agg (encP p)]=true:=okK15_iff.2 ⟨s',n,hw,rfl,sets_flat,encP_flat 0 p⟩
theorem p_end (G:Nat→List AV) (B:Nat) {s:Ptb} (hw:Wf s) (n a:Int):ACalls (⟨Try.prog,G,B⟩:Ctx) 27 [.ptr (.rw 0) 0,.int .i64 n,.int .i64 a] (can tsP s) fun v H'=>v=.int .i64 (endR s n a).1∧H'=mov tsP (endR s n a).2:=by
 have h:=dcall_ok (C:=(⟨Try.prog,G,B⟩:Ctx)) (K:=Df Try.prog [(48,1,13)] [36,38,39,20] [(31,kidsS),(58,fChildS sideP)] [DLat 0x924 (isSt [.ptr (.rw 0) 0,.int .i64 0,.slice true (.rw 15) 0 (kidT s n 13).length,.int .i64 ((kidT s n 13).length:Int),.int .i64 0] (vHp G (hp3 [some ⟨1,.var 1 (encV (ptC (endS s n.toNat a) n.toNat) (endS s n.toNat a))⟩] (.var 2 (setsL encP s)) [some ⟨1,.var 23 (encP (childOf (sgD s n.toNat)))⟩,some ⟨1,.var 22 (nl (kidT s n 13))⟩]))) 0 82 [0,6,44,45,46] (.one (.exit 0) [.ptr (.rw 0) (.lit 0),.int .i64 (.lit 0),.undef,.undef,.undef] (hp3 [some ⟨1,.var 21 (encV (ptC (endP s n a) n.toNat) (endP s n a))⟩] (.var 2 (setsL encP s)) [some ⟨1,.var 23 (encP (childOf (sgD s n.toNat)))⟩,some ⟨1,.var 22 (nl (kidT s n 13))⟩])),DLat 0x925 (isSt [.ptr (.rw 0) 0,.int .i64 0,.slice true (.rw 16) 0 (kidT (endP s n a) 1 13).length,.int .i64 ((kidT (endP s n a) 1 13).length:Int),.int .i64 0] (vHp G (hp3 [some ⟨1,.var 1 (encV (ptC (endP s n a) n.toNat) (endP s n a))⟩] (.var 2 (setsL encP s)) [some ⟨1,.var 23 (encP (childOf (sgD s n.toNat)))⟩,some ⟨1,.var 22 (nl (kidT s n 13))⟩,some ⟨1,.var 25 (nl (kidT (endP s n a) 1 13))⟩]))) 2 82 [0,6,61,62,63] (.one (.exit 2) [.ptr (.rw 0) (.lit 0),.int .i64 (.lit 0),.undef,.undef,.undef] (hp3 [some ⟨1,.var 26 (encV (ptC (endL (endP s n a) (kidT (endP s n a) 1 13)) n.toNat) (endL (endP s n a) (kidT (endP s n a) 1 13)))⟩] (.var 2 (setsL encP s)) [some ⟨1,.var 23 (encP (childOf (sgD s n.toNat)))⟩,some ⟨1,.var 22 (nl (kidT s n 13))⟩,some ⟨1,.var 25 (nl (kidT (endP s n a) 1 13))⟩]))] 14) (fuel:=300) (n0:=40) (f:=27) (fn:=Try.f27) (args:=[.ptr (.rw 0) (.lit 0),.int .i64 (.var 3 n),.int .i64 (.var 4 a)]) (H:=(hp3 [some ⟨1,.var 1 (encT 1 s)⟩] (.var 2 (setsL encP s)) [])) (keep:=15)
  (R:=fun v H=>v=.int .i64 (endR s n a).1∧(Seen tsP (endR s n a).2 13 H∨∃ c,SeenQ tsP (endR s n a).2 c 14 H∧14<H.length)) (dgEnd G B n a) (by kernel_rfl) (by kernel_rfl) (by kernel_rfl) (by
  have:=e_c G okK15 okK14 (isSt [.ptr (.rw 0) 0,.int .i64 0,.slice true (.rw 15) 0 (kidT s n 13).length,.int .i64 ((kidT s n 13).length:Int),.int .i64 0] (vHp G (hp3 [some ⟨1,.var 1 (encV (ptC (endS s n.toNat a) n.toNat) (endS s n.toNat a))⟩] (.var 2 (setsL encP s)) [some ⟨1,.var 23 (encP (childOf (sgD s n.toNat)))⟩,some ⟨1,.var 22 (nl (kidT s n 13))⟩]))) (isSt [.ptr (.rw 0) 0,.int .i64 0,.slice true (.rw 16) 0 (kidT (endP s n a) 1 13).length,.int .i64 ((kidT (endP s n a) 1 13).length:Int),.int .i64 0] (vHp G (hp3 [some ⟨1,.var 1 (encV (ptC (endP s n a) n.toNat) (endP s n a))⟩] (.var 2 (setsL encP s)) [some ⟨1,.var 23 (encP (childOf (sgD s n.toNat)))⟩,some ⟨1,.var 22 (nl (kidT s n 13))⟩,some ⟨1,.var 25 (nl (kidT (endP s n a) 1 13))⟩]))) (encT 1 s) (setsL encP s) (encP (childOf (sgD s n.toNat))) (nl (kidT s n 13)) (nl (kidT (endP s n a) 1 13)) (encV (ptC (endP s n a) n.toNat) (endP s n a)) (encV (ptC (endL (endP s n a) (kidT (endP s n a) 1 13)) n.toNat) (endL (endP s n a) (kidT (endP s n a) 1 13))) n a (fun _ _ _=>False) (fun v H=>v=.int .i64 (endR s n a).1∧(Seen tsP (endR s n a).2 13 H∨∃ c,SeenQ tsP (endR s n a).2 c 14 H∧14<H.length))
  refine Eq.mpr this ?_
  refine ⟨rfl,fun _=>⟨rfl,rfl,live_tree 1 (fun hl=>?_) fun hl=>?_⟩,fun h=>by cases h⟩
  ·have h:=live_iff.1 hl
   have hi:isP s n=true:=isP_iff.2 ⟨h.1,h.2.1,h.2.2.1⟩
   obtain ⟨p,hp⟩:=hw.live_sg hi
   obtain ⟨e1,e2,e3,e4,e5⟩:=fam_facts (by omega) hp
   have ed:sgD s n.toNat=p:=by unfold sgD;rw [hp];rfl
   have hne:(s.at_ n.toNat).num≠0:=by omega
   rw [e3,e4,e5,childU_enc,kAnd255,enc_end (by omega),kidNU_V,kidLU_V,kidT_end,kidNU_V,kidLU_V]
   have w1:=hw.endS hne a
   have w2:=hw.endP hl a
   have g8:=V_num (p:=ptC (endP s n a) n.toNat) (s:=(endP s n a)) (n:=1) (by omega)
   have g12:=V_en (p:=ptC (endP s n a) n.toNat) (s:=(endP s n a)) (n:=1) (by omega)
   have sgs:∀ j p,(endP s n a).sg j=some p→(if j=n.toNat then some (childOf (sgD s n.toNat)) else s.sg j)=some p:=fun j p h=>by
    have:(endP s n a).sg=(endS s n.toNat a).sg:=parL_sg _
    rw [this] at h;exact h
   have k15a:okK15 [.agg (encV (ptC (endS s n.toNat a) n.toNat) (endS s n.toNat a)),.agg (setsL encP s),.agg (encP (setW p 0#32))]=true:=k15_ok w1
   have k15b:okK15 [.agg (encV (ptC (endP s n a) n.toNat) (endP s n a)),.agg (setsL encP s),.agg (encP (childOf (sgD s n.toNat)))]=true:=k15_ok w2
   have ez:encP (setW p 0#32)=(encP (childOf (sgD s n.toNat))):=by rw [ed];rfl
   have fin2:live (endP s n a) 1=true→(AV.int .i64 0=.int .i64 (endR s n a).1∧(Seen tsP (endR s n a).2 13 (some ⟨1,encV (ptC (endP s n a) n.toNat) (endP s n a)⟩::((List.range 13).map (fun n=>some ⟨1,rowA (setsL encP s) n⟩)++[some ⟨1,(encP (childOf (sgD s n.toNat)))⟩]))∨∃ c,SeenQ tsP (endR s n a).2 c 14 (some ⟨1,encV (ptC (endP s n a) n.toNat) (endP s n a)⟩::((List.range 13).map (fun n=>some ⟨1,rowA (setsL encP s) n⟩)++[some ⟨1,(encP (childOf (sgD s n.toNat)))⟩]))∧14<(some (⟨1,encV (ptC (endP s n a) n.toNat) (endP s n a)⟩:Blk)::((List.range 13).map (fun n=>some ⟨1,rowA (setsL encP s) n⟩)++[some ⟨1,(encP (childOf (sgD s n.toNat)))⟩])).length)):=fun h2=>by
    unfold endR
    rw [if_pos hl,if_pos h2]
    exact ⟨rfl,.inr ⟨n.toNat,seen_end (E:=[]) (by omega) sgs,by simp [rows13]⟩⟩
   have fin3:live (endP s n a) 1=false→(AV.int .i64 0=.int .i64 (endR s n a).1∧(Seen tsP (endR s n a).2 13 (some ⟨1,encV (ptC (endL (endP s n a) (kidT (endP s n a) 1 13)) n.toNat) (endL (endP s n a) (kidT (endP s n a) 1 13))⟩::((List.range 13).map (fun n=>some ⟨1,rowA (setsL encP s) n⟩)++[some ⟨1,(encP (childOf (sgD s n.toNat)))⟩]))∨∃ c,SeenQ tsP (endR s n a).2 c 14 (some ⟨1,encV (ptC (endL (endP s n a) (kidT (endP s n a) 1 13)) n.toNat) (endL (endP s n a) (kidT (endP s n a) 1 13))⟩::((List.range 13).map (fun n=>some ⟨1,rowA (setsL encP s) n⟩)++[some ⟨1,(encP (childOf (sgD s n.toNat)))⟩]))∧14<(some (⟨1,encV (ptC (endL (endP s n a) (kidT (endP s n a) 1 13)) n.toNat) (endL (endP s n a) (kidT (endP s n a) 1 13))⟩:Blk)::((List.range 13).map (fun n=>some ⟨1,rowA (setsL encP s) n⟩)++[some ⟨1,(encP (childOf (sgD s n.toNat)))⟩])).length)):=fun h2=>by
    unfold endR
    rw [if_pos hl,if_neg (by rw [h2];simp)]
    exact ⟨rfl,.inr ⟨n.toNat,seen_end (E:=[]) (by omega) (fun j p h=>sgs j p (endL_sg _ j p h)),by simp [rows13]⟩⟩
   have ll:∀ b,live (endP s n a) 1=b→(((endP s n a).at_ 1).num==1&&!((endP s n a).at_ 1).en)=b:=fun b h=>by
    rw [←h];unfold live isP;rfl
   refine ⟨decide_eq_true (by omega),decide_eq_true (by omega),(fun h=>by rw [e1] at h;cases h),fun _=>⟨e2,rfl,leB_iff.2 (by omega),rowsA_same _ 13,leB_iff.2 (by rw [setsL_len];omega),okU_enc p,leB_iff.2 (by rw [encT_len];omega),?_,?_,rowsA_same _ 13,k15a,?_,rfl,fun _=>⟨g8.1,fun h1=>⟨g12.1,fun h2=>⟨rowsA_same _ 13,k15b,isSt_refl,fin3 ?_⟩,fun h2=>fin2 ?_⟩,fun h1=>⟨rowsA_same _ 13,k15b,isSt_refl,fin3 ?_⟩⟩,fun h=>by cases h⟩⟩
   ·refine leB_iff.2 ?_
    rw [setPart_cell (by intro l h;cases h),List.length_set,encT_len];omega
   ·refine leB_iff.2 ?_
    rw [setPart_cell (by intro l h;cases h),List.length_set,setPart_cell (by intro l h;cases h),List.length_set,encT_len];omega
   ·rw [ez];exact isSt_refl
   ·rw [g12.2] at h2
    unfold live;rw [show ((endP s n a).at_ (Int.toNat 1))=(endP s n a).at_ 1 from rfl,h2];simp
   ·rw [g12.2] at h2
    rw [g8.2] at h1
    unfold live isP
    rw [show ((endP s n a).at_ (Int.toNat 1))=(endP s n a).at_ 1 from rfl,h2]
    have:(((endP s n a).at_ 1).num==1)=true:=h1
    rw [this];rfl
   ·rw [g8.2] at h1
    unfold live isP
    have:(((endP s n a).at_ 1).num==1)=false:=h1
    rw [show ((endP s n a).at_ (Int.toNat 1))=(endP s n a).at_ 1 from rfl,this];rfl
  ·unfold endR
   rw [hl];exact ⟨rfl,.inl seen_same⟩)
 rw [hT] at h
 exact pm_move tsP_ok (q:=14) (by omega) h rfl
end Go.Am
namespace Go.Am
open Crc
def xI1 (f:Ptb→Int→Int):List AV→Int:=fun vs=>match vs with
 | [.agg x,.int _ n]=>f (decX x) n
 | _=>0
def xI2 (f:Ptb→Int→Int→Int):List AV→Int:=fun vs=>match vs with
 | [.agg x,.int _ n,.int _ a]=>f (decX x) n a
 | _=>0
def xI3 (f:Ptb→Int→Int→Int→Int):List AV→Int:=fun vs=>match vs with
 | [.agg x,.int _ n,.int _ a,.int _ b]=>f (decX x) n a b
 | _=>0
def xB1 (f:Ptb→Int→Bool):List AV→Bool:=fun vs=>match vs with
 | [.agg x,.int _ n]=>f (decX x) n
 | _=>false
def xB2 (f:Ptb→Int→Int→Bool):List AV→Bool:=fun vs=>match vs with
 | [.agg x,.int _ n,.int _ a]=>f (decX x) n a
 | _=>false
def xX1 (f:Ptb→Int→Ptb):List AV→List AV:=fun vs=>match vs with
 | [.agg x,.int _ n]=>encX (f (decX x) n)
 | _=>[]
def xX2 (f:Ptb→Int→Int→Ptb):List AV→List AV:=fun vs=>match vs with
 | [.agg x,.int _ n,.int _ a]=>encX (f (decX x) n a)
 | _=>[]
def xX3 (f:Ptb→Int→Int→Int→Ptb):List AV→List AV:=fun vs=>match vs with
 | [.agg x,.int _ n,.int _ a,.int _ b]=>encX (f (decX x) n a b)
 | _=>[]
def endE (s:Ptb) (n a:Int):Int:=(endR s n a).1
def endX (s:Ptb) (n a:Int):Ptb:=(endR s n a).2
def forkC (s:Ptb) (n:Int):Int:=(forkR s n).1.1
def forkE (s:Ptb) (n:Int):Int:=(forkR s n).1.2
def forkY (s:Ptb) (n:Int):Ptb:=(forkR s n).2
def waitC (s:Ptb) (n w:Int):Int:=(waitR s n w).1.1
def waitS (s:Ptb) (n w:Int):Int:=(waitR s n w).1.2.1
def waitW (s:Ptb) (n w:Int):Bool:=(waitR s n w).1.2.2.1
def waitE (s:Ptb) (n w:Int):Int:=(waitR s n w).1.2.2.2
def waitX (s:Ptb) (n w:Int):Ptb:=(waitR s n w).2
def endK:EL→List EV→Option (EV×EL):=fun x rest=>match rest with
 | [.int .i64 n,.int .i64 a]=>some (.int .i64 (.uf 2401 (xI2 endE) [.agg x,.int .i64 n,.int .i64 a]),.uf 2402 (xX2 endX) [.agg x,.int .i64 n,.int .i64 a])
 | _=>none
def forkK:EL→List EV→Option (EV×EL):=fun x rest=>match rest with
 | [.int .i64 n]=>some (.tup [.int .i64 (.uf 2403 (xI1 forkC) [.agg x,.int .i64 n]),.int .i64 (.uf 2404 (xI1 forkE) [.agg x,.int .i64 n])],.uf 2405 (xX1 forkY) [.agg x,.int .i64 n])
 | _=>none
def waitK:EL→List EV→Option (EV×EL):=fun x rest=>match rest with
 | [.int .i64 n,.int .i64 w]=>some (.tup [.int .i64 (.uf 2406 (xI2 waitC) [.agg x,.int .i64 n,.int .i64 w]),.int .i64 (.uf 2407 (xI2 waitS) [.agg x,.int .i64 n,.int .i64 w]),.bool (.uf 2408 (xB2 waitW) [.agg x,.int .i64 n,.int .i64 w]),.int .i64 (.uf 2409 (xI2 waitE) [.agg x,.int .i64 n,.int .i64 w])],.uf 2410 (xX2 waitX) [.agg x,.int .i64 n,.int .i64 w])
 | _=>none
def groupK:EL→List EV→Option (EV×EL):=fun x rest=>match rest with
 | [.int .i64 n,.int .i64 a]=>some (.int .i64 (.uf 2411 (xI2 groupE) [.agg x,.int .i64 n,.int .i64 a]),.uf 2412 (xX2 groupX) [.agg x,.int .i64 n,.int .i64 a])
 | _=>none
def userK:EL→List EV→Option (EV×EL):=fun x rest=>match rest with
 | [.int .i64 n,.int .i64 a]=>some (.int .i64 (.uf 2413 (xI2 userE) [.agg x,.int .i64 n,.int .i64 a]),.uf 2414 (xX2 userX) [.agg x,.int .i64 n,.int .i64 a])
 | _=>none
def maskK:EL→List EV→Option (EV×EL):=fun x rest=>match rest with
 | [.int .i64 n,.int .i64 a]=>some (.tup [.int .i64 (.uf 2417 (xI1 maskV) [.agg x,.int .i64 n]),.int .i64 (.uf 2418 (xI1 askE) [.agg x,.int .i64 n])],.uf 2419 (xX2 maskX) [.agg x,.int .i64 n,.int .i64 a])
 | _=>none
def handK:EL→List EV→Option (EV×EL):=fun x rest=>match rest with
 | [.int .i64 n,.int .i64 a,.int .i64 b]=>some (.tup [.int .i64 (.uf 2420 (xI3 handV) [.agg x,.int .i64 n,.int .i64 a,.int .i64 b]),.int .i64 (.uf 2421 (xI3 handE) [.agg x,.int .i64 n,.int .i64 a,.int .i64 b])],.uf 2422 (xX3 handX) [.agg x,.int .i64 n,.int .i64 a,.int .i64 b])
 | _=>none
def tellNum (s:Ptb) (n:Int):Int:=(tellX s n).num
def tellPar (s:Ptb) (n:Int):Int:=(tellX s n).par
def tellGrp (s:Ptb) (n:Int):Int:=(tellX s n).grp
def tellUsr (s:Ptb) (n:Int):Int:=(tellX s n).usr
def tellEn (s:Ptb) (n:Int):Bool:=(tellX s n).en
def tellSt (s:Ptb) (n:Int):Int:=(tellX s n).st
def tellK:EL→List EV→Option (EV×EL):=fun x rest=>match rest with
 | [.int .i64 n]=>some (.tup [.agg (.of [.int .i64 (.uf 2430 (xI1 tellNum) [.agg x,.int .i64 n]),.int .i64 (.uf 2431 (xI1 tellPar) [.agg x,.int .i64 n]),.int .i64 (.uf 2432 (xI1 tellGrp) [.agg x,.int .i64 n]),.int .i64 (.uf 2433 (xI1 tellUsr) [.agg x,.int .i64 n]),.bool (.uf 2434 (xB1 tellEn) [.agg x,.int .i64 n]),.int .i64 (.uf 2435 (xI1 tellSt) [.agg x,.int .i64 n])]),.bool (.uf 2436 (xB1 isP) [.agg x,.int .i64 n])],x)
 | _=>none
def livesK:EL→List EV→Option (EV×EL):=fun x rest=>match rest with
 | [.int .i64 n]=>some (.bool (.uf 2437 (xB1 live) [.agg x,.int .i64 n]),x)
 | _=>none
section
variable {k:IntKind} {s:Ptb} (h:thin s) (n a b:Int)
include h
theorem xI1_enc (f:Ptb→Int→Int):xI1 f [.agg (encX s),.int k n]=f s n:=by simp only [xI1,decX_enc h]
theorem xI2_enc {k':IntKind} (f:Ptb→Int→Int→Int):xI2 f [.agg (encX s),.int k n,.int k' a]=f s n a:=by simp only [xI2,decX_enc h]
theorem xI3_enc {k' k'':IntKind} (f:Ptb→Int→Int→Int→Int):xI3 f [.agg (encX s),.int k n,.int k' a,.int k'' b]=f s n a b:=by simp only [xI3,decX_enc h]
theorem xB1_enc (f:Ptb→Int→Bool):xB1 f [.agg (encX s),.int k n]=f s n:=by simp only [xB1,decX_enc h]
theorem xB2_enc {k':IntKind} (f:Ptb→Int→Int→Bool):xB2 f [.agg (encX s),.int k n,.int k' a]=f s n a:=by simp only [xB2,decX_enc h]
theorem xX1_enc (f:Ptb→Int→Ptb):xX1 f [.agg (encX s),.int k n]=encX (f s n):=by simp only [xX1,decX_enc h]
theorem xX2_enc {k':IntKind} (f:Ptb→Int→Int→Ptb):xX2 f [.agg (encX s),.int k n,.int k' a]=encX (f s n a):=by simp only [xX2,decX_enc h]
theorem xX3_enc {k' k'':IntKind} (f:Ptb→Int→Int→Int→Ptb):xX3 f [.agg (encX s),.int k n,.int k' a,.int k'' b]=encX (f s n a b):=by simp only [xX3,decX_enc h]
end
def KOk (C:Ctx) (t:TS) (m:Md2) (f:FuncId) (k:EL→List EV→Option (EV×EL)):Prop:=
 ∀ x rest v x' s,k x rest=some (v,x')→vL C.G x=encX s→Wf s→bnds 0 (vVs C.G rest)=true∧bnd 0 (vV C.G v)=true∧∃ s',vL C.G x'=encX s'∧thin s'∧(m=.same→s'=s)∧
   ACalls C f (.ptr (.rw 0) 0::vVs C.G rest) (can t s) fun v' H'=>v'=vV C.G v∧H'=mdHp t m s'
section
variable {C:Ctx} {t:TS} {f:FuncId} {m:Md2}
theorem endK_ok (h:∀ s,Wf s→∀ n a,ACalls C f [.ptr (.rw 0) 0,.int .i64 n,.int .i64 a] (can t s) fun v H'=>v=.int .i64 (endR s n a).1∧H'=mdHp t m (endR s n a).2) (hm:m≠.same):KOk C t m f endK:=by
 intro x rest v x' s hk hx hw
 unfold endK at hk
 split at hk
 ·rename_i n a
  simp only [Option.some.injEq,Prod.mk.injEq] at hk
  obtain ⟨rfl,rfl⟩:=hk
  refine ⟨by simp [vVs,vV,bnds,bnd],by simp [vV,bnd],(endR s (vI C.G n) (vI C.G a)).2,by simp only [vL,vVs,vV,hx,xX2_enc hw.thin];rfl,(hw.endR _ _).thin,fun e=>absurd e hm,?_⟩
  simp only [vVs,vV,vI,hx,xI2_enc hw.thin]
  exact h s hw _ _
 ·simp at hk
theorem forkK_ok (h:∀ s,Wf s→∀ n,ACalls C f [.ptr (.rw 0) 0,.int .i64 n] (can t s) fun v H'=>v=pairV (forkR s n).1∧H'=mdHp t m (forkR s n).2) (hm:m≠.same):KOk C t m f forkK:=by
 intro x rest v x' s hk hx hw
 unfold forkK at hk
 split at hk
 ·rename_i n
  simp only [Option.some.injEq,Prod.mk.injEq] at hk
  obtain ⟨rfl,rfl⟩:=hk
  refine ⟨by simp [vVs,vV,bnds,bnd],by simp [vV,vVs,bnds,bnd],(forkR s (vI C.G n)).2,by simp only [vL,vVs,vV,hx,xX1_enc hw.thin];rfl,(hw.forkR _).thin,fun e=>absurd e hm,?_⟩
  simp only [vVs,vV,vI,hx,xI1_enc hw.thin]
  exact h s hw _
 ·simp at hk
theorem waitK_ok (h:∀ s,Wf s→∀ n w,ACalls C f [.ptr (.rw 0) 0,.int .i64 n,.int .i64 w] (can t s) fun v H'=>v=waitVv (waitR s n w).1∧H'=mdHp t m (waitR s n w).2) (hm:m≠.same):KOk C t m f waitK:=by
 intro x rest v x' s hk hx hw
 unfold waitK at hk
 split at hk
 ·rename_i n w
  simp only [Option.some.injEq,Prod.mk.injEq] at hk
  obtain ⟨rfl,rfl⟩:=hk
  refine ⟨by simp [vVs,vV,bnds,bnd],by simp [vV,vVs,bnds,bnd],(waitR s (vI C.G n) (vI C.G w)).2,by simp only [vL,vVs,vV,hx,xX2_enc hw.thin];rfl,(hw.waitX _ _).thin,fun e=>absurd e hm,?_⟩
  simp only [vVs,vV,vI,vB,hx,xI2_enc hw.thin,xB2_enc hw.thin]
  exact h s hw _ _
 ·simp at hk
theorem groupK_ok (h:∀ s,Wf s→∀ n a,ACalls C f [.ptr (.rw 0) 0,.int .i64 n,.int .i64 a] (can t s) fun v H'=>v=.int .i64 (groupE s n a)∧H'=mdHp t m (groupX s n a)) (hm:m≠.same):KOk C t m f groupK:=by
 intro x rest v x' s hk hx hw
 unfold groupK at hk
 split at hk
 ·rename_i n a
  simp only [Option.some.injEq,Prod.mk.injEq] at hk
  obtain ⟨rfl,rfl⟩:=hk
  refine ⟨by simp [vVs,vV,bnds,bnd],by simp [vV,bnd],groupX s (vI C.G n) (vI C.G a),by simp only [vL,vVs,vV,hx,xX2_enc hw.thin],(hw.groupX _ _).thin,fun e=>absurd e hm,?_⟩
  simp only [vVs,vV,vI,hx,xI2_enc hw.thin]
  exact h s hw _ _
 ·simp at hk
theorem userK_ok (h:∀ s,Wf s→∀ n a,ACalls C f [.ptr (.rw 0) 0,.int .i64 n,.int .i64 a] (can t s) fun v H'=>v=.int .i64 (userE s n a)∧H'=mdHp t m (userX s n a)) (hm:m≠.same):KOk C t m f userK:=by
 intro x rest v x' s hk hx hw
 unfold userK at hk
 split at hk
 ·rename_i n a
  simp only [Option.some.injEq,Prod.mk.injEq] at hk
  obtain ⟨rfl,rfl⟩:=hk
  refine ⟨by simp [vVs,vV,bnds,bnd],by simp [vV,bnd],userX s (vI C.G n) (vI C.G a),by simp only [vL,vVs,vV,hx,xX2_enc hw.thin],(hw.userX _ _).thin,fun e=>absurd e hm,?_⟩
  simp only [vVs,vV,vI,hx,xI2_enc hw.thin]
  exact h s hw _ _
 ·simp at hk
theorem maskK_ok (h:∀ s,Wf s→∀ n a,ACalls C f [.ptr (.rw 0) 0,.int .i64 n,.int .i64 a] (can t s) fun v H'=>v=.tup [.int .i64 (maskV s n),.int .i64 (askE s n)]∧H'=mdHp t m (maskX s n a)) (hm:m≠.same):KOk C t m f maskK:=by
 intro x rest v x' s hk hx hw
 unfold maskK at hk
 split at hk
 ·rename_i n a
  simp only [Option.some.injEq,Prod.mk.injEq] at hk
  obtain ⟨rfl,rfl⟩:=hk
  refine ⟨by simp [vVs,vV,bnds,bnd],by simp [vV,vVs,bnds,bnd],maskX s (vI C.G n) (vI C.G a),by simp only [vL,vVs,vV,hx,xX2_enc hw.thin],(hw.maskX _ _).thin,fun e=>absurd e hm,?_⟩
  simp only [vVs,vV,vI,hx,xI1_enc hw.thin]
  exact h s hw _ _
 ·simp at hk
theorem handK_ok (h:∀ s,Wf s→∀ n a b,ACalls C f [.ptr (.rw 0) 0,.int .i64 n,.int .i64 a,.int .i64 b] (can t s) fun v H'=>v=.tup [.int .i64 (handV s n a b),.int .i64 (handE s n a b)]∧H'=mdHp t m (handX s n a b)) (hm:m≠.same):KOk C t m f handK:=by
 intro x rest v x' s hk hx hw
 unfold handK at hk
 split at hk
 ·rename_i n a b
  simp only [Option.some.injEq,Prod.mk.injEq] at hk
  obtain ⟨rfl,rfl⟩:=hk
  refine ⟨by simp [vVs,vV,bnds,bnd],by simp [vV,vVs,bnds,bnd],handX s (vI C.G n) (vI C.G a) (vI C.G b),by simp only [vL,vVs,vV,hx,xX3_enc hw.thin],(hw.handX _ _ _).thin,fun e=>absurd e hm,?_⟩
  simp only [vVs,vV,vI,hx,xI3_enc hw.thin]
  exact h s hw _ _ _
 ·simp at hk
theorem tellK_ok (h:∀ s,Wf s→∀ n,ACalls C f [.ptr (.rw 0) 0,.int .i64 n] (can t s) fun v H'=>v=.tup [.agg (rowU (tellX s n)),.bool (isP s n)]∧H'=can t s):KOk C t .same f tellK:=by
 intro x rest v x' s hk hx hw
 unfold tellK at hk
 split at hk
 ·rename_i n
  simp only [Option.some.injEq,Prod.mk.injEq] at hk
  obtain ⟨rfl,rfl⟩:=hk
  refine ⟨by simp [vVs,vV,bnds,bnd],by simp [vV,vVs,vL,bnds,bnd],s,hx,hw.thin,fun _=>rfl,?_⟩
  simp only [vVs,vV,vI,vB,vL,hx,xI1_enc hw.thin,xB1_enc hw.thin]
  exact h s hw _
 ·simp at hk
theorem livesK_ok (h:∀ s,Wf s→∀ n,ACalls C f [.ptr (.rw 0) 0,.int .i64 n] (can t s) fun v H'=>v=.bool (live s n)∧H'=can t s):KOk C t .same f livesK:=by
 intro x rest v x' s hk hx hw
 unfold livesK at hk
 split at hk
 ·rename_i n
  simp only [Option.some.injEq,Prod.mk.injEq] at hk
  obtain ⟨rfl,rfl⟩:=hk
  refine ⟨by simp [vVs,vV,bnds,bnd],by simp [vV,bnd],s,hx,hw.thin,fun _=>rfl,?_⟩
  simp only [vVs,vV,vB,hx,xB1_enc hw.thin]
  exact h s hw _
 ·simp at hk
end
end Go.Am
namespace Go.Am
open Go.Proofs Crc
set_option maxRecDepth 100000
theorem t_c (G:Nat→List AV) (okP2:List AV→Bool) (xoP:List AV→List AV) (tb sl:List AV) (n:Int) (Q:Ex→List AV→Hp→Prop) (R:AV→Hp→Prop):vT G Q R (dcall (Df Try.prog [(48,1,13)] [36,38,39,20] [(66,fTakeS sideP),(27,objF 2101 okP2 xoP tsP .move endK)] [] 0) 300 40 Try.f33 [.ptr (.rw 0) (.lit 0),.int .i64 (.var 3 n)] (hp3 [some ⟨1,.var 1 tb⟩] (.var 2 sl) []) 40)=(
  isB tb (0)=true∧
 (getB tb (0)=true→
 (decide ((n:Int)≥1)=true→
 (decide ((n:Int)≤12)=true→
 decide ((0:Int)≤n)=true∧
 decide ((n:Int)<13)=true∧
 isI .i64 tb ((Int.toNat (n))*7+1)=true∧
 (((getI tb ((Int.toNat (n))*7+1):Int)==n)=true→
 decide ((0:Int)≤n)=true∧
 decide ((n:Int)<13)=true∧
 isB tb ((Int.toNat (n))*7+5)=true∧
 (getB tb ((Int.toNat (n))*7+5)=true→
 R (.tup [.agg ([.int .i64 (0),.bool (false),.int .u32 (0)]:List AV),.bool (false)]) ([some ⟨1,tb⟩]++(rows13 sl++[some ⟨1,([.int .i64 (0),.bool (false),.int .u32 (0)]:List AV)⟩])))∧
 (getB tb ((Int.toNat (n))*7+5)=false→
 decide ((0:Int)≤n)=true∧
 decide ((n:Int)<13)=true∧
 (isNilA tb ((Int.toNat (n))*7+7)=true→
 False)∧
 (isNilA tb ((Int.toNat (n))*7+7)=false→
 isPA 1 13 tb ((Int.toNat (n))*7+7)=true∧
 Nat.beq (foA tb ((Int.toNat (n))*7+7)) (0)=true∧
 leB (fkA 1 tb ((Int.toNat (n))*7+7)+1) (13)=true∧
 rowsA sl (rp 13 sl)=true∧
 leB (fkA 1 tb ((Int.toNat (n))*7+7)+1) (List.length sl)=true∧
 okU [.agg (rowA sl (fkA 1 tb ((Int.toNat (n))*7+7)))]=true∧
 (tkOkU [.agg (rowA sl (fkA 1 tb ((Int.toNat (n))*7+7)))]=true→
 (tkEndsU [.agg (rowA sl (fkA 1 tb ((Int.toNat (n))*7+7)))]=true→
 rowsA (putA sl (fkA 1 tb ((Int.toNat (n))*7+7)) (tkU [.agg (rowA sl (fkA 1 tb ((Int.toNat (n))*7+7)))])) [.agg (putA sl (fkA 1 tb ((Int.toNat (n))*7+7)) (tkU [.agg (rowA sl (fkA 1 tb ((Int.toNat (n))*7+7)))])),.agg (putA sl (fkA 1 tb ((Int.toNat (n))*7+7)) (tkU [.agg (rowA sl (fkA 1 tb ((Int.toNat (n))*7+7)))])),.agg (putA sl (fkA 1 tb ((Int.toNat (n))*7+7)) (tkU [.agg (rowA sl (fkA 1 tb ((Int.toNat (n))*7+7)))])),.agg (putA sl (fkA 1 tb ((Int.toNat (n))*7+7)) (tkU [.agg (rowA sl (fkA 1 tb ((Int.toNat (n))*7+7)))])),.agg (putA sl (fkA 1 tb ((Int.toNat (n))*7+7)) (tkU [.agg (rowA sl (fkA 1 tb ((Int.toNat (n))*7+7)))])),.agg (putA sl (fkA 1 tb ((Int.toNat (n))*7+7)) (tkU [.agg (rowA sl (fkA 1 tb ((Int.toNat (n))*7+7)))])),.agg (putA sl (fkA 1 tb ((Int.toNat (n))*7+7)) (tkU [.agg (rowA sl (fkA 1 tb ((Int.toNat (n))*7+7)))])),.agg (putA sl (fkA 1 tb ((Int.toNat (n))*7+7)) (tkU [.agg (rowA sl (fkA 1 tb ((Int.toNat (n))*7+7)))])),.agg (putA sl (fkA 1 tb ((Int.toNat (n))*7+7)) (tkU [.agg (rowA sl (fkA 1 tb ((Int.toNat (n))*7+7)))])),.agg (putA sl (fkA 1 tb ((Int.toNat (n))*7+7)) (tkU [.agg (rowA sl (fkA 1 tb ((Int.toNat (n))*7+7)))])),.agg (putA sl (fkA 1 tb ((Int.toNat (n))*7+7)) (tkU [.agg (rowA sl (fkA 1 tb ((Int.toNat (n))*7+7)))])),.agg (putA sl (fkA 1 tb ((Int.toNat (n))*7+7)) (tkU [.agg (rowA sl (fkA 1 tb ((Int.toNat (n))*7+7)))])),.agg (putA sl (fkA 1 tb ((Int.toNat (n))*7+7)) (tkU [.agg (rowA sl (fkA 1 tb ((Int.toNat (n))*7+7)))]))]=true∧
 (okP2) [.agg tb,.agg (putA sl (fkA 1 tb ((Int.toNat (n))*7+7)) (tkU [.agg (rowA sl (fkA 1 tb ((Int.toNat (n))*7+7)))]))]=true∧
 R (.tup [.agg ([.int .i64 (tkSigU [.agg (rowA sl (fkA 1 tb ((Int.toNat (n))*7+7)))]),.bool (tkEndsU [.agg (rowA sl (fkA 1 tb ((Int.toNat (n))*7+7)))]),.int .u32 (tkAtU [.agg (rowA sl (fkA 1 tb ((Int.toNat (n))*7+7)))])]:List AV),.bool (tkOkU [.agg (rowA sl (fkA 1 tb ((Int.toNat (n))*7+7)))])]) ([some ⟨1,((tabF tsP) [.int .i64 (16),.agg ((xX2 endX) [.agg ((xoP) [.agg tb,.agg (putA sl (fkA 1 tb ((Int.toNat (n))*7+7)) (tkU [.agg (rowA sl (fkA 1 tb ((Int.toNat (n))*7+7)))]))]),.int .i64 (n),.int .i64 (IntKind.wrap .i64 (128+tkSigU [.agg (rowA sl (fkA 1 tb ((Int.toNat (n))*7+7)))]))])])⟩,none,none,none,none,none,none,none,none,none,none,none,none,none,some ⟨1,([.int .i64 (tkSigU [.agg (rowA sl (fkA 1 tb ((Int.toNat (n))*7+7)))]),.bool (tkEndsU [.agg (rowA sl (fkA 1 tb ((Int.toNat (n))*7+7)))]),.int .u32 (tkAtU [.agg (rowA sl (fkA 1 tb ((Int.toNat (n))*7+7)))])]:List AV)⟩,some ⟨1,([.int .i64 (tkSigU [.agg (rowA sl (fkA 1 tb ((Int.toNat (n))*7+7)))]),.bool (tkEndsU [.agg (rowA sl (fkA 1 tb ((Int.toNat (n))*7+7)))]),.int .u32 (tkAtU [.agg (rowA sl (fkA 1 tb ((Int.toNat (n))*7+7)))])]:List AV)⟩]++setL ((xX2 endX) [.agg ((xoP) [.agg tb,.agg (putA sl (fkA 1 tb ((Int.toNat (n))*7+7)) (tkU [.agg (rowA sl (fkA 1 tb ((Int.toNat (n))*7+7)))]))]),.int .i64 (n),.int .i64 (IntKind.wrap .i64 (128+tkSigU [.agg (rowA sl (fkA 1 tb ((Int.toNat (n))*7+7)))]))])))∧
 (tkEndsU [.agg (rowA sl (fkA 1 tb ((Int.toNat (n))*7+7)))]=false→
 R (.tup [.agg ([.int .i64 (tkSigU [.agg (rowA sl (fkA 1 tb ((Int.toNat (n))*7+7)))]),.bool (tkEndsU [.agg (rowA sl (fkA 1 tb ((Int.toNat (n))*7+7)))]),.int .u32 (tkAtU [.agg (rowA sl (fkA 1 tb ((Int.toNat (n))*7+7)))])]:List AV),.bool (tkOkU [.agg (rowA sl (fkA 1 tb ((Int.toNat (n))*7+7)))])]) ([some ⟨1,tb⟩]++(rows13 (putA sl (fkA 1 tb ((Int.toNat (n))*7+7)) (tkU [.agg (rowA sl (fkA 1 tb ((Int.toNat (n))*7+7)))]))++[some ⟨1,([.int .i64 (tkSigU [.agg (rowA sl (fkA 1 tb ((Int.toNat (n))*7+7)))]),.bool (tkEndsU [.agg (rowA sl (fkA 1 tb ((Int.toNat (n))*7+7)))]),.int .u32 (tkAtU [.agg (rowA sl (fkA 1 tb ((Int.toNat (n))*7+7)))])]:List AV)⟩,some ⟨1,([.int .i64 (tkSigU [.agg (rowA sl (fkA 1 tb ((Int.toNat (n))*7+7)))]),.bool (tkEndsU [.agg (rowA sl (fkA 1 tb ((Int.toNat (n))*7+7)))]),.int .u32 (tkAtU [.agg (rowA sl (fkA 1 tb ((Int.toNat (n))*7+7)))])]:List AV)⟩]))))∧
 (tkOkU [.agg (rowA sl (fkA 1 tb ((Int.toNat (n))*7+7)))]=false→
 R (.tup [.agg ([.int .i64 (tkSigU [.agg (rowA sl (fkA 1 tb ((Int.toNat (n))*7+7)))]),.bool (tkEndsU [.agg (rowA sl (fkA 1 tb ((Int.toNat (n))*7+7)))]),.int .u32 (tkAtU [.agg (rowA sl (fkA 1 tb ((Int.toNat (n))*7+7)))])]:List AV),.bool (tkOkU [.agg (rowA sl (fkA 1 tb ((Int.toNat (n))*7+7)))])]) ([some ⟨1,tb⟩]++(rows13 (putA sl (fkA 1 tb ((Int.toNat (n))*7+7)) (tkU [.agg (rowA sl (fkA 1 tb ((Int.toNat (n))*7+7)))]))++[some ⟨1,([.int .i64 (tkSigU [.agg (rowA sl (fkA 1 tb ((Int.toNat (n))*7+7)))]),.bool (tkEndsU [.agg (rowA sl (fkA 1 tb ((Int.toNat (n))*7+7)))]),.int .u32 (tkAtU [.agg (rowA sl (fkA 1 tb ((Int.toNat (n))*7+7)))])]:List AV)⟩,some ⟨1,([.int .i64 (tkSigU [.agg (rowA sl (fkA 1 tb ((Int.toNat (n))*7+7)))]),.bool (tkEndsU [.agg (rowA sl (fkA 1 tb ((Int.toNat (n))*7+7)))]),.int .u32 (tkAtU [.agg (rowA sl (fkA 1 tb ((Int.toNat (n))*7+7)))])]:List AV)⟩]))))))∧
 (((getI tb ((Int.toNat (n))*7+1):Int)==n)=false→
 R (.tup [.agg ([.int .i64 (0),.bool (false),.int .u32 (0)]:List AV),.bool (false)]) ([some ⟨1,tb⟩]++(rows13 sl++[some ⟨1,([.int .i64 (0),.bool (false),.int .u32 (0)]:List AV)⟩]))))∧
 (decide ((n:Int)≤12)=false→
 R (.tup [.agg ([.int .i64 (0),.bool (false),.int .u32 (0)]:List AV),.bool (false)]) ([some ⟨1,tb⟩]++(rows13 sl++[some ⟨1,([.int .i64 (0),.bool (false),.int .u32 (0)]:List AV)⟩]))))∧
 (decide ((n:Int)≥1)=false→
 R (.tup [.agg ([.int .i64 (0),.bool (false),.int .u32 (0)]:List AV),.bool (false)]) ([some ⟨1,tb⟩]++(rows13 sl++[some ⟨1,([.int .i64 (0),.bool (false),.int .u32 (0)]:List AV)⟩]))))∧
 (getB tb (0)=false→
 R (.tup [.agg ([.int .i64 (0),.bool (false),.int .u32 (0)]:List AV),.bool (false)]) ([some ⟨1,tb⟩]++(rows13 sl++[some ⟨1,([.int .i64 (0),.bool (false),.int .u32 (0)]:List AV)⟩])))):=by kernel_rfl
def takeS1 (s:Ptb) (n:Int):Ptb:=updS s n.toNat (some (tkP (sgD s n.toNat)))
def takeX (s:Ptb) (n:Int):Ptb:=
 if live s n=true then (if (tkOk (sgD s n.toNat)&&tkEnds (sgD s n.toNat))=true then endX (takeS1 s n) n (128+tkSig (sgD s n.toNat)) else takeS1 s n) else s
def takeG (s:Ptb) (n:Int):Int:=if live s n=true then tkSig (sgD s n.toNat) else 0
def takeN (s:Ptb) (n:Int):Bool:=if live s n=true then tkEnds (sgD s n.toNat) else false
def takeA (s:Ptb) (n:Int):Int:=if live s n=true then tkAt (sgD s n.toNat) else 0
def takeO (s:Ptb) (n:Int):Bool:=if live s n=true then tkOk (sgD s n.toNat) else false
def takeVv (s:Ptb) (n:Int):AV:=.tup [.agg [.int .i64 (takeG s n),.bool (takeN s n),.int .u32 (takeA s n)],.bool (takeO s n)]
theorem Wf.takeS1 {s:Ptb} (h:Wf s) {n:Int} (hl:live s n=true):Wf (takeS1 s n):=by
 have hl:=live_iff.1 hl
 exact h.updS (by omega)
theorem Wf.takeX {s:Ptb} (h:Wf s) (n:Int):Wf (takeX s n):=by
 unfold Go.Am.takeX
 split
 ·rename_i hl
  split
  ·exact (h.takeS1 hl).endR _ _
  ·exact h.takeS1 hl
 ·exact h
theorem setsL_put {t:TS} {s:Ptb} {c:Nat} {q:Sg} (hc:c<13):putA (setsL t.enc s) c (t.enc q)=setsL t.enc (updS s c (some q)):=by
 unfold putA setsL
 refine List.ext_getElem? fun i=>?_
 rw [List.getElem?_set,List.length_map,List.length_range]
 by_cases e:c=i
 ·subst e
  rw [if_pos rfl,if_pos hc,List.getElem?_map,List.getElem?_range hc]
  simp only [Option.map_some]
  congr 2
  show t.enc q=blkO t.enc (if c=c then some q else s.sg c)
  rw [if_pos rfl];rfl
 ·rw [if_neg e,List.getElem?_map,List.getElem?_map]
  by_cases hi:i<13
  ·rw [List.getElem?_range hi]
   simp only [Option.map_some]
   congr 2
   show blkO t.enc (s.sg i)=blkO t.enc (if i=c then some q else s.sg i)
   rw [if_neg (fun h=>e h.symm)]
  ·rw [List.getElem?_eq_none (by simpa using hi)];rfl
theorem tkSig_range (p:Sg):0≤tkSig p∧tkSig p≤15:=by
 unfold tkSig
 have:tkN p<16:=lowest_lt _
 split<;>omega
theorem seen_B {s:Ptb} {b:Nat} {E:Hp} {H:Hp} (h0:H[0]?=some (some ⟨1,encT b s⟩)) (h1:∀ n,n<13→H[b+n]?=some (some ⟨1,blkO encP (s.sg n)⟩)):SeenB tsP s b H:=
 ⟨h0,fun n hn=>⟨_,h1 n hn,fun p hp=>by rw [hp];rfl⟩⟩
theorem pm_move3 {t:TS} (ht:TSOk t) {C:Ctx} {f:FuncId} {args:List AV} {s s':Ptb} {v:AV} {k b:Nat} (hb:14≤b) (h:ACalls C f args (can t s) fun v' H'=>v'=v∧(Seen t s' 13 (H'.take k)∨SeenB t s' b (H'.take k))) (hv:bnd 0 v=true):ACalls C f args (can t s) fun v' H'=>v'=v∧H'=mov t s':=
 h.view fun v' H' ⟨e,h2⟩=>⟨v,mov t s',⟨rfl,rfl⟩,by
  subst e;rw [can_len]
  have g:∀ {i:Nat} {b},(H'.take k)[i]?=some b→H'[i]?=some b:=fun {i b} hb=>by
   rw [List.getElem?_take] at hb
   split at hb
   ·exact hb
   ·cases hb
  rcases h2 with h2 | h2
  ·exact (h2.more.q ht 14).move ht (by omega) (fun h=>absurd rfl h) hv
  ·have h3:SeenB t s' b H':=⟨g h2.tab,fun n hn=>by
    obtain ⟨cs,q1,q2⟩:=h2.sets n hn
    exact ⟨cs,g q1,q2⟩⟩
   exact h3.move ht hb hv⟩
theorem p_takeM (G:Nat→List AV) (B:Nat) {s:Ptb} (hw:Wf s) (n:Int):ACalls (⟨Try.prog,G,B⟩:Ctx) 33 [.ptr (.rw 0) 0,.int .i64 n] (can tsP s) fun v H'=>v=takeVv s n∧H'=mov tsP (takeX s n):=by
 have hs:DSumsOk (⟨Try.prog,G,B⟩:Ctx) [(66,fTakeS sideP),(27,objF 2101 (okTF tsP) (xOf tsP) tsP .move endK)]:=
  .cons (fTakeS_ok (sideP_ok G) (p_take G B)) (.cons (objF_ok tsP_ok tsP_inj (endK_ok (fun s hw n a=>p_end G B hw n a) (by intro h;cases h))) .nil)
 have h:=dcall_ok (C:=(⟨Try.prog,G,B⟩:Ctx)) (K:=Df Try.prog [(48,1,13)] [36,38,39,20] [(66,fTakeS sideP),(27,objF 2101 (okTF tsP) (xOf tsP) tsP .move endK)] [] 0) (fuel:=300) (n0:=40) (f:=33) (fn:=Try.f33) (args:=[.ptr (.rw 0) (.lit 0),.int .i64 (.var 3 n)]) (H:=(hp3 [some ⟨1,.var 1 (encT 1 s)⟩] (.var 2 (setsL encP s)) [])) (keep:=40)
  (R:=fun v H=>v=takeVv s n∧(Seen tsP (takeX s n) 13 (H.take 14)∨SeenB tsP (takeX s n) 16 H)) (dgM (B:=B) (by kernel_rfl) hs) (by kernel_rfl) (by kernel_rfl) (by kernel_rfl) (by
  have:=t_c G (okTF tsP) (xOf tsP) (encT 1 s) (setsL encP s) n (fun _ _ _=>False) (fun v H=>v=takeVv s n∧(Seen tsP (takeX s n) 13 (H.take 14)∨SeenB tsP (takeX s n) 16 H))
  refine Eq.mpr this ?_
  refine ⟨rfl,fun _=>live_tree 1 (fun hl=>?_) fun hl=>?_,fun h=>by cases h⟩
  ·have h:=live_iff.1 hl
   have hi:isP s n=true:=isP_iff.2 ⟨h.1,h.2.1,h.2.2.1⟩
   obtain ⟨p,hp⟩:=hw.live_sg hi
   obtain ⟨e1,e2,e3,e4,e5⟩:=fam_facts (by omega) hp
   have ed:sgD s n.toNat=p:=by unfold sgD;rw [hp];rfl
   have w1:=hw.takeS1 hl
   have es:putA (setsL encP s) n.toNat (encP (tkP p))=setsL encP (takeS1 s n):=by
    unfold takeS1
    rw [ed]
    exact setsL_put (t:=tsP) (by omega)
   have et:encT 1 s=tsP.tb (ptrs 1 (takeS1 s n)) (takeS1 s n):=by
    show encV (ptrs 1 s) s=encV (ptrs 1 (takeS1 s n)) (takeS1 s n)
    unfold takeS1
    rw [ptrs_updS hp];rfl
   have ex:xOf tsP [.agg (encT 1 s),.agg (setsL encP (takeS1 s n))]=encX (takeS1 s n):=by
    rw [et];exact xOf_enc tsP_inj w1
   have hsg:=tkSig_range p
   rw [e3,e4,e5,tkOkU_enc,tkEndsU_enc,tkSigU_enc,tkAtU_enc,tkU_enc,es,ex,i64_in (by omega),xX2_enc w1.thin]
   have hv:takeVv s n=.tup [.agg [.int .i64 (tkSig p),.bool (tkEnds p),.int .u32 (tkAt p)],.bool (tkOk p)]:=by
    unfold takeVv takeG takeN takeA takeO
    rw [if_pos hl,if_pos hl,if_pos hl,if_pos hl,ed]
   have sst:takeX s n=takeS1 s n→Seen tsP (takeX s n) 13 (some ⟨1,encT 1 s⟩::(List.range 13).map fun j=>some ⟨1,rowA (setsL encP (takeS1 s n)) j⟩):=fun e=>by
    rw [e]
    refine seen_rows (t:=tsP) et tsP_ok ?_
    intro j hj q hq
    rw [rowA_sets hj,hq];rfl
   refine ⟨decide_eq_true (by omega),decide_eq_true (by omega),(fun h=>by rw [e1] at h;cases h),fun _=>⟨e2,rfl,leB_iff.2 (by omega),rowsA_same _ 13,leB_iff.2 (by rw [setsL_len];omega),okU_enc p,fun ho=>⟨fun hn=>⟨rowsA_same _ 13,okTF_iff.2 ⟨_,w1,et,rfl⟩,hv.symm,.inr ?_⟩,fun hn=>⟨hv.symm,.inl ?_⟩⟩,fun ho=>⟨hv.symm,.inl ?_⟩⟩⟩
   ·have eX:takeX s n=endX (takeS1 s n) n (128+tkSig p):=by
     unfold takeX
     rw [if_pos hl,ed,ho,hn];rfl
    rw [eX]
    have we:Wf (endX (takeS1 s n) n (128+tkSig p)):=w1.endR _ _
    generalize endX (takeS1 s n) n (128+tkSig p)=s9 at we
    refine seen_B (E:=[]) ?_ fun j hj=>?_
    ·show some (some (⟨1,tabF tsP [.int .i64 16,.agg (encX s9)]⟩:Blk))=_
     simp only [tabF,decX_enc we.thin];rfl
    ·have e9:∀ j,setF tsP j [.agg (encX s9)]=blkO encP (s9.sg j):=fun j=>by simp only [setF,decX_enc we.thin];rfl
     match j,hj with
     | 0,_ | 1,_ | 2,_ | 3,_ | 4,_ | 5,_ | 6,_ | 7,_ | 8,_ | 9,_ | 10,_ | 11,_ | 12,_=>exact congrArg (fun l=>some (some (⟨1,l⟩:Blk))) (e9 _)
   ·refine sst ?_
    unfold takeX
    rw [if_pos hl,ed,ho,hn];rfl
   ·refine sst ?_
    unfold takeX
    rw [if_pos hl,ed,ho];rfl
  ·have hv:takeVv s n=.tup [.agg [.int .i64 0,.bool false,.int .u32 0],.bool false]:=by
    unfold takeVv takeG takeN takeA takeO
    rw [hl];rfl
   have hx:takeX s n=s:=by unfold takeX;rw [hl];rfl
   rw [hx]
   exact ⟨hv.symm,.inl seen_same⟩)
 rw [hT] at h
 refine pm_move3 tsP_ok (k:=40) (b:=16) (by omega) (h.monoK fun v H ⟨a,b⟩=>⟨a,b.imp (fun b=>b.more) id⟩) rfl
end Go.Am
