/-
  Processes: the program's Kill: the call. Tables of processes: the words of Kill and Take.
-/
import Derived.Test.YtkabjomhnddnoaaPart18
import Derived.Test.YtkabjomhnddnoaaPart15
import Derived.Test.YtkabjomhnddnoaaPart13
namespace Go.Am
open Go.Proofs Crc
set_option maxRecDepth 100000
theorem hN13 (G:Nat→List AV) (B:Nat) {s:Ptb} (hw:Wf s) (to sg me:Int):vHp G (HMd (.var 1 (encT 1 s)) (.var 31 (setsL encP (kR s to sg me 13).1)) (.var 3 to) (.var 4 sg) (.var 5 me) (.var 32 (kR s to sg me 13).2.1) (.var 33 (kR s to sg me 13).2.2) (.var 24 (rcM 0)))=hpN s to sg me 13:=hN G B hw to sg me 13
theorem hN0 (G:Nat→List AV) (B:Nat) (s:Ptb) (to sg me:Int):vHp G (HMd (.var 1 (encT 1 s)) (.var 2 (setsL encP s)) (.var 3 to) (.var 4 sg) (.var 5 me) (.var 6 false) (.var 7 false) (.var 24 (rcM 0)))=hpN s to sg me 0:=by unfold hpN;rw [hM];rfl
theorem m_loop0 (G:Nat→List AV) (B:Nat) {s:Ptb} (hw:Wf s) (to sg me:Int):AWp (⟨Try.prog,G,B⟩:Ctx) 23 (.loop (loopN Try.f76 0)) (fl 27 [0,11,12] [.yld 22,.agg (arT s 13),.int .i64 0]) (vHp G (HMd (.var 1 (encT 1 s)) (.var 2 (setsL encP s)) (.var 3 to) (.var 4 sg) (.var 5 me) (.var 6 false) (.var 7 false) (.var 24 (rcM 0)))) (lv 27 [0,11,12] (LOut.post G 23 (.one (.exit 0) [.undef,.undef,.undef] (HMd (.var 1 (encT 1 s)) (.var 31 (setsL encP (kR s to sg me 13).1)) (.var 3 to) (.var 4 sg) (.var 5 me) (.var 32 (kR s to sg me 13).2.1) (.var 33 (kR s to sg me 13).2.2) (.var 24 (rcM 0)))))):=by
 rw [hN0 G B]
 refine (m_loop G B hw to sg me).lmono ?_
 rintro ex vs H ⟨rfl,h1,rfl⟩
 exact ⟨rfl,.inl ⟨h1,(hN13 G B hw to sg me).symm⟩⟩
theorem m76_call (G:Nat→List AV) (B:Nat) {s:Ptb} (hw:Wf s) (to sg me:Int):ACalls (⟨Try.prog,G,B⟩:Ctx) 76 [.yld 22,.ptr (.rw 21) 0] (vHp G (HMd (.var 1 (encT 1 s)) (.var 2 (setsL encP s)) (.var 3 to) (.var 4 sg) (.var 5 me) (.var 6 false) (.var 7 false) (.var 24 (rcM 0)))) fun v H=>v=.tup []∧H=hpN s to sg me 13:=by
 have h:=dcall_ok (C:=(⟨Try.prog,G,B⟩:Ctx)) (K:=Dr Try.prog [36] [] [DLat 2351 (isSt [.yld 22,.agg (arT s 13),.int .i64 0] (vHp G (HMd (.var 1 (encT 1 s)) (.var 2 (setsL encP s)) (.var 3 to) (.var 4 sg) (.var 5 me) (.var 6 false) (.var 7 false) (.var 24 (rcM 0))))) 0 27 [0,11,12] (.one (.exit 0) [.undef,.undef,.undef] (HMd (.var 1 (encT 1 s)) (.var 31 (setsL encP (kR s to sg me 13).1)) (.var 3 to) (.var 4 sg) (.var 5 me) (.var 32 (kR s to sg me 13).2.1) (.var 33 (kR s to sg me 13).2.2) (.var 24 (rcM 0))))] [] noY 23) (fuel:=300) (n0:=60) (f:=76) (fn:=Try.f76) (args:=[.yld 22,.ptr (.rw 21) (.lit 0)]) (H:=(HMd (.var 1 (encT 1 s)) (.var 2 (setsL encP s)) (.var 3 to) (.var 4 sg) (.var 5 me) (.var 6 false) (.var 7 false) (.var 24 (rcM 0)))) (keep:=23)
  (R:=fun v H=>v=.tup []∧H=hpN s to sg me 13) (dgoodr (mix G B) (by kernel_rfl) .nil (.cast (.cons (i:=0) (by kernel_rfl) rfl (DLat_okC rfl (m_loop0 G B hw to sg me)) .nil) (by kernel_rfl)) .none noY_ok) (by kernel_rfl) (by kernel_rfl) (by kernel_rfl) (by
  have:=m76 G (isSt [.yld 22,.agg (arT s 13),.int .i64 0] (vHp G (HMd (.var 1 (encT 1 s)) (.var 2 (setsL encP s)) (.var 3 to) (.var 4 sg) (.var 5 me) (.var 6 false) (.var 7 false) (.var 24 (rcM 0))))) (encT 1 s) (setsL encP s) (rcM 0) (setsL encP (kR s to sg me 13).1) to sg me false false (kR s to sg me 13).2.1 (kR s to sg me 13).2.2 (fun _ _ _=>False) (fun v H=>v=.tup []∧H=hpN s to sg me 13)
  refine Eq.mpr this ⟨rfl,fun _=>⟨leB_iff.2 (by rw [encT_len];omega),?_,rfl,?_⟩,fun h=>by cases h⟩
  ·rw [encT_C];exact isSt_refl
  ·exact hN13 G B hw to sg me)
 refine ACalls.keep (k:=23) h ?_ ?_ rfl (by simp)
 ·rw [hpN_len,vHp_length];exact Nat.le_refl 23
 ·rw [hpN_len];exact hpM_b (by omega)
def ex0 (to sg me:Int) (st sm:Bool):Hp:=[some ⟨1,[.ptr (.rw 0) 0]⟩,some ⟨1,[.int .i64 to]⟩,some ⟨1,[.int .i64 sg]⟩,some ⟨1,[.int .i64 me]⟩,some ⟨1,[.bool st]⟩,some ⟨1,[.func 53 [.ptr (.rw 17) 0,.ptr (.rw 14) 0,.ptr (.rw 18) 0,.ptr (.rw 16) 0]]⟩,some ⟨1,[.bool sm]⟩,some ⟨1,[.ptr (.rw 0) 0]⟩]
def killU (s:Ptb) (n to sg:Int):Ptb×Bool×Bool:=kR s to sg (s.at_ n.toNat).usr 13
def killG (to sg:Int):Bool:=decide (sg<0)||(decide (sg>15)||to==0)
def killE (s:Ptb) (n to sg:Int):Int:=if live s n=true then (if killG to sg=true then 2 else (if (killU s n to sg).2.2=true then (if (killU s n to sg).2.1=true then 0 else 8) else 6)) else 6
def killX (s:Ptb) (n to sg:Int):Ptb:=if live s n=true then (if killG to sg=true then s else (killU s n to sg).1) else s
theorem Wf.killX {s:Ptb} (h:Wf s) (n to sg:Int):Wf (killX s n to sg):=by
 unfold Go.Am.killX
 split
 ·split
  ·exact h
  ·exact (kR_inv h to sg _ 13).wf
 ·exact h
theorem m_rng (G:Nat→List AV) (B:Nat) {s:Ptb} (hw:Wf s) (to sg me:Int):AWp (⟨Try.prog,G,B⟩:Ctx) 22 (loopN Try.f21 0) F0m (vHp G (HMe (.var 1 (encT 1 s)) (.var 2 (setsL encP s)) (.var 3 to) (.var 4 sg) (.var 5 me) (.var 6 false) (.var 7 false))) (lv 71 [6,8,11,12,13,43] (LOut.post G 22 (.one .normal [.ptr (.rw 15) (.lit 0),.int .i64 (.lit 0),.ptr (.rw 18) (.lit 0),.ptr (.rw 19) (.lit 0),.ptr (.rw 20) (.lit 0),.func 76 [.ptr (.rw 21) (.lit 0)]] (HMe (.var 1 (encT 1 s)) (.var 31 (setsL encP (kR s to sg me 13).1)) (.var 3 to) (.var 4 sg) (.var 5 me) (.var 32 (kR s to sg me 13).2.1) (.var 33 (kR s to sg me 13).2.2))))):=by
 rw [N21_eq]
 refine AWp.rng (f:=76) (cap:=[.ptr (.rw 21) 0]) (by rw [vHp_length];exact Nat.le_refl 22) (by kernel_rfl) ?_
 refine (m76_call G B hw to sg me).monoK ?_
 rintro v H ⟨rfl,rfl⟩
 refine ⟨rfl,.inr ?_⟩
 have e1:vHp G (HMe (.var 1 (encT 1 s)) (.var 31 (setsL encP (kR s to sg me 13).1)) (.var 3 to) (.var 4 sg) (.var 5 me) (.var 32 (kR s to sg me 13).2.1) (.var 33 (kR s to sg me 13).2.2))=can tsP (kR s to sg me 13).1++ex0 to sg me (kR s to sg me 13).2.1 (kR s to sg me 13).2.2:=by
  rw [←hp_can (t:=tsP) (s:=(kR s to sg me 13).1),show tsP.tb (ptrs 1 (kR s to sg me 13).1) (kR s to sg me 13).1=encT 1 s from (kR_inv hw to sg me 13).tab];rfl
 have e2:hpN s to sg me 13=vHp G (HMe (.var 1 (encT 1 s)) (.var 31 (setsL encP (kR s to sg me 13).1)) (.var 3 to) (.var 4 sg) (.var 5 me) (.var 32 (kR s to sg me 13).2.1) (.var 33 (kR s to sg me 13).2.2))++[some (⟨4294967291,rcM 0⟩:Blk)]:=by
  rw [e1];unfold hpN hpM exM ex0;rw [List.append_assoc];rfl
 rw [e2]
 refine View.same (by rw [vHp_length];exact Nat.le_refl 22) ?_ ⟨⟨rfl,rfl⟩,⟨rfl,rfl⟩,⟨rfl,rfl⟩,⟨rfl,rfl⟩,⟨rfl,rfl⟩,⟨rfl,rfl⟩,trivial⟩
 rw [vHp_length,e1]
 exact hpB_app (can_b2 _ (by show 14≤22;decide)) rfl
theorem dg21 (G:Nat→List AV) (B:Nat) {s:Ptb} (hw:Wf s) (n to sg:Int):DGood (⟨Try.prog,G,B⟩:Ctx) (Dr Try.prog [36,38,39,20,54] [] [] [DLat 2352 (isSt [.ptr (.rw 15) 0,.int .i64 0,.ptr (.rw 18) 0,.ptr (.rw 19) 0,.ptr (.rw 20) 0,.func 76 [.ptr (.rw 21) 0]] (vHp G (HMe (.var 1 (encT 1 s)) (.var 2 (setsL encP s)) (.var 3 to) (.var 4 sg) (.var 5 (s.at_ n.toNat).usr) (.var 6 false) (.var 7 false)))) 44 71 [6,8,11,12,13,43] (.one .normal [.ptr (.rw 15) (.lit 0),.int .i64 (.lit 0),.ptr (.rw 18) (.lit 0),.ptr (.rw 19) (.lit 0),.ptr (.rw 20) (.lit 0),.func 76 [.ptr (.rw 21) (.lit 0)]] (HMe (.var 1 (encT 1 s)) (.var 31 (setsL encP (kR s to sg (s.at_ n.toNat).usr 13).1)) (.var 3 to) (.var 4 sg) (.var 5 (s.at_ n.toNat).usr) (.var 32 (kR s to sg (s.at_ n.toNat).usr 13).2.1) (.var 33 (kR s to sg (s.at_ n.toNat).usr 13).2.2)))] noY 22) (loopsOf (bodyOf Try.f21)):=by
 rw [show loopsOf (bodyOf Try.f21)=[loopN Try.f21 0] by kernel_rfl]
 exact dgoodr (mix G B) (by kernel_rfl) .nil (.skip (by kernel_rfl) .nil) (.cons (i:=44) (by kernel_rfl) rfl (DCode_okC rfl (m_rng G B hw to sg (s.at_ n.toNat).usr)) .nil) noY_ok
theorem seen_KI {s s':Ptb} (h:KI s s'):Seen tsP s' 13 (some ⟨1,encT 1 s⟩::(List.range 13).map fun n=>some ⟨1,rowA (setsL encP s') n⟩):=seen_rows (t:=tsP) h.tab.symm tsP_ok (sets_same (t:=tsP) (s:=s') fun _ _ h=>h)
theorem p_kill (G:Nat→List AV) (B:Nat) {s:Ptb} (hw:Wf s) (n to sg:Int):ACalls (⟨Try.prog,G,B⟩:Ctx) 21 [.ptr (.rw 0) 0,.int .i64 n,.int .i64 to,.int .i64 sg] (can tsP s) fun v' H'=>v'=.int .i64 (killE s n to sg)∧H'=can tsP (killX s n to sg):=by
 have h:=dcall_ok (C:=(⟨Try.prog,G,B⟩:Ctx)) (K:=Dr Try.prog [36,38,39,20,54] [] [] [DLat 2352 (isSt [.ptr (.rw 15) 0,.int .i64 0,.ptr (.rw 18) 0,.ptr (.rw 19) 0,.ptr (.rw 20) 0,.func 76 [.ptr (.rw 21) 0]] (vHp G (HMe (.var 1 (encT 1 s)) (.var 2 (setsL encP s)) (.var 3 to) (.var 4 sg) (.var 5 (s.at_ n.toNat).usr) (.var 6 false) (.var 7 false)))) 44 71 [6,8,11,12,13,43] (.one .normal [.ptr (.rw 15) (.lit 0),.int .i64 (.lit 0),.ptr (.rw 18) (.lit 0),.ptr (.rw 19) (.lit 0),.ptr (.rw 20) (.lit 0),.func 76 [.ptr (.rw 21) (.lit 0)]] (HMe (.var 1 (encT 1 s)) (.var 31 (setsL encP (kR s to sg (s.at_ n.toNat).usr 13).1)) (.var 3 to) (.var 4 sg) (.var 5 (s.at_ n.toNat).usr) (.var 32 (kR s to sg (s.at_ n.toNat).usr 13).2.1) (.var 33 (kR s to sg (s.at_ n.toNat).usr 13).2.2)))] noY 22) (fuel:=300) (n0:=60) (f:=21) (fn:=Try.f21) (args:=[.ptr (.rw 0) (.lit 0),.int .i64 (.var 34 n),.int .i64 (.var 3 to),.int .i64 (.var 4 sg)]) (H:=(hp3 [some ⟨1,.var 1 (encT 1 s)⟩] (.var 2 (setsL encP s)) [])) (keep:=14)
  (R:=fun v' H'=>v'=.int .i64 (killE s n to sg)∧Seen tsP (killX s n to sg) 13 H') (dg21 G B hw n to sg) (by kernel_rfl) (by kernel_rfl) (by kernel_rfl) (by
  have:=m21 G (isSt [.ptr (.rw 15) 0,.int .i64 0,.ptr (.rw 18) 0,.ptr (.rw 19) 0,.ptr (.rw 20) 0,.func 76 [.ptr (.rw 21) 0]] (vHp G (HMe (.var 1 (encT 1 s)) (.var 2 (setsL encP s)) (.var 3 to) (.var 4 sg) (.var 5 (s.at_ n.toNat).usr) (.var 6 false) (.var 7 false)))) (encT 1 s) (setsL encP s) (setsL encP (kR s to sg (s.at_ n.toNat).usr 13).1) n to sg (s.at_ n.toNat).usr (kR s to sg (s.at_ n.toNat).usr 13).2.1 (kR s to sg (s.at_ n.toNat).usr 13).2.2 (fun _ _ _=>False) (fun v' H'=>v'=.int .i64 (killE s n to sg)∧Seen tsP (killX s n to sg) 13 H')
  refine Eq.mpr this ⟨rfl,fun _=>⟨rfl,rfl,live_tree 1 (fun hl=>?_) fun hl=>?_⟩,fun h=>by cases h⟩
  ·have h:=live_iff.1 hl
   have tu:=T_usr (b:=1) (s:=s) (n:=n.toNat) (by omega)
   refine ⟨fun h1=>?_,fun h1=>⟨fun h2=>?_,fun h2=>⟨fun h3=>?_,fun h3=>?_⟩⟩⟩
   ·have hg:killG to sg=true:=by unfold killG;rw [h1];rfl
    unfold killE killX
    rw [if_pos hl,if_pos hl,if_pos hg,if_pos hg];exact ⟨rfl,seen_same⟩
   ·have hg:killG to sg=true:=by unfold killG;rw [h2];simp
    unfold killE killX
    rw [if_pos hl,if_pos hl,if_pos hg,if_pos hg];exact ⟨rfl,seen_same⟩
   ·have hg:killG to sg=true:=by unfold killG;rw [h3];simp
    unfold killE killX
    rw [if_pos hl,if_pos hl,if_pos hg,if_pos hg];exact ⟨rfl,seen_same⟩
   ·have hg:¬killG to sg=true:=by unfold killG;rw [h1,h2,h3];simp
    have hx:killX s n to sg=(kR s to sg (s.at_ n.toNat).usr 13).1:=by unfold killX;rw [if_pos hl,if_neg hg];rfl
    have hs:=seen_KI (kR_inv hw to sg (s.at_ n.toNat).usr 13)
    rw [tu.2,hx]
    refine ⟨decide_eq_true (by omega),decide_eq_true (by omega),tu.1,isSt_refl,fun h4=>⟨fun h5=>⟨?_,hs⟩,fun h5=>⟨?_,hs⟩⟩,fun h4=>⟨?_,hs⟩⟩
    ·unfold killE killU;rw [if_pos hl,if_neg hg,if_pos h4,if_pos h5]
    ·unfold killE killU;rw [if_pos hl,if_neg hg,if_pos h4,if_neg (by rw [h5];simp)]
    ·unfold killE killU;rw [if_pos hl,if_neg hg,if_neg (by rw [h4];simp)]
  ·unfold killE killX
   rw [hl];exact ⟨rfl,seen_same⟩)
 rw [hT] at h
 exact pm_stay tsP_ok h rfl
end Go.Am
namespace Go.Am
open Crc
def killK:EL→List EV→Option (EV×EL):=fun x rest=>match rest with
 | [.int .i64 n,.int .i64 a,.int .i64 b]=>some (.int .i64 (.uf 2415 (xI3 killE) [.agg x,.int .i64 n,.int .i64 a,.int .i64 b]),.uf 2416 (xX3 killX) [.agg x,.int .i64 n,.int .i64 a,.int .i64 b])
 | _=>none
def takeK:EL→List EV→Option (EV×EL):=fun x rest=>match rest with
 | [.int .i64 n]=>some (.tup [.agg (.of [.int .i64 (.uf 2423 (xI1 takeG) [.agg x,.int .i64 n]),.bool (.uf 2424 (xB1 takeN) [.agg x,.int .i64 n]),.int .u32 (.uf 2425 (xI1 takeA) [.agg x,.int .i64 n])]),.bool (.uf 2426 (xB1 takeO) [.agg x,.int .i64 n])],.uf 2427 (xX1 takeX) [.agg x,.int .i64 n])
 | _=>none
section
variable {C:Ctx} {t:TS} {f:FuncId} {m:Md2}
theorem killK_ok (h:∀ s,Wf s→∀ n a b,ACalls C f [.ptr (.rw 0) 0,.int .i64 n,.int .i64 a,.int .i64 b] (can t s) fun v H'=>v=.int .i64 (killE s n a b)∧H'=mdHp t m (killX s n a b)) (hm:m≠.same):KOk C t m f killK:=by
 intro x rest v x' s hk hx hw
 unfold killK at hk
 split at hk
 ·rename_i n a b
  simp only [Option.some.injEq,Prod.mk.injEq] at hk
  obtain ⟨rfl,rfl⟩:=hk
  refine ⟨by simp [vVs,vV,bnds,bnd],by simp [vV,bnd],killX s (vI C.G n) (vI C.G a) (vI C.G b),by simp only [vL,vVs,vV,hx,xX3_enc hw.thin],(hw.killX _ _ _).thin,fun e=>absurd e hm,?_⟩
  simp only [vVs,vV,vI,hx,xI3_enc hw.thin]
  exact h s hw _ _ _
 ·simp at hk
theorem takeK_ok (h:∀ s,Wf s→∀ n,ACalls C f [.ptr (.rw 0) 0,.int .i64 n] (can t s) fun v H'=>v=takeVv s n∧H'=mdHp t m (takeX s n)) (hm:m≠.same):KOk C t m f takeK:=by
 intro x rest v x' s hk hx hw
 unfold takeK at hk
 split at hk
 ·rename_i n
  simp only [Option.some.injEq,Prod.mk.injEq] at hk
  obtain ⟨rfl,rfl⟩:=hk
  refine ⟨by simp [vVs,vV,bnds,bnd],by simp [vV,vVs,vL,bnds,bnd],takeX s (vI C.G n),by simp only [vL,vVs,vV,hx,xX1_enc hw.thin],(hw.takeX _).thin,fun e=>absurd e hm,?_⟩
  simp only [vVs,vV,vI,vB,vL,hx,xI1_enc hw.thin,xB1_enc hw.thin]
  exact h s hw _
 ·simp at hk
end
end Go.Am
namespace Go.Am
open Go.Proofs Crc
set_option maxRecDepth 100000
def HCd (T1 S1 T2 S2:EL):DHp:=[some ⟨1,T1⟩,some ⟨1,.row S1 (.lit 0)⟩,some ⟨1,.row S1 (.lit 1)⟩,some ⟨1,.row S1 (.lit 2)⟩,some ⟨1,.row S1 (.lit 3)⟩,some ⟨1,.row S1 (.lit 4)⟩,some ⟨1,.row S1 (.lit 5)⟩,some ⟨1,.row S1 (.lit 6)⟩,some ⟨1,.row S1 (.lit 7)⟩,some ⟨1,.row S1 (.lit 8)⟩,some ⟨1,.row S1 (.lit 9)⟩,some ⟨1,.row S1 (.lit 10)⟩,some ⟨1,.row S1 (.lit 11)⟩,some ⟨1,.row S1 (.lit 12)⟩,some ⟨1,T2⟩,some ⟨1,.row S2 (.lit 0)⟩,some ⟨1,.row S2 (.lit 1)⟩,some ⟨1,.row S2 (.lit 2)⟩,some ⟨1,.row S2 (.lit 3)⟩,some ⟨1,.row S2 (.lit 4)⟩,some ⟨1,.row S2 (.lit 5)⟩,some ⟨1,.row S2 (.lit 6)⟩,some ⟨1,.row S2 (.lit 7)⟩,some ⟨1,.row S2 (.lit 8)⟩,some ⟨1,.row S2 (.lit 9)⟩,some ⟨1,.row S2 (.lit 10)⟩,some ⟨1,.row S2 (.lit 11)⟩,some ⟨1,.row S2 (.lit 12)⟩]
theorem cp_b (G:Nat→List AV) (tb sl tc sc:List AV) (i:Nat) (Q:Ex→List AV→Hp→Prop) (R:AV→Hp→Prop):vT G Q R (dloop (Df Try.prog [(48,1,13)] [36,37,55] [(37,fCopyS sideP)] [] 0) 300 20 15 (loopN Try.f12 0) 27 [0,2,3,11] [.ptr (.rw 0) (.lit 0),.nilp,.ptr (.rw 14) (.lit 0),.int .i64 (.ofN (.var 8 i))] (HCd (.var 1 tb) (.var 2 sl) (.var 21 tc) (.var 22 sc)))=(
  (decide ((((i:Nat):Int):Int)<13)=true→
 decide ((0:Int)≤((i:Nat):Int))=true∧
 decide ((((i:Nat):Int):Int)<13)=true∧
 (isNilA tb ((i)*7+7)=true→
 decide ((0:Int)≤((i:Nat):Int))=true∧
 decide ((((i:Nat):Int):Int)<13)=true∧
 leB ((i)*7+8) (List.length tc)=true∧
 Q .normal [.ptr (.rw 0) (0),.nilp,.ptr (.rw 14) (0),.int .i64 (IntKind.wrap .i64 (((i:Nat):Int)+1))] ([some ⟨1,tb⟩]++(rows13 sl++([some ⟨1,(setPart tc ((i)*7+7) (.nilp))⟩]++rows13 sc))))∧
 (isNilA tb ((i)*7+7)=false→
 isPA 1 13 tb ((i)*7+7)=true∧
 leB (fkA 1 tb ((i)*7+7)+1) (13)=true∧
 rowsA sl (rp 13 sl)=true∧
 isB (rowA sl (fkA 1 tb ((i)*7+7))) (foA tb ((i)*7+7))=true∧
 (getB (rowA sl (fkA 1 tb ((i)*7+7))) (foA tb ((i)*7+7))=true→
 leB (fkA 1 tb ((i)*7+7)+1) (13)=true∧
 rowsA sl (rp 13 sl)=true∧
 leB (foA tb ((i)*7+7)+19) (List.length (rowA sl (fkA 1 tb ((i)*7+7))))=true∧
 cellsB (subL (rowA sl (fkA 1 tb ((i)*7+7))) (foA tb ((i)*7+7)) (19))=true∧
 Nat.beq (List.length (subL (rowA sl (fkA 1 tb ((i)*7+7))) (foA tb ((i)*7+7)) (19))) (19)=true∧
 decide ((0:Int)≤((i:Nat):Int))=true∧
 decide ((((i:Nat):Int):Int)<13)=true∧
 leB ((i)*7+8) (List.length tc)=true∧
 Q .normal [.ptr (.rw 0) (0),.nilp,.ptr (.rw 14) (0),.int .i64 (IntKind.wrap .i64 (((i:Nat):Int)+1))] ([some ⟨1,tb⟩]++(rows13 sl++([some ⟨1,(setPart tc ((i)*7+7) (.ptr (.rw 28) (0)))⟩]++(rows13 sc++[some ⟨1,(subL (rowA sl (fkA 1 tb ((i)*7+7))) (foA tb ((i)*7+7)) (19))⟩])))))∧
 (getB (rowA sl (fkA 1 tb ((i)*7+7))) (foA tb ((i)*7+7))=false→
 decide ((0:Int)≤((i:Nat):Int))=true∧
 decide ((((i:Nat):Int):Int)<13)=true∧
 leB ((i)*7+8) (List.length tc)=true∧
 Q .normal [.ptr (.rw 0) (0),.nilp,.ptr (.rw 14) (0),.int .i64 (IntKind.wrap .i64 (((i:Nat):Int)+1))] ([some ⟨1,tb⟩]++(rows13 sl++([some ⟨1,(setPart tc ((i)*7+7) (.nilp))⟩]++rows13 sc))))))∧
 (decide ((((i:Nat):Int):Int)<13)=false→
 Q (.exit 0) [.ptr (.rw 0) (0),.nilp,.ptr (.rw 14) (0),.int .i64 (((i:Nat):Int))] ([some ⟨1,tb⟩]++(rows13 sl++([some ⟨1,tc⟩]++rows13 sc))))):=by kernel_rfl
theorem cp_c (G:Nat→List AV) (rl:List AV→Bool) (tb sl tc sc:List AV) (Q:Ex→List AV→Hp→Prop) (R:AV→Hp→Prop):vT G Q R (dcall (Df Try.prog [] [36,37,55] [] [DLat 2360 (rl) 0 27 [0,2,3,11] (.one (.exit 0) [.undef,.undef,.ptr (.rw 14) (.lit 0),.undef] (HCd (.var 1 tb) (.var 2 sl) (.var 21 tc) (.var 22 sc)))] 15) 300 20 Try.f12 [.ptr (.rw 0) (.lit 0)] (hp3 [some ⟨1,.var 1 tb⟩] (.var 2 sl) []) 28)=(
  isB tb (0)=true∧
 (getB tb (0)=true→
 leB (92) (List.length tb)=true∧
 cellsB (subL tb (0) (92))=true∧
 Nat.beq (List.length (subL tb (0) (92))) (92)=true∧
 (rl) [.agg ([.ptr (.rw 0) (0),.nilp,.ptr (.rw 14) (0),.int .i64 (0)]:List AV),.agg ((tp3 [.tup [.int .i64 (1),.agg tb]] sl [.tup [.int .i64 (1),.agg (subL tb (0) (92))]]):List AV)]=true∧
 R (.ptr (.rw 14) (0)) ([some ⟨1,tb⟩]++(rows13 sl++([some ⟨1,tc⟩]++rows13 sc))))∧
 (getB tb (0)=false→
 R (.nilp) ([some ⟨1,tb⟩]++rows13 sl))):=by kernel_rfl
end Go.Am
namespace Go.Am
open Crc
theorem thF_get {N:Nat} {g:Nat→Nat} {i:Nat} (hi:i<N):((List.range N).map g).getD i 0=g i:=by
 simp [List.getD,hi]
theorem View.fn {m N:Nat} {F F':Fr} {H H':Hp} (g:Nat→Nat) (hN:H.length=N) (hm:m≤N) (hfix:∀ i,i<m→g i=i) (hinj:∀ i j,i<N→j<N→g i=g j→i=j)
  (hb:∀ i,i<N→∃ b b',H[i]?=some (some b)∧H'[g i]?=some (some b')∧b.esz=b'.esz∧bnds N b.cells=true∧((b.cells=[]∧b.esz=1)∨b'.cells=rens ((List.range N).map g) b.cells))
  (hF:bnds N F=true) (hF':wk (rens ((List.range N).map g) F) F'):View m F H F' H':=by
 have hl:((List.range N).map g).length=N:=by simp
 refine ⟨(List.range N).map g,by rw [hl,hN],by omega,fun i hi=>by rw [thF_get (by omega)];exact hfix i hi,fun i hi=>?_,fun i j b b' h1 h2 he=>?_,fun i b h=>?_,by rw [←wk_length hF',rens_eq];simp,fun k v hk=>?_⟩
 ·rw [hl] at hi
  rw [thF_get hi]
  obtain ⟨b,b',_,h2,_⟩:=hb i hi
  exact (List.getElem?_eq_some_iff.1 h2).1
 ·have hi:=(List.getElem?_eq_some_iff.1 h1).1
  have hj:=(List.getElem?_eq_some_iff.1 h2).1
  rw [hN] at hi hj
  rw [thF_get hi,thF_get hj] at he
  exact hinj i j hi hj he
 ·have hi:=(List.getElem?_eq_some_iff.1 h).1
  rw [hN] at hi
  obtain ⟨b1,b',h1,h2,h3,h4,h5⟩:=hb i hi
  rw [h] at h1
  simp only [Option.some.injEq] at h1
  subst h1
  rw [thF_get hi]
  refine ⟨b',h2,?_,h3,fun k v hk=>?_,fun hr=>?_⟩
  ·rcases h5 with ⟨h5,_⟩ | h5
   ·rw [h5];exact Nat.zero_le _
   ·rw [h5,rens_eq];simp
  ·rcases h5 with ⟨h5,_⟩ | h5
   ·rw [h5] at hk;simp at hk
   ·rw [bnds_eq,List.all_eq_true] at h4
    refine ⟨by rw [hl];exact h4 v (List.mem_of_getElem? hk),.inr ?_⟩
    rw [h5,rens_eq];simp [hk]
  ·rcases h5 with ⟨_,h5⟩ | h5
   ·unfold isRec at hr;rw [h5] at hr;cases hr
   ·rw [h5,rens_eq];simp
 ·rw [bnds_eq,List.all_eq_true] at hF
  refine ⟨by rw [hl];exact hF v (List.mem_of_getElem? hk),?_⟩
  rcases wk_get hF' k (Go.Am.ren ((List.range N).map g) v) (by rw [rens_eq];simp [hk]) with h | h
  ·left
   cases v with
   | undef=>rfl
   | ptr r o=>cases r<;>simp [Go.Am.ren] at h
   | slice m r o n=>cases r<;>simp [Go.Am.ren] at h
   | _=>simp [Go.Am.ren] at h
  ·exact .inr h
def canB (t:TS) (p:Nat→AV) (s s':Ptb):Hp:=some ⟨1,t.tb p s⟩::setsB t s'
theorem canB_len {t:TS} {p:Nat→AV} {s s':Ptb}:(canB t p s s').length=14:=by simp [canB,setsB_len]
theorem canB_get0 {t:TS} {p:Nat→AV} {s s':Ptb}:(canB t p s s')[0]?=some (some ⟨1,t.tb p s⟩):=rfl
theorem canB_get {t:TS} {p:Nat→AV} {s s':Ptb} {n:Nat} (h:n<13):(canB t p s s')[n+1]?=some (some ⟨1,blkO t.enc (s'.sg n)⟩):=by
 unfold canB
 rw [List.getElem?_cons_succ,setsB_get h]
def cutS (s:Ptb) (k:Nat):Ptb:=⟨s.at_,fun j=>if j<k then s.sg j else none⟩
def cpT (s:Ptb) (k:Nat):Nat→AV:=fun j=>if j<k then ptrs 15 s j else ptrs 1 s j
theorem setsB_cut {t:TS} {s:Ptb}:setsB t (cutS s 13)=setsB t s:=by
 unfold setsB
 refine List.map_congr_left fun n hn=>?_
 show some (⟨1,blkO t.enc (if n<13 then s.sg n else none)⟩:Blk)=_
 rw [if_pos (List.mem_range.1 hn)]
theorem cut_succ {s:Ptb} {k n:Nat}:(cutS s (k+1)).sg n=if n=k then s.sg n else (cutS s k).sg n:=by
 show (if n<k+1 then s.sg n else none)=if n=k then s.sg n else (if n<k then s.sg n else none)
 by_cases e:n=k
 ·rw [if_pos e,if_pos (by omega)]
 ·by_cases f:n<k
  ·rw [if_neg e,if_pos (by omega),if_pos f]
  ·rw [if_neg e,if_neg (by omega),if_neg f]
theorem bnd_ptrs' {s:Ptb} {b m n:Nat} (h:b+n<m):bnd m (ptrs b s n)=true:=by
 unfold ptrs ptrO
 split
 ·rfl
 ·simpa [bnd] using h
theorem bnd_cpT {s:Ptb} {k n m:Nat} (hn:n<13) (hm:28≤m):bnd m (cpT s k n)=true:=by
 unfold cpT
 split
 ·exact bnd_ptrs' (by omega)
 ·exact bnd_ptrs' (by omega)
def hpC (t:TS) (s:Ptb) (k:Nat):Hp:=can t s++canB t (cpT s k) s (cutS s k)
theorem hpC_len {t:TS} {s:Ptb} {k:Nat}:(hpC t s k).length=28:=by simp [hpC,can_len,canB_len]
theorem blkO_bnd {t:TS} (ht:TSOk t) (x:Option Sg) (m:Nat):bnds m (blkO t.enc x)=true:=by
 cases x with
 | none=>rfl
 | some p=>exact ht.flatE p m
theorem rens_flat' {t:TS} (ht:TSOk t) (x:Option Sg) (θ:List Nat):rens θ (blkO t.enc x)=blkO t.enc x:=rens_flat θ _ (blkO_bnd ht x 0)
end Go.Am
namespace Go.Am
open Go.Proofs Crc
set_option maxRecDepth 100000
theorem setsB_rows {t:TS} (s:Ptb):setsB t s=(List.range 13).map fun n=>some (⟨1,rowA (setsL t.enc s) n⟩:Blk):=by
 unfold setsB
 refine List.map_congr_left fun n hn=>?_
 rw [rowA_sets (List.mem_range.1 hn)]
theorem hC (G:Nat→List AV) (s:Ptb) (k:Nat):vHp G (HCd (.var 1 (encT 1 s)) (.var 2 (setsL encP s)) (.var 21 (encV (cpT s k) s)) (.var 22 (setsL encP (cutS s k))))=hpC tsP s k:=by
 unfold hpC canB
 rw [←hp_can (t:=tsP) (s:=s),setsB_rows];rfl
theorem cp_tab {s:Ptb} {k:Nat} (v:AV) (hv:∀ l,v≠.agg l):setPart (encV (cpT s k) s) (k*7+7) v=encV (fun j=>if j=k then v else cpT s k j) s:=V_ptr hv
theorem cpT_none {s:Ptb} {k:Nat} (h:s.sg k=none):(fun j=>if j=k then AV.nilp else cpT s k j)=cpT s (k+1):=by
 funext j
 unfold cpT
 by_cases e:j=k
 ·subst e
  rw [if_pos rfl,if_pos (by omega)]
  unfold ptrs;rw [h];rfl
 ·rw [if_neg e]
  by_cases f:j<k
  ·rw [if_pos f,if_pos (by omega)]
  ·rw [if_neg f,if_neg (by omega)]
theorem cut_none {s:Ptb} {k:Nat} (h:s.sg k=none):cutS s (k+1)=cutS s k:=by
 unfold cutS
 congr 1
 funext j
 by_cases e:j=k
 ·subst e
  rw [if_pos (by omega),if_neg (by omega),h]
 ·by_cases f:j<k
  ·rw [if_pos f,if_pos (by omega)]
  ·rw [if_neg f,if_neg (by omega)]
theorem hpC_bnd {s:Ptb} {k:Nat} {m:Nat} (hm:28≤m):hpB m (hpC tsP s k)=true:=by
 unfold hpC
 refine hpB_app (can_b2 s (by omega)) ?_
 unfold canB
 have h1:bnds m (encV (cpT s k) s)=true:=tsP_ok.bnd m (cpT s k) s fun n hn=>bnd_cpT hn (by omega)
 have h2:∀ l:List Nat,hpB m (l.map fun n=>some (⟨1,blkO encP ((cutS s k).sg n)⟩:Blk))=true:=fun l=>by
  induction l with
  | nil=>rfl
  | cons a l ih=>simp only [List.map_cons,hpB,ih,Bool.and_true];exact blkO_bnd tsP_ok _ _
 simp only [hpB]
 rw [Bool.and_eq_true]
 exact ⟨h1,h2 _⟩
theorem cp_view {s:Ptb} {k:Nat} (hk:k<13) {p:Sg} (hp:s.sg k=some p) {H':Hp} (hH:H'=can tsP s++canB tsP (fun j=>if j=k then .ptr (.rw 28) 0 else cpT s k j) s (cutS s k)++[some ⟨1,encP p⟩]) (n:Int) :
  View 15 [.ptr (.rw 0) 0,.nilp,.ptr (.rw 14) 0,.int .i64 n] (hpC tsP s (k+1)) [.ptr (.rw 0) 0,.nilp,.ptr (.rw 14) 0,.int .i64 n] H':=by
 subst hH
 have eg:∀ i,i<15→(if i=15+k then 28 else i)=i:=fun i hi=>if_neg (by omega)
 refine View.fn (N:=28) (fun i=>if i=15+k then 28 else i) hpC_len (by omega) eg (fun i j hi hj h=>?_) (fun i hi=>?_) rfl ?_
 ·by_cases a:i=15+k
  ·by_cases b:j=15+k
   ·omega
   ·rw [if_pos a,if_neg b] at h;omega
  ·by_cases b:j=15+k
   ·rw [if_neg a,if_pos b] at h;omega
   ·rw [if_neg a,if_neg b] at h;exact h
 ·have th:∀ j,j<28→((List.range 28).map fun i=>if i=15+k then 28 else i).getD j 0=if j=15+k then 28 else j:=fun j hj=>thF_get hj
  by_cases h14:i<14
  ·rw [show (if i=15+k then 28 else i)=i from if_neg (by omega)]
   unfold hpC
   rw [List.append_assoc,List.getElem?_append_left (by rw [can_len];exact h14),List.getElem?_append_left (by rw [can_len];exact h14)]
   cases i with
   | zero=>
    refine ⟨_,_,rfl,rfl,rfl,tsP_ok.bnd 28 (ptrs 1 s) s fun n hn=>bnd_ptrs' (by omega),.inr ?_⟩
    rw [tsP_ok.ren]
    refine tsP_ok.congr _ _ _ fun n hn=>?_
    unfold ptrs ptrO
    split
    ·rfl
    ·simp only [ren]
     rw [th (1+n) (by omega),if_neg (by omega)]
   | succ n=>
    have hg:(can tsP s)[n+1]?=some (some ⟨1,blkO encP (s.sg n)⟩):=canB_get (by omega)
    refine ⟨_,_,hg,hg,rfl,blkO_bnd tsP_ok _ _,.inr (rens_flat' tsP_ok _ _).symm⟩
  ·obtain ⟨j,rfl⟩:∃ j,i=14+j:=⟨i - 14,by omega⟩
   unfold hpC
   rw [List.getElem?_append_right (by rw [can_len];omega),can_len,show 14+j - 14=j by omega]
   cases j with
   | zero=>
    rw [show (if 14+0=15+k then 28 else 14+0)=14 from if_neg (by omega),List.append_assoc,List.getElem?_append_right (by rw [can_len];omega),can_len]
    refine ⟨_,_,rfl,rfl,rfl,tsP_ok.bnd 28 (cpT s (k+1)) s fun n hn=>bnd_cpT hn (by omega),.inr ?_⟩
    show encV (fun j=>if j=k then .ptr (.rw 28) 0 else cpT s k j) s=_
    rw [show tsP.tb (cpT s (k+1)) s=encV (cpT s (k+1)) s from rfl,show rens ((List.range 28).map fun i=>if i=15+k then 28 else i) (encV (cpT s (k+1)) s)=tsP.tb _ s from tsP_ok.ren _ _ _]
    refine tsP_ok.congr _ _ _ fun n hn=>?_
    by_cases e:n=k
    ·subst e
     rw [if_pos rfl]
     unfold cpT
     rw [if_pos (by omega)]
     unfold ptrs ptrO
     rw [hp]
     simp only [ren]
     rw [th _ (by omega),if_pos rfl]
    ·rw [if_neg e]
     have:cpT s (k+1) n=cpT s k n:=by
      unfold cpT
      by_cases f:n<k
      ·rw [if_pos f,if_pos (by omega)]
      ·rw [if_neg f,if_neg (by omega)]
     rw [this]
     unfold cpT
     split
     ·unfold ptrs ptrO
      split
      ·rfl
      ·simp only [ren]
       rw [th _ (by omega),if_neg (by omega)]
     ·unfold ptrs ptrO
      split
      ·rfl
      ·simp only [ren]
       rw [th _ (by omega),if_neg (by omega)]
   | succ n=>
    have hn:n<13:=by omega
    have hg:(canB tsP (cpT s (k+1)) s (cutS s (k+1)))[n+1]?=some (some ⟨1,blkO encP ((cutS s (k+1)).sg n)⟩):=canB_get hn
    by_cases e:n=k
    ·subst e
     rw [show (if 14+(n+1)=15+n then 28 else 14+(n+1))=28 from if_pos (by omega)]
     refine ⟨_,⟨1,encP p⟩,hg,?_,rfl,blkO_bnd tsP_ok _ _,.inr ?_⟩
     ·rw [List.getElem?_append_right (by rw [List.length_append,can_len,canB_len];omega),List.length_append,can_len,canB_len];rfl
     ·show encP p=rens _ (blkO encP _)
      rw [cut_succ,if_pos rfl,hp]
      exact (rens_flat' tsP_ok (some p) _).symm
    ·rw [show (if 14+(n+1)=15+k then 28 else 14+(n+1))=14+(n+1) from if_neg (by omega)]
     rw [List.getElem?_append_left (by rw [List.length_append,can_len,canB_len];omega),List.getElem?_append_right (by rw [can_len];omega),can_len,show 14+(n+1) - 14=n+1 by omega]
     refine ⟨_,_,hg,canB_get hn,rfl,blkO_bnd tsP_ok _ _,.inr ?_⟩
     show blkO encP ((cutS s k).sg n)=rens _ (blkO encP _)
     rw [cut_succ,if_neg e]
     exact (rens_flat' tsP_ok _ _).symm
 ·have t0:((List.range 28).map fun i=>if i=15+k then 28 else i).getD 0 0=0:=by rw [thF_get (by omega),if_neg (by omega)]
  have t14:((List.range 28).map fun i=>if i=15+k then 28 else i).getD 14 0=14:=by rw [thF_get (by omega),if_neg (by omega)]
  simp only [rens,ren,t0,t14]
  simp [wk]
theorem cp_loop (G:Nat→List AV) (B:Nat) {s:Ptb} (hw:Wf s):AWp (⟨Try.prog,G,B⟩:Ctx) 15 (.loop (loopN Try.f12 0)) (fl 27 [0,2,3,11] [.ptr (.rw 0) 0,.nilp,.ptr (.rw 14) 0,.int .i64 0]) (hpC tsP s 0) (lv 27 [0,2,3,11] fun e vs H=>e=.exit 0∧wk [.undef,.undef,.ptr (.rw 14) 0,.undef] vs∧H=hpC tsP s 13):=by
  refine scan 13 (fun i=>[.ptr (.rw 0) 0,.nilp,.ptr (.rw 14) 0,.int .i64 (i:Int)]) (hpC tsP s) fun k hk=>?_
  rw [← hC G s k]
  refine dloop_ok (C:=(⟨Try.prog,G,B⟩:Ctx)) (K:=Df Try.prog [(48,1,13)] [36,37,55] [(37,fCopyS sideP)] [] 0) (fuel:=300) (n0:=20) (m:=15) (c:=loopN Try.f12 0) (vs:=[.ptr (.rw 0) (.lit 0),.nilp,.ptr (.rw 14) (.lit 0),.int .i64 (.ofN (.var 8 k))]) (H:=(HCd (.var 1 (encT 1 s)) (.var 2 (setsL encP s)) (.var 21 (encV (cpT s k) s)) (.var 22 (setsL encP (cutS s k))))) (by rw [show loopsOf (loopN Try.f12 0)=[] by kernel_rfl];exact dgoodf (mix G B) (by kernel_rfl) (.cons (fCopyS_ok (sideP_ok G) (p_copy G B)) .nil) .nil) (by simp [HCd]) ?_
  rw [cp_b]
  have lt:(encV (cpT s k) s).length=92:=encV_len _ _
  have hps:=T_ptr (b:=1) (s:=s) (n:=k)
  refine ⟨fun h1=>?_,fun h1=>?_⟩
  · have hk':k<13:=by have:=of_decide_eq_true h1;omega
    have hpk:=hps hk'
    refine ⟨decide_eq_true (by omega),h1,fun h2=>⟨decide_eq_true (by omega),h1,leB_iff.2 (by rw [lt];omega),hk',.inr ?_⟩,fun h2=>?_⟩
    · have hn:s.sg k=none:=by
        rw [ptr_nil hpk] at h2
        cases e:s.sg k with
        | none=>rfl
        | some p=>rw [e] at h2;cases h2
      rw [i64_in (by omega),cp_tab _ (by intro l h;cases h),cpT_none hn]
      have e2:vHp G (HCd (.var 1 (encT 1 s)) (.var 2 (setsL encP s)) (.var 21 (encV (cpT s (k+1)) s)) (.var 22 (setsL encP (cutS s k))))=hpC tsP s (k+1):=by
        rw [←hC G s (k+1),cut_none hn]
      have hv:∀ H',H'=hpC tsP s (k+1)→View 15 [.ptr (.rw 0) 0,.nilp,.ptr (.rw 14) 0,.int .i64 ((k+1:Nat):Int)] (hpC tsP s (k+1)) [.ptr (.rw 0) 0,.nilp,.ptr (.rw 14) 0,.int .i64 ((k+1:Nat):Int)] H':=fun H' e=>by
        have hv:View 15 [.ptr (.rw 0) 0,.nilp,.ptr (.rw 14) 0,.int .i64 ((k+1:Nat):Int)] (hpC tsP s (k+1)) [.ptr (.rw 0) 0,.nilp,.ptr (.rw 14) 0,.int .i64 ((k+1:Nat):Int)] (hpC tsP s (k+1)++[]):=by
          refine View.same (by rw [hpC_len];omega) (by rw [hpC_len];exact hpC_bnd (by omega)) ?_
          rw [hpC_len]
          exact ⟨⟨rfl,rfl⟩,⟨rfl,rfl⟩,⟨rfl,rfl⟩,⟨rfl,rfl⟩,trivial⟩
        rw [List.append_nil] at hv
        rw [e];exact hv
      exact hv _ e2
    · cases e:s.sg k with
      | none=>rw [ptr_nil hpk,e] at h2;cases h2
      | some p=>
        obtain ⟨f1,f2,f3,f4,f5⟩:=fam_facts hk' e
        rw [f3,f4,f5]
        have es:subL (encP p) 0 19=encP p:=by unfold subL;rw [List.drop_zero,List.take_of_length_le (by rw [encP_length];omega)]
        rw [es]
        refine ⟨f2,leB_iff.2 (by omega),rowsA_same _ 13,rfl,fun _=>⟨leB_iff.2 (by omega),rowsA_same _ 13,leB_iff.2 (by rw [encP_length];omega),encP_cells p,by rw [encP_length];rfl,decide_eq_true (by omega),h1,leB_iff.2 (by rw [lt];omega),hk',.inr ?_⟩,fun h=>by cases h⟩
        rw [i64_in (by omega),cp_tab _ (by intro l h;cases h)]
        refine cp_view hk' e ?_ _
        unfold canB
        rw [←hp_can (t:=tsP) (s:=s),setsB_rows];rfl
  · have hk13:k=13:=by have:=of_decide_eq_false h1;omega
    subst hk13
    exact ⟨rfl,by simp [wk],hC G s 13⟩
theorem AWp.pads {C:Ctx} {m:Nat} {c:Code} {F:Fr} {Q:Post}:∀ (k:Nat) {H:Hp},m≤H.length→AWp C m c F (H++List.replicate k (some ⟨1,[]⟩)) Q→AWp C m c F H Q
 | 0,H,_,h=>by rw [List.replicate_zero,List.append_nil] at h;exact h
 | k+1,H,hm,h=>by
  refine AWp.nil 1 hm (nilrs_refl _) (nilH_refl H) (AWp.pads k (by rw [List.length_append];omega) ?_)
  rw [List.append_assoc,List.singleton_append,←List.replicate_succ];exact h
theorem hC0 (G:Nat→List AV) (s:Ptb):vHp G (hp3 [some ⟨1,.var 1 (encT 1 s)⟩] (.var 2 (setsL encP s)) [some ⟨1,.var 1 (encT 1 s)⟩])++List.replicate 13 (some ⟨1,[]⟩)=hpC tsP s 0:=by
 have e:vHp G (hp3 [some ⟨1,.var 1 (encT 1 s)⟩] (.var 2 (setsL encP s)) [some ⟨1,.var 1 (encT 1 s)⟩])=can tsP s++[some ⟨1,encT 1 s⟩]:=by rw [←hp_can (t:=tsP) (s:=s)];rfl
 rw [e,List.append_assoc]
 rfl
theorem cp_loop0 (G:Nat→List AV) (B:Nat) {s:Ptb} (hw:Wf s):AWp (⟨Try.prog,G,B⟩:Ctx) 15 (.loop (loopN Try.f12 0)) (fl 27 [0,2,3,11] [.ptr (.rw 0) 0,.nilp,.ptr (.rw 14) 0,.int .i64 0]) (vHp G (hp3 [some ⟨1,.var 1 (encT 1 s)⟩] (.var 2 (setsL encP s)) [some ⟨1,.var 1 (encT 1 s)⟩])) (lv 27 [0,2,3,11] (LOut.post G 15 (.one (.exit 0) [.undef,.undef,.ptr (.rw 14) (.lit 0),.undef] (HCd (.var 1 (encT 1 s)) (.var 2 (setsL encP s)) (.var 21 (encV (cpT s 13) s)) (.var 22 (setsL encP (cutS s 13))))))):=by
 refine AWp.pads 13 (by rw [vHp_length];exact Nat.le_refl 15) ?_
 rw [hC0]
 refine (cp_loop G B hw).lmono ?_
 rintro ex vs H ⟨rfl,h1,rfl⟩
 exact ⟨rfl,.inl ⟨h1,(hC G s 13).symm⟩⟩
theorem cp13 {t:TS} (ht:TSOk t) {s:Ptb}:canB t (cpT s 13) s (cutS s 13)=canB t (ptrs 15 s) s s:=by
 unfold canB
 rw [setsB_cut,ht.congr (cpT s 13) (ptrs 15 s) s fun n hn=>by unfold cpT;rw [if_pos hn]]
theorem encT_cells (b:Nat) (s:Ptb):cellsB (encT b s)=true:=by
 unfold cellsB encT tabL
 simp only [List.all_cons,Bool.and_eq_true,List.all_eq_true,List.mem_map]
 refine ⟨rfl,?_⟩
 rintro x ⟨j,_,rfl⟩
 have h:∀ k,isCell (fcell (s.at_ (j / 7)) (ptrO b (j / 7) (s.sg (j / 7))) k)=true:=fun k=>by
  match k with
  | 0 | 1 | 2 | 3 | 4 | 5=>rfl
  | k+6=>show isCell (ptrO b (j / 7) (s.sg (j / 7)))=true;cases s.sg (j / 7)<;>rfl
 exact h _
theorem p_copyM (G:Nat→List AV) (B:Nat) {s:Ptb} (hw:Wf s):ACalls (⟨Try.prog,G,B⟩:Ctx) 12 [.ptr (.rw 0) 0] (can tsP s) fun v H'=>v=.ptr (.rw 14) 0∧H'=can tsP s++canB tsP (ptrs 15 s) s s:=by
 have h:=dcall_ok (C:=(⟨Try.prog,G,B⟩:Ctx)) (K:=Df Try.prog [] [36,37,55] [] [DLat 2360 (isSt [.ptr (.rw 0) 0,.nilp,.ptr (.rw 14) 0,.int .i64 0] (vHp G (hp3 [some ⟨1,.var 1 (encT 1 s)⟩] (.var 2 (setsL encP s)) [some ⟨1,.var 1 (encT 1 s)⟩]))) 0 27 [0,2,3,11] (.one (.exit 0) [.undef,.undef,.ptr (.rw 14) (.lit 0),.undef] (HCd (.var 1 (encT 1 s)) (.var 2 (setsL encP s)) (.var 21 (encV (cpT s 13) s)) (.var 22 (setsL encP (cutS s 13)))))] 15) (fuel:=300) (n0:=20) (f:=12) (fn:=Try.f12) (args:=[.ptr (.rw 0) (.lit 0)]) (H:=(hp3 [some ⟨1,.var 1 (encT 1 s)⟩] (.var 2 (setsL encP s)) [])) (keep:=28)
  (R:=fun v H=>v=.ptr (.rw 14) 0∧H=hpC tsP s 13) (dgoodf (mix G B) (by kernel_rfl) .nil (.cast (.cons (i:=0) (by kernel_rfl) rfl (DLat_okC rfl (cp_loop0 G B hw)) .nil) (by kernel_rfl))) (by kernel_rfl) (by kernel_rfl) (by kernel_rfl) (by
  have:=cp_c G (isSt [.ptr (.rw 0) 0,.nilp,.ptr (.rw 14) 0,.int .i64 0] (vHp G (hp3 [some ⟨1,.var 1 (encT 1 s)⟩] (.var 2 (setsL encP s)) [some ⟨1,.var 1 (encT 1 s)⟩]))) (encT 1 s) (setsL encP s) (encV (cpT s 13) s) (setsL encP (cutS s 13)) (fun _ _ _=>False) (fun v H=>v=.ptr (.rw 14) 0∧H=hpC tsP s 13)
  have es:subL (encT 1 s) 0 92=encT 1 s:=by unfold subL;rw [List.drop_zero,List.take_of_length_le (by rw [encT_len];omega)]
  rw [es] at this
  exact Eq.mpr this ⟨rfl,fun _=>⟨leB_iff.2 (by rw [encT_len];omega),encT_cells 1 s,by rw [encT_len];rfl,isSt_refl,rfl,hC G s 13⟩,fun h=>by cases h⟩)
 rw [hT] at h
 have e:hpC tsP s 13=can tsP s++canB tsP (ptrs 15 s) s s:=by unfold hpC;rw [cp13 tsP_ok]
 rw [←e]
 refine ACalls.keep (k:=28) h ?_ ?_ rfl (by simp)
 ·rw [hpC_len,can_len];omega
 ·rw [hpC_len];exact hpC_bnd (by omega)
end Go.Am
