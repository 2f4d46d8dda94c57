/-
  Processes: the document's Wait: trees. Processes: the document's Wait: the loop.
-/
import Derived.Test.YtkabjomhnddnoaaPart25
import Derived.Test.YtkabjomhnddnoaaBase10
import Derived.Test.YtkabjomhnddnoaaPart14
import Derived.Test.YtkabjomhnddnoaaPart22
import Derived.Test.YtkabjomhnddnoaaPart20
import Derived.Test.YtkabjomhnddnoaaPart24
namespace Go.Am
open Go.Proofs Crc
set_option maxRecDepth 100000
theorem wu_b (G:Nat→List AV) (tb sl ks:List AV) (w:Int) (c i:Nat) (wb:Bool) (Q:Ex→List AV→Hp→Prop) (R:AV→Hp→Prop):vT G Q R (dloop (Dc Try.prog [69] [] [] 0) 300 40 14 (loopN Try.f43 0) 83 [0,2,6,7,8,9,11,12,13] [.ptr (.rw 0) (.lit 0),.int .i64 (.var 4 w),.int .i64 (.lit 0),.int .i64 (.lit 0),.bool (.lit false),.int .i64 (.lit 0),.slice true (.rw 14) (.lit 0) (.var 6 c),.bool (.var 7 wb),.int .i64 (.ofN (.var 8 i))] (hp3 [some ⟨1,.var 1 tb⟩] (.var 2 sl) [some ⟨1,.var 22 ks⟩]))=(
  (decide ((((i:Nat):Int):Int)<((c:Nat):Int))=true→
 (((w:Int)==(-1))=true→
 decide ((0:Int)≤((i:Nat):Int))=true∧
 decide ((((i:Nat):Int):Int)<((c:Nat):Int))=true∧
 isI .i64 ks (i)=true∧
 decide ((0:Int)≤getI ks (i))=true∧
 decide ((getI ks (i):Int)<13)=true∧
 isB tb ((Int.toNat (getI ks (i)))*6+4)=true∧
 (getB tb ((Int.toNat (getI ks (i)))*6+4)=true→
 decide ((0:Int)≤((i:Nat):Int))=true∧
 decide ((((i:Nat):Int):Int)<((c:Nat):Int))=true∧
 isI .i64 ks (i)=true∧
 decide ((0:Int)≤getI ks (i))=true∧
 decide ((getI ks (i):Int)<13)=true∧
 isI .i64 tb ((Int.toNat (getI ks (i)))*6+5)=true∧
 decide ((0:Int)≤((i:Nat):Int))=true∧
 decide ((((i:Nat):Int):Int)<((c:Nat):Int))=true∧
 isI .i64 ks (i)=true∧
 decide ((0:Int)≤getI ks (i))=true∧
 decide ((getI ks (i):Int)<13)=true∧
 leB ((Int.toNat (getI ks (i)))*6+6) (List.length tb)=true∧
 decide ((0:Int)≤getI ks (i))=true∧
 decide ((getI ks (i):Int)<13)=true∧
 leB (Int.toNat (getI ks (i))+79) (List.length (setPart tb ((Int.toNat (getI ks (i)))*6) (.agg ([.int .i64 (0),.int .i64 (0),.int .i64 (0),.int .i64 (0),.bool (false),.int .i64 (0)]:List AV))))=true∧
 decide ((0:Int)≤((i:Nat):Int))=true∧
 decide ((((i:Nat):Int):Int)<((c:Nat):Int))=true∧
 isI .i64 ks (i)=true∧
 Q .ret [.ptr (.rw 0) (0),.int .i64 (w),.int .i64 (getI ks (i)),.int .i64 (getI tb ((Int.toNat (getI ks (i)))*6+5)),.bool (false),.int .i64 (0),.slice true (.rw 14) (0) (c),.bool (true),.int .i64 (((i:Nat):Int))] ([some ⟨1,(setPart (setPart tb ((Int.toNat (getI ks (i)))*6) (.agg ([.int .i64 (0),.int .i64 (0),.int .i64 (0),.int .i64 (0),.bool (false),.int .i64 (0)]:List AV))) (Int.toNat (getI ks (i))+78) (.nilp))⟩]++(rows13 sl++[some ⟨1,ks⟩])))∧
 (getB tb ((Int.toNat (getI ks (i)))*6+4)=false→
 Q .normal [.ptr (.rw 0) (0),.int .i64 (w),.int .i64 (0),.int .i64 (0),.bool (false),.int .i64 (0),.slice true (.rw 14) (0) (c),.bool (true),.int .i64 (IntKind.wrap .i64 (((i:Nat):Int)+1))] ([some ⟨1,tb⟩]++(rows13 sl++[some ⟨1,ks⟩]))))∧
 (((w:Int)==(-1))=false→
 decide ((0:Int)≤((i:Nat):Int))=true∧
 decide ((((i:Nat):Int):Int)<((c:Nat):Int))=true∧
 isI .i64 ks (i)=true∧
 (((getI ks (i):Int)==w)=true→
 decide ((0:Int)≤((i:Nat):Int))=true∧
 decide ((((i:Nat):Int):Int)<((c:Nat):Int))=true∧
 isI .i64 ks (i)=true∧
 decide ((0:Int)≤getI ks (i))=true∧
 decide ((getI ks (i):Int)<13)=true∧
 isB tb ((Int.toNat (getI ks (i)))*6+4)=true∧
 (getB tb ((Int.toNat (getI ks (i)))*6+4)=true→
 decide ((0:Int)≤((i:Nat):Int))=true∧
 decide ((((i:Nat):Int):Int)<((c:Nat):Int))=true∧
 isI .i64 ks (i)=true∧
 decide ((0:Int)≤getI ks (i))=true∧
 decide ((getI ks (i):Int)<13)=true∧
 isI .i64 tb ((Int.toNat (getI ks (i)))*6+5)=true∧
 decide ((0:Int)≤((i:Nat):Int))=true∧
 decide ((((i:Nat):Int):Int)<((c:Nat):Int))=true∧
 isI .i64 ks (i)=true∧
 decide ((0:Int)≤getI ks (i))=true∧
 decide ((getI ks (i):Int)<13)=true∧
 leB ((Int.toNat (getI ks (i)))*6+6) (List.length tb)=true∧
 decide ((0:Int)≤getI ks (i))=true∧
 decide ((getI ks (i):Int)<13)=true∧
 leB (Int.toNat (getI ks (i))+79) (List.length (setPart tb ((Int.toNat (getI ks (i)))*6) (.agg ([.int .i64 (0),.int .i64 (0),.int .i64 (0),.int .i64 (0),.bool (false),.int .i64 (0)]:List AV))))=true∧
 decide ((0:Int)≤((i:Nat):Int))=true∧
 decide ((((i:Nat):Int):Int)<((c:Nat):Int))=true∧
 isI .i64 ks (i)=true∧
 Q .ret [.ptr (.rw 0) (0),.int .i64 (w),.int .i64 (getI ks (i)),.int .i64 (getI tb ((Int.toNat (getI ks (i)))*6+5)),.bool (false),.int .i64 (0),.slice true (.rw 14) (0) (c),.bool (true),.int .i64 (((i:Nat):Int))] ([some ⟨1,(setPart (setPart tb ((Int.toNat (getI ks (i)))*6) (.agg ([.int .i64 (0),.int .i64 (0),.int .i64 (0),.int .i64 (0),.bool (false),.int .i64 (0)]:List AV))) (Int.toNat (getI ks (i))+78) (.nilp))⟩]++(rows13 sl++[some ⟨1,ks⟩])))∧
 (getB tb ((Int.toNat (getI ks (i)))*6+4)=false→
 Q .normal [.ptr (.rw 0) (0),.int .i64 (w),.int .i64 (0),.int .i64 (0),.bool (false),.int .i64 (0),.slice true (.rw 14) (0) (c),.bool (true),.int .i64 (IntKind.wrap .i64 (((i:Nat):Int)+1))] ([some ⟨1,tb⟩]++(rows13 sl++[some ⟨1,ks⟩]))))∧
 (((getI ks (i):Int)==w)=false→
 Q .normal [.ptr (.rw 0) (0),.int .i64 (w),.int .i64 (0),.int .i64 (0),.bool (false),.int .i64 (0),.slice true (.rw 14) (0) (c),.bool (wb),.int .i64 (IntKind.wrap .i64 (((i:Nat):Int)+1))] ([some ⟨1,tb⟩]++(rows13 sl++[some ⟨1,ks⟩])))))∧
 (decide ((((i:Nat):Int):Int)<((c:Nat):Int))=false→
 Q (.exit 0) [.ptr (.rw 0) (0),.int .i64 (w),.int .i64 (0),.int .i64 (0),.bool (false),.int .i64 (0),.slice true (.rw 14) (0) (c),.bool (wb),.int .i64 (((i:Nat):Int))] ([some ⟨1,tb⟩]++(rows13 sl++[some ⟨1,ks⟩])))):=by kernel_rfl
end Go.Am
namespace Go.Am
open Go.Proofs Crc
set_option maxRecDepth 100000
theorem wu_loop (G:Nat→List AV) (B:Nat) {s:Ptb} (hw:Wf s) (n w:Int):AWp (⟨Try.prog,G,B⟩:Ctx) 14 (.loop (loopN Try.f43 0)) (fl 83 [0,2,6,7,8,9,11,12,13] [.ptr (.rw 0) 0,.int .i64 w,.int .i64 0,.int .i64 0,.bool false,.int .i64 0,.slice true (.rw 14) 0 (kidT s n 13).length,.bool false,.int .i64 0]) (vHp G (hp3 [some ⟨1,.var 1 (encU 1 s)⟩] (.var 2 (setsL encR s)) [some ⟨1,.var 22 (nl (kidT s n 13))⟩])) (lv 83 [0,2,6,7,8,9,11,12,13] (LOut.post G 14 (.tst (.var 9 (((kidT s n 13).find? (wHit s w)).isSome)) (.one .ret [.undef,.undef,.int .i64 (.var 10 ((((kidT s n 13).find? (wHit s w)).getD 0):Int)),.int .i64 (.var 11 (s.at_ (((kidT s n 13).find? (wHit s w)).getD 0)).st),.bool (.lit false),.int .i64 (.lit 0),.undef,.undef,.undef] (hp3 [some ⟨1,.var 21 (encU 1 (freeX s (((kidT s n 13).find? (wHit s w)).getD 0)))⟩] (.var 2 (setsL encR s)) [some ⟨1,.var 22 (nl (kidT s n 13))⟩])) (.one (.exit 0) [.undef,.undef,.int .i64 (.lit 0),.int .i64 (.lit 0),.bool (.lit false),.int .i64 (.lit 0),.undef,.bool (.var 7 ((kidT s n 13).any (wMat w))),.undef] (hp3 [some ⟨1,.var 1 (encU 1 s)⟩] (.var 2 (setsL encR s)) [some ⟨1,.var 22 (nl (kidT s n 13))⟩]))))):=by
 refine scanP (fun i=>∀ j,(hj:j<(kidT s n 13).length)→j<i→wHit s w (kidT s n 13)[j]=false) (kidT s n 13).length (fun i=>[.ptr (.rw 0) 0,.int .i64 w,.int .i64 0,.int .i64 0,.bool false,.int .i64 0,.slice true (.rw 14) 0 (kidT s n 13).length,.bool (((kidT s n 13).take i).any (wMat w)),.int .i64 (i:Int)]) (fun _=>vHp G (hp3 [some ⟨1,.var 1 (encU 1 s)⟩] (.var 2 (setsL encR s)) [some ⟨1,.var 22 (nl (kidT s n 13))⟩])) (fun j hj h=>by omega) fun i hi hP=>?_
 refine dloop_ok (C:=(⟨Try.prog,G,B⟩:Ctx)) (K:=Dc Try.prog [69] [] [] 0) (by rw [show loopsOf (loopN Try.f43 0)=[] by kernel_rfl];exact dgood (mix G B) (by kernel_rfl) .nil .nil) (fuel:=300) (n0:=40) (m:=14) (c:=loopN Try.f43 0)
  (vs:=[.ptr (.rw 0) (.lit 0),.int .i64 (.var 4 w),.int .i64 (.lit 0),.int .i64 (.lit 0),.bool (.lit false),.int .i64 (.lit 0),.slice true (.rw 14) (.lit 0) (.var 6 (kidT s n 13).length),.bool (.var 7 (((kidT s n 13).take i).any (wMat w))),.int .i64 (.ofN (.var 8 i))]) (H:=(hp3 [some ⟨1,.var 1 (encU 1 s)⟩] (.var 2 (setsL encR s)) [some ⟨1,.var 22 (nl (kidT s n 13))⟩])) (Nat.le_of_ble_eq_true rfl) ?_
 rw [wu_b]
 have hle:=kidT_len s n 13
 refine ⟨fun h=>?_,fun h=>?_⟩
 ·have hlt:i<(kidT s n 13).length:=by have:=of_decide_eq_true h;omega
  obtain ⟨k1,k2⟩:=nl_getI (l:=(kidT s n 13)) hlt
  obtain ⟨c1,c2,c3,c4⟩:=kidT_mem (List.getElem_mem hlt)
  have ten:=U_en (b:=1) (s:=s) c1
  have tst:=U_st (b:=1) (s:=s) c1
  have ew:IntKind.wrap .i64 ((i:Int)+1)=((i+1:Nat):Int):=by rw [i64_in (by omega)];rfl
  rw [k2,Int.toNat_natCast,ten.2,tst.2]
  have en0:decide ((0:Int)≤((kidT s n 13)[i]:Int))=true:=decide_eq_true (by omega)
  have en13:decide (((kidT s n 13)[i]:Int)<13)=true:=decide_eq_true (by omega)
  have i0:decide ((0:Int)≤(i:Int))=true:=decide_eq_true (by omega)
  have lT:leB ((kidT s n 13)[i]*6+6) (encU 1 s).length=true:=leB_iff.2 (by rw [encU_len];omega)
  have eR:=W_row (p:=ptrs 1 s) (n:=(kidT s n 13)[i]) (s:=s) (x:=zc) c1
  have lT2:leB ((kidT s n 13)[i]+79) (setPart (encU 1 s) ((kidT s n 13)[i]*6) (.agg [.int .i64 0,.int .i64 0,.int .i64 0,.int .i64 0,.bool false,.int .i64 0])).length=true:=by
   rw [show setPart (encU 1 s) ((kidT s n 13)[i]*6) (.agg [.int .i64 0,.int .i64 0,.int .i64 0,.int .i64 0,.bool false,.int .i64 0])=encW (ptrs 1 s) (updC s (kidT s n 13)[i] zc) from eR]
   exact leB_iff.2 (by show _≤(encW _ _).length;simp [encW,tabL_len];omega)
  have e9:setPart (setPart (encU 1 s) ((kidT s n 13)[i]*6) (.agg [.int .i64 0,.int .i64 0,.int .i64 0,.int .i64 0,.bool false,.int .i64 0])) ((kidT s n 13)[i]+78) .nilp=encU 1 (freeX s (kidT s n 13)[i]):=W_free (b:=1) (s:=s) c1
  rw [e9]
  have nexts:wHit s w (kidT s n 13)[i]=false→∀ j,(hj:j<(kidT s n 13).length)→j<i+1→wHit s w (kidT s n 13)[j]=false:=fun h0 j hj hji=>by
   by_cases e:j=i
   ·subst e;exact h0
   ·exact hP j hj (by omega)
  have found:wMat w (kidT s n 13)[i]=true→(s.at_ (kidT s n 13)[i]).en=true→LOut.post G 14 (.tst (.var 9 (((kidT s n 13).find? (wHit s w)).isSome)) (.one .ret [.undef,.undef,.int .i64 (.var 10 ((((kidT s n 13).find? (wHit s w)).getD 0):Int)),.int .i64 (.var 11 (s.at_ (((kidT s n 13).find? (wHit s w)).getD 0)).st),.bool (.lit false),.int .i64 (.lit 0),.undef,.undef,.undef] (hp3 [some ⟨1,.var 21 (encU 1 (freeX s (((kidT s n 13).find? (wHit s w)).getD 0)))⟩] (.var 2 (setsL encR s)) [some ⟨1,.var 22 (nl (kidT s n 13))⟩])) (.one (.exit 0) [.undef,.undef,.int .i64 (.lit 0),.int .i64 (.lit 0),.bool (.lit false),.int .i64 (.lit 0),.undef,.bool (.var 7 ((kidT s n 13).any (wMat w))),.undef] (hp3 [some ⟨1,.var 1 (encU 1 s)⟩] (.var 2 (setsL encR s)) [some ⟨1,.var 22 (nl (kidT s n 13))⟩]))) .ret [.ptr (.rw 0) 0,.int .i64 w,.int .i64 ((kidT s n 13)[i]:Int),.int .i64 (s.at_ (kidT s n 13)[i]).st,.bool false,.int .i64 0,.slice true (.rw 14) 0 (kidT s n 13).length,.bool true,.int .i64 (i:Int)] (some ⟨1,encU 1 (freeX s (kidT s n 13)[i])⟩::(rows13 (setsL encR s)++[some ⟨1,nl (kidT s n 13)⟩])):=fun hm he=>by
   have hf:(kidT s n 13).find? (wHit s w)=some (kidT s n 13)[i]:=find_at hlt (by unfold wHit;rw [hm,he];rfl) hP
   have e1:(((kidT s n 13).find? (wHit s w)).getD 0)=(kidT s n 13)[i]:=by rw [hf];rfl
   refine .inl ⟨by show Option.isSome _=true;rw [hf];rfl,rfl,.inl ⟨?_,?_⟩⟩
   ·simp only [vVs,vV,vI,vB,e1];simp [wk]
   ·rw [e1];rfl
  refine ⟨fun h1=>⟨i0,h,k1,en0,en13,ten.1,fun he=>?_,fun he=>?_⟩,fun h1=>⟨i0,h,k1,fun h2=>⟨i0,h,k1,en0,en13,ten.1,fun he=>?_,fun he=>?_⟩,fun h2=>?_⟩⟩
  ·have hm:wMat w (kidT s n 13)[i]=true:=by unfold wMat;rw [show (w==-1)=true from h1];rfl
   exact ⟨i0,h,k1,en0,en13,tst.1,i0,h,k1,en0,en13,lT,en0,en13,lT2,i0,h,k1,found hm he⟩
  ·have hm:wMat w (kidT s n 13)[i]=true:=by unfold wMat;rw [show (w==-1)=true from h1];rfl
   exact ⟨hlt,nexts (by unfold wHit;rw [he,Bool.and_false]),.inl ⟨by rw [ew,take_any hlt,hm,Bool.or_true],rfl⟩⟩
  ·have hm:wMat w (kidT s n 13)[i]=true:=by unfold wMat;rw [eq_of_beq h2,beq_self_eq_true,Bool.or_true]
   exact ⟨i0,h,k1,en0,en13,tst.1,i0,h,k1,en0,en13,lT,en0,en13,lT2,i0,h,k1,found hm he⟩
  ·have hm:wMat w (kidT s n 13)[i]=true:=by unfold wMat;rw [eq_of_beq h2,beq_self_eq_true,Bool.or_true]
   exact ⟨hlt,nexts (by unfold wHit;rw [he,Bool.and_false]),.inl ⟨by rw [ew,take_any hlt,hm,Bool.or_true],rfl⟩⟩
  ·have h2':(w==((kidT s n 13)[i]:Int))=false:=by
    rw [beq_eq_false_iff_ne] at h2 ⊢
    exact fun e=>h2 e.symm
   have hm:wMat w (kidT s n 13)[i]=false:=by unfold wMat;rw [h2',show (w==-1)=false from h1];rfl
   exact ⟨hlt,nexts (by unfold wHit;rw [hm];rfl),.inl ⟨by rw [ew,take_any hlt,hm,Bool.or_false],rfl⟩⟩
 ·have he:i=(kidT s n 13).length:=by have:=of_decide_eq_false h;omega
  have hn:(kidT s n 13).find? (wHit s w)=none:=find_none fun j hj=>hP j hj (by omega)
  refine .inr ⟨by show Option.isSome _=false;rw [hn];rfl,rfl,.inl ⟨?_,rfl⟩⟩
  rw [he,List.take_length]
  simp [wk,vVs,vV,vI,vB]
end Go.Am
namespace Go.Am
open Crc
def kidXN:List AV→Nat:=fun vs=>match vs with
 | [.agg x,.int _ n]=>(kidT (decX x) n 13).length
 | _=>0
def kidXL:List AV→List AV:=fun vs=>match vs with
 | [.agg x,.int _ n]=>nl (kidT (decX x) n 13)
 | _=>[]
def kidsRQ (ok:List AV→Bool) (xo:List AV→List AV):DSum:=fun (args:List EV) (H:List (Option DBlk))=>match args with
 | [.ptr (.rw 0) (.lit 0),.int .i64 n]=>match H[(0:Nat)]? with
  | some (some ⟨1,l⟩)=>match famAt H 1 13 with
   | some (z1,L,ls)=>match Nat.beq z1 1 with
    | true=>some (.chk (.rows L ls) (.chk (.uf 2206 ok [.agg l,.agg L]) (.one (.slice true (.rw H.length) (.lit 0) (.uf 2381 kidXN [.agg (.uf 2205 xo [.agg l,.agg L]),.int .i64 n])) [.new ⟨1,.uf 2382 kidXL [.agg (.uf 2205 xo [.agg l,.agg L]),.int .i64 n]⟩])))
    | false=>none
   | none=>none
  | _=>none
 | _=>none
noncomputable def kidsRS:DSum:=kidsRQ (okTF tsR) (xOf tsR)
theorem kidsRS_ok {C:Ctx} {f:FuncId} (h:∀ s,Wf s→∀ n,ACalls C f [.ptr (.rw 0) 0,.int .i64 n] (can tsR s) fun v H'=>v=.slice true (.rw 14) 0 (kidT s n 13).length∧H'=can tsR s++[some ⟨1,nl (kidT s n 13)⟩]):DSumOk C f kidsRS:=by
 intro args H o ho
 unfold kidsRS kidsRQ at ho
 split at ho
 ·rename_i n
  split at ho
  ·rename_i l h0
   split at ho
   ·rename_i z1 L ls hf
    split at ho
    ·rename_i hz
     have hz:=Nat.eq_of_beq_eq_true hz
     subst hz
     simp only [Option.some.injEq] at ho
     subst ho
     intro h1 h2
     have h1:rowsA (vL C.G L) (vVs C.G ls)=true:=h1
     have h2:okTF tsR [.agg (vL C.G l),.agg (vL C.G L)]=true:=h2
     obtain ⟨s,hw,e1,e2⟩:=okTF_iff.1 h2
     have ht:=fam14' h0 hf h1
     rw [e1,e2,hp_can] at ht
     have ex:vL C.G (.uf 2205 (xOf tsR) [.agg l,.agg L])=encX s:=by simp only [vL,vVs,vV,e1,e2];exact xOf_enc tsR_inj hw
     have hN:vN C.G (.uf 2381 kidXN [.agg (.uf 2205 (xOf tsR) [.agg l,.agg L]),.int .i64 n])=(kidT s (vI C.G n) 13).length:=by
      show kidXN [.agg (vL C.G (.uf 2205 (xOf tsR) [.agg l,.agg L])),.int .i64 (vI C.G n)]=_
      rw [ex];simp only [kidXN,decX_enc hw.thin]
     have hL:vL C.G (.uf 2382 kidXL [.agg (.uf 2205 (xOf tsR) [.agg l,.agg L]),.int .i64 n])=nl (kidT s (vI C.G n) 13):=by
      show kidXL [.agg (vL C.G (.uf 2205 (xOf tsR) [.agg l,.agg L])),.int .i64 (vI C.G n)]=_
      rw [ex];simp only [kidXL,decX_enc hw.thin]
     refine DOut.readN (k:=14) (H0:=can tsR s) (args0:=[.ptr (.rw 0) 0,.int .i64 (vI C.G n)]) (v0:=.slice true (.rw 14) 0 (kidT s (vI C.G n) 13).length) can_len ht (fun i b hb=>?_) rfl rfl ?_ ?_ rfl ?_
     ·obtain ⟨b0,hb0⟩:∃ b0,b=some b0:=by
       have hi:=(List.getElem?_eq_some_iff.1 hb).1
       rw [can_len] at hi
       cases i with
       | zero=>exact ⟨_,(Option.some.inj hb).symm⟩
       | succ k=>
        have:=canB_get (t:=tsR) (p:=ptrs 1 s) (s:=s) (s':=s) (n:=k) (by omega)
        exact ⟨_,by rw [show (can tsR s)[k+1]?=_ from this] at hb;exact (Option.some.inj hb).symm⟩
      subst hb0
      exact ⟨b0,rfl,hpB_get (can_hpB tsR_ok s) i b0 hb⟩
     ·have:=h s hw (vI C.G n)
      simp only [vBlk,hL];exact this
     ·simp only [vBlk,hL];exact nl_flat 0 _
     ·simp only [vV,vR,hN,vN]
      show _=AV.slice true (.rw ((wide (List.range 14) H.length 1).getD 14 0)) 0 _
      rw [wide_high (by simp) (by simp)];simp
      exact hN
    ·cases ho
   ·cases ho
  ·cases ho
 ·cases ho
end Go.Am
namespace Go.Am
open Go.Proofs Crc
set_option maxRecDepth 100000
theorem wu_c (G:Nat→List AV) (okr rl:List AV→Bool) (xor:List AV→List AV) (tb sl ks tf:List AV) (n w fc fs:Int) (fb wb:Bool) (Q:Ex→List AV→Hp→Prop) (R:AV→Hp→Prop):vT G Q R (dcall (Dc Try.prog [67,60] [(61,kidsRQ okr xor)] [DLat 2372 (rl) 0 83 [0,2,6,7,8,9,11,12,13] (.tst (.var 9 fb) (.one .ret [.undef,.undef,.int .i64 (.var 10 fc),.int .i64 (.var 11 fs),.bool (.lit false),.int .i64 (.lit 0),.undef,.undef,.undef] (hp3 [some ⟨1,.var 21 tf⟩] (.var 2 sl) [some ⟨1,.var 22 ks⟩])) (.one (.exit 0) [.undef,.undef,.int .i64 (.lit 0),.int .i64 (.lit 0),.bool (.lit false),.int .i64 (.lit 0),.undef,.bool (.var 7 wb),.undef] (hp3 [some ⟨1,.var 1 tb⟩] (.var 2 sl) [some ⟨1,.var 22 ks⟩])))] 14) 300 40 Try.f43 [.ptr (.rw 0) (.lit 0),.int .i64 (.var 3 n),.int .i64 (.var 4 w)] (hp3 [some ⟨1,.var 1 tb⟩] (.var 2 sl) []) 14)=(
  (decide ((n:Int)≥1)=true→
 (decide ((n:Int)≤12)=true→
 decide ((0:Int)≤n)=true∧
 decide ((n:Int)<13)=true∧
 isI .i64 tb ((Int.toNat (n))*6)=true∧
 (((getI tb ((Int.toNat (n))*6):Int)==n)=true→
 decide ((0:Int)≤n)=true∧
 decide ((n:Int)<13)=true∧
 isB tb ((Int.toNat (n))*6+4)=true∧
 (getB tb ((Int.toNat (n))*6+4)=true→
 R (.tup [.int .i64 (0),.int .i64 (0),.bool (false),.int .i64 (6)]) ([some ⟨1,tb⟩]++rows13 sl))∧
 (getB tb ((Int.toNat (n))*6+4)=false→
 (((w:Int)==(-1))=true→
 rowsA sl (rp 13 sl)=true∧
 (okr) [.agg tb,.agg sl]=true∧
 (rl) [.agg ([.ptr (.rw 0) (0),.int .i64 (w),.int .i64 (0),.int .i64 (0),.bool (false),.int .i64 (0),.slice true (.rw 14) (0) (kidXN [.agg ((xor) [.agg tb,.agg sl]),.int .i64 (n)]),.bool (false),.int .i64 (0)]:List AV),.agg ((tp3 [.tup [.int .i64 (1),.agg tb]] sl [.tup [.int .i64 (1),.agg (kidXL [.agg ((xor) [.agg tb,.agg sl]),.int .i64 (n)])]]):List AV)]=true∧
 (fb=true→
 R (.tup [.int .i64 (fc),.int .i64 (fs),.bool (false),.int .i64 (0)]) ([some ⟨1,tf⟩]++rows13 sl))∧
 (fb=false→
 (wb=true→
 R (.tup [.int .i64 (0),.int .i64 (0),.bool (true),.int .i64 (0)]) ([some ⟨1,tb⟩]++rows13 sl))∧
 (wb=false→
 R (.tup [.int .i64 (0),.int .i64 (0),.bool (false),.int .i64 (6)]) ([some ⟨1,tb⟩]++rows13 sl))))∧
 (((w:Int)==(-1))=false→
 (decide ((w:Int)<1)=true→
 R (.tup [.int .i64 (0),.int .i64 (0),.bool (false),.int .i64 (2)]) ([some ⟨1,tb⟩]++rows13 sl))∧
 (decide ((w:Int)<1)=false→
 (decide ((w:Int)>12)=true→
 R (.tup [.int .i64 (0),.int .i64 (0),.bool (false),.int .i64 (2)]) ([some ⟨1,tb⟩]++rows13 sl))∧
 (decide ((w:Int)>12)=false→
 rowsA sl (rp 13 sl)=true∧
 (okr) [.agg tb,.agg sl]=true∧
 (rl) [.agg ([.ptr (.rw 0) (0),.int .i64 (w),.int .i64 (0),.int .i64 (0),.bool (false),.int .i64 (0),.slice true (.rw 14) (0) (kidXN [.agg ((xor) [.agg tb,.agg sl]),.int .i64 (n)]),.bool (false),.int .i64 (0)]:List AV),.agg ((tp3 [.tup [.int .i64 (1),.agg tb]] sl [.tup [.int .i64 (1),.agg (kidXL [.agg ((xor) [.agg tb,.agg sl]),.int .i64 (n)])]]):List AV)]=true∧
 (fb=true→
 R (.tup [.int .i64 (fc),.int .i64 (fs),.bool (false),.int .i64 (0)]) ([some ⟨1,tf⟩]++rows13 sl))∧
 (fb=false→
 (wb=true→
 R (.tup [.int .i64 (0),.int .i64 (0),.bool (true),.int .i64 (0)]) ([some ⟨1,tb⟩]++rows13 sl))∧
 (wb=false→
 R (.tup [.int .i64 (0),.int .i64 (0),.bool (false),.int .i64 (6)]) ([some ⟨1,tb⟩]++rows13 sl))))))))∧
 (((getI tb ((Int.toNat (n))*6):Int)==n)=false→
 R (.tup [.int .i64 (0),.int .i64 (0),.bool (false),.int .i64 (6)]) ([some ⟨1,tb⟩]++rows13 sl)))∧
 (decide ((n:Int)≤12)=false→
 R (.tup [.int .i64 (0),.int .i64 (0),.bool (false),.int .i64 (6)]) ([some ⟨1,tb⟩]++rows13 sl)))∧
 (decide ((n:Int)≥1)=false→
 R (.tup [.int .i64 (0),.int .i64 (0),.bool (false),.int .i64 (6)]) ([some ⟨1,tb⟩]++rows13 sl))):=by kernel_rfl
theorem seenU_free {s:Ptb} {c:Nat}:Seen tsR (freeX s c) 13 (some ⟨1,encU 1 (freeX s c)⟩::(List.range 13).map fun n=>some ⟨1,rowA (setsL encR s) n⟩):=seen_rows (t:=tsR) rfl tsR_ok (sets_same (t:=tsR) (s:=s) fun m p h=>by
 have h:(if m=c then none else s.sg m)=some p:=h
 by_cases e:m=c
 ·rw [if_pos e] at h;cases h
 ·rw [if_neg e] at h;exact h)
theorem dgWu (G:Nat→List AV) (B:Nat) {s:Ptb} (hw:Wf s) (n w:Int):DGood (⟨Try.prog,G,B⟩:Ctx) (Dc Try.prog [67,60] [(61,kidsRS)] [DLat 0x944 (isSt [.ptr (.rw 0) 0,.int .i64 w,.int .i64 0,.int .i64 0,.bool false,.int .i64 0,.slice true (.rw 14) 0 (kidT s n 13).length,.bool false,.int .i64 0] (vHp G (hp3 [some ⟨1,.var 1 (encU 1 s)⟩] (.var 2 (setsL encR s)) [some ⟨1,.var 22 (nl (kidT s n 13))⟩]))) 0 83 [0,2,6,7,8,9,11,12,13] (.tst (.var 9 (((kidT s n 13).find? (wHit s w)).isSome)) (.one .ret [.undef,.undef,.int .i64 (.var 10 ((((kidT s n 13).find? (wHit s w)).getD 0):Int)),.int .i64 (.var 11 (s.at_ (((kidT s n 13).find? (wHit s w)).getD 0)).st),.bool (.lit false),.int .i64 (.lit 0),.undef,.undef,.undef] (hp3 [some ⟨1,.var 21 (encU 1 (freeX s (((kidT s n 13).find? (wHit s w)).getD 0)))⟩] (.var 2 (setsL encR s)) [some ⟨1,.var 22 (nl (kidT s n 13))⟩])) (.one (.exit 0) [.undef,.undef,.int .i64 (.lit 0),.int .i64 (.lit 0),.bool (.lit false),.int .i64 (.lit 0),.undef,.bool (.var 7 ((kidT s n 13).any (wMat w))),.undef] (hp3 [some ⟨1,.var 1 (encU 1 s)⟩] (.var 2 (setsL encR s)) [some ⟨1,.var 22 (nl (kidT s n 13))⟩])))] 14) (loopsOf (bodyOf Try.f43)):=
 dgood (mix G B) (by kernel_rfl) (.cons (kidsRS_ok fun s hw n=>r_kids G B hw n) .nil) (.cast (.cons (i:=0) (by kernel_rfl) rfl (DLat_okC rfl (wu_loop G B hw n w)) .nil) (by kernel_rfl))
theorem r_wait (G:Nat→List AV) (B:Nat) {s:Ptb} (hw:Wf s) (n w:Int):ACalls (⟨Try.prog,G,B⟩:Ctx) 43 [.ptr (.rw 0) 0,.int .i64 n,.int .i64 w] (can tsR s) fun v H'=>v=waitVv (waitR s n w).1∧H'=can tsR (waitR s n w).2:=by
 have h:=dcall_ok (C:=(⟨Try.prog,G,B⟩:Ctx)) (K:=Dc Try.prog [67,60] [(61,kidsRS)] [DLat 0x944 (isSt [.ptr (.rw 0) 0,.int .i64 w,.int .i64 0,.int .i64 0,.bool false,.int .i64 0,.slice true (.rw 14) 0 (kidT s n 13).length,.bool false,.int .i64 0] (vHp G (hp3 [some ⟨1,.var 1 (encU 1 s)⟩] (.var 2 (setsL encR s)) [some ⟨1,.var 22 (nl (kidT s n 13))⟩]))) 0 83 [0,2,6,7,8,9,11,12,13] (.tst (.var 9 (((kidT s n 13).find? (wHit s w)).isSome)) (.one .ret [.undef,.undef,.int .i64 (.var 10 ((((kidT s n 13).find? (wHit s w)).getD 0):Int)),.int .i64 (.var 11 (s.at_ (((kidT s n 13).find? (wHit s w)).getD 0)).st),.bool (.lit false),.int .i64 (.lit 0),.undef,.undef,.undef] (hp3 [some ⟨1,.var 21 (encU 1 (freeX s (((kidT s n 13).find? (wHit s w)).getD 0)))⟩] (.var 2 (setsL encR s)) [some ⟨1,.var 22 (nl (kidT s n 13))⟩])) (.one (.exit 0) [.undef,.undef,.int .i64 (.lit 0),.int .i64 (.lit 0),.bool (.lit false),.int .i64 (.lit 0),.undef,.bool (.var 7 ((kidT s n 13).any (wMat w))),.undef] (hp3 [some ⟨1,.var 1 (encU 1 s)⟩] (.var 2 (setsL encR s)) [some ⟨1,.var 22 (nl (kidT s n 13))⟩])))] 14) (fuel:=300) (n0:=40) (f:=43) (fn:=Try.f43) (args:=[.ptr (.rw 0) (.lit 0),.int .i64 (.var 3 n),.int .i64 (.var 4 w)]) (H:=(hp3 [some ⟨1,.var 1 (encU 1 s)⟩] (.var 2 (setsL encR s)) [])) (keep:=14)
  (R:=fun v H=>v=waitVv (waitR s n w).1∧Seen tsR (waitR s n w).2 13 H) (dgWu G B hw n w) (by kernel_rfl) (by kernel_rfl) (by kernel_rfl) (by
  unfold kidsRS
  rw [wu_c]
  have ex:xOf tsR [.agg (encU 1 s),.agg (setsL encR s)]=encX s:=xOf_enc tsR_inj hw
  have eN:kidXN [.agg (encX s),.int .i64 n]=(kidT s n 13).length:=by simp only [kidXN,decX_enc hw.thin]
  have eL:kidXL [.agg (encX s),.int .i64 n]=nl (kidT s n 13):=by simp only [kidXL,decX_enc hw.thin]
  have ok:okTF tsR [.agg (encU 1 s),.agg (setsL encR s)]=true:=okTF_iff.2 ⟨s,hw,rfl,rfl⟩
  rw [ex,eN,eL]
  refine liveU_tree 1 (fun hl=>?_) fun hl=>?_
  ·have fin:¬(w≠-1∧(w<1∨12<w))→((((kidT s n 13).find? (wHit s w)).isSome)=true→(waitVv (((((kidT s n 13).find? (wHit s w)).getD 0):Int),(s.at_ (((kidT s n 13).find? (wHit s w)).getD 0)).st,false,0)=waitVv (waitR s n w).1∧Seen tsR (waitR s n w).2 13 (some ⟨1,encU 1 (freeX s (((kidT s n 13).find? (wHit s w)).getD 0))⟩::(List.range 13).map fun n=>some ⟨1,rowA (setsL encR s) n⟩)))∧
     ((((kidT s n 13).find? (wHit s w)).isSome)=false→((kidT s n 13).any (wMat w)=true→(waitVv (0,0,true,0)=waitVv (waitR s n w).1∧Seen tsR (waitR s n w).2 13 (some ⟨1,encU 1 s⟩::(List.range 13).map fun n=>some ⟨1,rowA (setsL encR s) n⟩)))∧((kidT s n 13).any (wMat w)=false→(waitVv (0,0,false,6)=waitVv (waitR s n w).1∧Seen tsR (waitR s n w).2 13 (some ⟨1,encU 1 s⟩::(List.range 13).map fun n=>some ⟨1,rowA (setsL encR s) n⟩)))):=fun hr=>by
    unfold waitR
    rw [if_pos hl,if_neg hr]
    cases hf:(kidT s n 13).find? (wHit s w) with
    | some c=>exact ⟨fun _=>⟨rfl,seenU_free⟩,fun h=>by cases h⟩
    | none=>
     refine ⟨(fun h=>by cases h),fun _=>⟨fun ha=>?_,fun ha=>?_⟩⟩
     ·dsimp only;rw [if_pos ha];exact ⟨rfl,seenU_same⟩
     ·dsimp only;rw [if_neg (by rw [ha];simp)];exact ⟨rfl,seenU_same⟩
   have bad:(w≠-1∧(w<1∨12<w))→(waitVv (0,0,false,2)=waitVv (waitR s n w).1∧Seen tsR (waitR s n w).2 13 (some ⟨1,encU 1 s⟩::(List.range 13).map fun n=>some ⟨1,rowA (setsL encR s) n⟩)):=fun hr=>by
    unfold waitR
    rw [if_pos hl,if_pos hr];exact ⟨rfl,seenU_same⟩
   refine ⟨fun h1=>?_,fun h1=>⟨fun h2=>?_,fun h2=>⟨fun h3=>?_,fun h3=>?_⟩⟩⟩
   ·have h1:w=-1:=eq_of_beq h1
    exact ⟨rowsA_same _ 13,ok,isSt_refl,(fin (by omega)).1,(fin (by omega)).2⟩
   ·have h1:¬w=-1:=fun e=>by rw [e] at h1;cases h1
    have h2:=of_decide_eq_true h2
    exact bad (by omega)
   ·have h1:¬w=-1:=fun e=>by rw [e] at h1;cases h1
    have h3:=of_decide_eq_true h3
    exact bad (by omega)
   ·have h2:=of_decide_eq_false h2
    have h3:=of_decide_eq_false h3
    exact ⟨rowsA_same _ 13,ok,isSt_refl,(fin (by omega)).1,(fin (by omega)).2⟩
  ·unfold waitR
   rw [hl];exact ⟨rfl,seenU_same⟩)
 rw [hU] at h
 exact pm_stay tsR_ok h rfl
end Go.Am
namespace Go.Am
open Go.Proofs Crc
set_option maxRecDepth 100000
theorem n17 (G:Nat→List AV) (Q:Ex→List AV→Hp→Prop) (R:AV→Hp→Prop):vT G Q R (dcall (Dc Try.prog [40] [] [] 0) 100 10 Try.f17 [] [] 4)=(
  R (.ptr (.rw 0) (0)) [some ⟨1,([.int .i64 (0),.int .i64 (0),.int .i64 (0),.int .i64 (0),.bool (false),.int .i64 (0),.int .i64 (1),.int .i64 (0),.int .i64 (1),.int .i64 (0),.bool (false),.int .i64 (0),.int .i64 (0),.int .i64 (0),.int .i64 (0),.int .i64 (0),.bool (false),.int .i64 (0),.int .i64 (0),.int .i64 (0),.int .i64 (0),.int .i64 (0),.bool (false),.int .i64 (0),.int .i64 (0),.int .i64 (0),.int .i64 (0),.int .i64 (0),.bool (false),.int .i64 (0),.int .i64 (0),.int .i64 (0),.int .i64 (0),.int .i64 (0),.bool (false),.int .i64 (0),.int .i64 (0),.int .i64 (0),.int .i64 (0),.int .i64 (0),.bool (false),.int .i64 (0),.int .i64 (0),.int .i64 (0),.int .i64 (0),.int .i64 (0),.bool (false),.int .i64 (0),.int .i64 (0),.int .i64 (0),.int .i64 (0),.int .i64 (0),.bool (false),.int .i64 (0),.int .i64 (0),.int .i64 (0),.int .i64 (0),.int .i64 (0),.bool (false),.int .i64 (0),.int .i64 (0),.int .i64 (0),.int .i64 (0),.int .i64 (0),.bool (false),.int .i64 (0),.int .i64 (0),.int .i64 (0),.int .i64 (0),.int .i64 (0),.bool (false),.int .i64 (0),.int .i64 (0),.int .i64 (0),.int .i64 (0),.int .i64 (0),.bool (false),.int .i64 (0),.nilp,.ptr (.rw 1) (0),.nilp,.nilp,.nilp,.nilp,.nilp,.nilp,.nilp,.nilp,.nilp,.nilp,.nilp]:List AV)⟩,some ⟨1,([.bool (false),.bool (false),.bool (false),.bool (false),.bool (false),.bool (false),.bool (false),.bool (false),.bool (false),.bool (false),.bool (false),.bool (false),.bool (false),.bool (false),.bool (false),.bool (false),.bool (false),.bool (false),.bool (false),.bool (false),.bool (false),.bool (false),.bool (false),.bool (false),.bool (false),.bool (false),.bool (false),.bool (false),.bool (false),.bool (false),.bool (false),.bool (false),.int .u32 (0),.int .u32 (0),.int .u32 (0),.int .u32 (0),.int .u32 (0),.int .u32 (0),.int .u32 (0),.int .u32 (0),.int .u32 (0),.int .u32 (0),.int .u32 (0),.int .u32 (0),.int .u32 (0),.int .u32 (0),.int .u32 (0),.int .u32 (0)]:List AV)⟩]):=by kernel_rfl
theorem newU_view:View 0 [.ptr (.rw 0) 0] (can tsR new0) [.ptr (.rw 0) 0] ([some (⟨1,encW (fun n=>if n=1 then .ptr (.rw 1) 0 else .nilp) new0⟩:Blk),some ⟨1,encR zeroP⟩]++List.replicate 12 (some ⟨1,[]⟩)):=by
 refine View.renM (θ:=[0,2,1,3,4,5,6,7,8,9,10,11,12,13]) (Nat.zero_le _) (fun i hi=>by omega) (by decide) ?_ rfl ⟨rfl,trivial⟩
 exact ⟨⟨rfl,rfl⟩,⟨rfl,rfl⟩,⟨rfl,rfl⟩,⟨rfl,rfl⟩,⟨rfl,rfl⟩,⟨rfl,rfl⟩,⟨rfl,rfl⟩,⟨rfl,rfl⟩,⟨rfl,rfl⟩,⟨rfl,rfl⟩,⟨rfl,rfl⟩,⟨rfl,rfl⟩,⟨rfl,rfl⟩,⟨rfl,rfl⟩,trivial⟩
theorem r_new (G:Nat→List AV) (B:Nat):ACalls (⟨Try.prog,G,B⟩:Ctx) 17 [] [] fun v H'=>v=.ptr (.rw 0) 0∧H'=can tsR new0:=by
 have h:=dcall_ok (C:=(⟨Try.prog,G,B⟩:Ctx)) (f:=17) (args:=[]) (H:=[]) (keep:=4) (R:=fun v H'=>v=.ptr (.rw 0) 0∧H'=[some (⟨1,encW (fun n=>if n=1 then .ptr (.rw 1) 0 else .nilp) new0⟩:Blk),some ⟨1,encR zeroP⟩]) (dgood (inl:=[40]) (sums:=[]) (ls:=[]) (M:=0) (cs:=[]) (mix G B) (by kernel_rfl) .nil .nil) (by kernel_rfl) (by kernel_rfl) (by kernel_rfl) (fuel:=100) (n0:=10) (by rw [n17];exact ⟨rfl,rfl⟩)
 have h:=h.keep (Nat.zero_le _) rfl rfl (by simp)
 have h:=ACalls.pads (v0:=.ptr (.rw 0) 0) (fun k=>show nilr k (.ptr (.rw 0) 0) (.ptr (.rw 0) 0) from .inl rfl) 12 h
 exact h.view fun v H' ⟨e1,e2⟩=>⟨.ptr (.rw 0) 0,can tsR new0,⟨rfl,rfl⟩,by rw [e1,e2];exact newU_view⟩
end Go.Am
namespace Go.Am
open Go.Proofs Crc
variable {C:Ctx}
def preQ (tg:Nat) (pre:List AV→Bool) (S:DSum):DSum:=fun args H=>match S args H with
 | some o=>some (.chk (.uf tg pre [.agg (.of args)]) o)
 | none=>none
def killPre:List AV→Bool:=fun vs=>match vs with
 | [.agg [_,_,.int _ to,_]]=>decide (-9223372036854775808≤to)
 | _=>false
theorem killPre_hd (v w:AV) (l:List AV):killPre [.agg (v::l)]=killPre [.agg (w::l)]:=by
 rcases l with _ | ⟨x,_ | ⟨y,_ | ⟨z,_ | ⟨a,l⟩⟩⟩⟩
 ·rfl
 ·rfl
 ·cases y<;>rfl
 ·cases y<;>rfl
 ·cases y<;>rfl
theorem killR_ok {tg:Nat} {t:TS} (ht:TSOk t) {f:FuncId} {m:Md2} {j:Nat}
  (h:∀ s,Wf s→∀ n a b:Int,-9223372036854775808≤a→ACalls C f [.ptr (.rw 0) 0,.int .i64 n,.int .i64 a,.int .i64 b] (can t s) fun v H'=>v=.int .i64 (killE s n a b)∧H'=mdHp t m (killX s n a b)) (hm:m≠.same):DSumOk C f (preQ j killPre (objS tg t m killK)):=by
 intro args H o ho
 unfold preQ at ho
 split at ho
 ·rename_i o' ho'
  simp only [Option.some.injEq] at ho
  subst ho
  intro h1
  let k':EL→List EV→Option (EV×EL):=fun x rest=>match killPre [.agg (.undef::vVs C.G rest)] with
   | true=>killK x rest
   | false=>none
  have hk:DSumOk C f (objS tg t m k'):=objS_ok ht (by
   intro x rest v x' s hk hx hw
   simp only [k'] at hk
   split at hk
   ·rename_i hp
    unfold killK at hk
    split at hk
    ·rename_i n a b
     simp only [Option.some.injEq,Prod.mk.injEq] at hk
     obtain ⟨rfl,rfl⟩:=hk
     refine ⟨by simp [vVs,vV,bnds,bnd],by simp [vV,bnd],killX s (vI C.G n) (vI C.G a) (vI C.G b),by simp only [vL,vVs,vV,hx,xX3_enc hw.thin],(hw.killX _ _ _).thin,fun e=>absurd e hm,?_⟩
     simp only [vVs,vV,vI,hx,xI3_enc hw.thin]
     exact h s hw _ _ _ (of_decide_eq_true hp)
    ·simp at hk
   ·cases hk)
  refine hk args H o' ?_
  have h1:killPre [.agg (vVs C.G args)]=true:=h1
  unfold objS objQ at ho' ⊢
  split at ho'
  ·rename_i i rest _
   have hp:killPre [.agg (.undef::vVs C.G rest)]=true:=by
    rw [killPre_hd .undef (vV C.G (.ptr (.rw i) (.lit 0)))];exact h1
   have ek:∀ x,k' x rest=killK x rest:=fun x=>by simp only [k',hp]
   simp only [ek]
   exact ho'
  ·cases ho'
 ·cases ho
def objE (b:Nat) (x:EL):DHp:=some (tabE 2251 tsR b x)::(setsE 2251 tsR x).map some
def okB (b:Int) (x:List AV):List AV:=[.int .i64 b,.agg x,.tup (.agg (tabF tsR [.int .i64 b,.agg x])::(List.range 13).map fun n=>.agg (setF tsR n [.agg x]))]
theorem objU_enc {s:Ptb} (hs:thin s) (b:Nat):objU b (encX s)=canB tsR (ptrs b s) s s:=by
 unfold objU setU canB setsB
 simp only [tabF,setF,decX_enc hs,Int.toNat_natCast]
theorem okOU {s:Ptb} (hw:Wf s) (b:Nat):okObj tsR [.int .i64 (b:Int),.agg (encX s),.tup (.agg (tabF tsR [.int .i64 (b:Int),.agg (encX s)])::(List.range 13).map fun n=>.agg (setF tsR n [.agg (encX s)]))]=true:=by
 refine okObj_iff.2 ⟨s,hw,rfl,?_⟩
 simp only [tabF,setF,decX_enc hw.thin]
def doQ (ok okr:List AV→Bool):List (Nat×DSum):=[(26,objQ 2101 ok tsP .move forkK),(27,objQ 2101 ok tsP .move endK),(28,objQ 2101 ok tsP .stay groupK),(32,objQ 2101 ok tsP .stay userK),(21,objQ 2101 ok tsP .stay killK),(33,objQ 2101 ok tsP .move takeK),(13,objQ 2101 ok tsP .stay waitK),(47,objQ 2101 ok tsP .stay maskK),(49,objQ 2101 ok tsP .stay handK),(12,copyQ 2101 ok tsP),(15,sameQ 2101 ok),
 (41,objQ 2251 okr tsR .move forkK),(42,objQ 2251 okr tsR .move endK),(44,objQ 2251 okr tsR .stay groupK),(45,objQ 2251 okr tsR .stay userK),(46,preQ 2471 killPre (objQ 2251 okr tsR .stay killK)),(51,objQ 2251 okr tsR .move takeK),(43,objQ 2251 okr tsR .stay waitK),(48,objQ 2251 okr tsR .stay maskK),(50,objQ 2251 okr tsR .stay handK)]
end Go.Am
namespace Go.Am
open Go.Proofs Crc
set_option maxRecDepth 100000
theorem do_t (G:Nat→List AV) (okP1 okR1:List AV→Bool) (x:List AV) (a0 a1 a2 a3:Int) (Q:Ex→List AV→Hp→Prop) (R:AV→Hp→Prop):vT G Q R (dcall (Dc Try.prog [14] (doQ okP1 okR1) [] 0) 900 20 Try.f18 [.ptr (.rw 0) (.lit 0),.ptr (.rw 14) (.lit 0),.agg (.of [.int .i64 (.var 10 a0),.int .i64 (.var 11 a1),.int .i64 (.var 12 a2),.int .i64 (.var 13 a3)])] (objD 1 (.var 1 x)++objE 15 (.var 1 x)) 200)=(
  (((a0:Int)==1)=true→
 (okP1) (okA (1) x)=true∧
 (okR1) (okB (15) x)=true∧
 (((xI1 forkC) [.agg x,.int .i64 (a1)]:Int)==(xI1 forkC) [.agg x,.int .i64 (a1)])=true∧
 R (.tup [.ptr (.rw 0) (0),.ptr (.rw 14) (0),.bool ((((xI1 forkE) [.agg x,.int .i64 (a1)]:Int)==(xI1 forkE) [.agg x,.int .i64 (a1)]))]) ([some ⟨1,((tabF tsP) [.int .i64 (29),.agg ((xX1 forkY) [.agg x,.int .i64 (a1)])])⟩,none,none,none,none,none,none,none,none,none,none,none,none,none,some ⟨1,((tabF tsR) [.int .i64 (42),.agg ((xX1 forkY) [.agg x,.int .i64 (a1)])])⟩,none,none,none,none,none,none,none,none,none,none,none,none,none,some ⟨1,([.int .i64 (a0),.int .i64 (a1),.int .i64 (a2),.int .i64 (a3)]:List AV)⟩]++(setL ((xX1 forkY) [.agg x,.int .i64 (a1)])++setU ((xX1 forkY) [.agg x,.int .i64 (a1)]))))∧
 (((a0:Int)==1)=false→
 (((a0:Int)==2)=true→
 (okP1) (okA (1) x)=true∧
 (okR1) (okB (15) x)=true∧
 R (.tup [.ptr (.rw 0) (0),.ptr (.rw 14) (0),.bool ((((xI2 endE) [.agg x,.int .i64 (a1),.int .i64 (a2)]:Int)==(xI2 endE) [.agg x,.int .i64 (a1),.int .i64 (a2)]))]) ([some ⟨1,((tabF tsP) [.int .i64 (29),.agg ((xX2 endX) [.agg x,.int .i64 (a1),.int .i64 (a2)])])⟩,none,none,none,none,none,none,none,none,none,none,none,none,none,some ⟨1,((tabF tsR) [.int .i64 (42),.agg ((xX2 endX) [.agg x,.int .i64 (a1),.int .i64 (a2)])])⟩,none,none,none,none,none,none,none,none,none,none,none,none,none,some ⟨1,([.int .i64 (a0),.int .i64 (a1),.int .i64 (a2),.int .i64 (a3)]:List AV)⟩]++(setL ((xX2 endX) [.agg x,.int .i64 (a1),.int .i64 (a2)])++setU ((xX2 endX) [.agg x,.int .i64 (a1),.int .i64 (a2)]))))∧
 (((a0:Int)==2)=false→
 (((a0:Int)==3)=true→
 (okP1) (okA (1) x)=true∧
 (okR1) (okB (15) x)=true∧
 (((xI2 waitC) [.agg x,.int .i64 (a1),.int .i64 (a2)]:Int)==(xI2 waitC) [.agg x,.int .i64 (a1),.int .i64 (a2)])=true∧
 (((xI2 waitS) [.agg x,.int .i64 (a1),.int .i64 (a2)]:Int)==(xI2 waitS) [.agg x,.int .i64 (a1),.int .i64 (a2)])=true∧
 ((xB2 waitW) [.agg x,.int .i64 (a1),.int .i64 (a2)]=true→
 (xB2 waitW) [.agg x,.int .i64 (a1),.int .i64 (a2)]=true∧
 R (.tup [.ptr (.rw 0) (0),.ptr (.rw 14) (0),.bool ((((xI2 waitE) [.agg x,.int .i64 (a1),.int .i64 (a2)]:Int)==(xI2 waitE) [.agg x,.int .i64 (a1),.int .i64 (a2)]))]) (objL (1) ((xX2 waitX) [.agg x,.int .i64 (a1),.int .i64 (a2)])++(objU (15) ((xX2 waitX) [.agg x,.int .i64 (a1),.int .i64 (a2)])++[some ⟨1,([.int .i64 (a0),.int .i64 (a1),.int .i64 (a2),.int .i64 (a3)]:List AV)⟩])))∧
 ((xB2 waitW) [.agg x,.int .i64 (a1),.int .i64 (a2)]=false→
 (!((xB2 waitW) [.agg x,.int .i64 (a1),.int .i64 (a2)]))=true∧
 R (.tup [.ptr (.rw 0) (0),.ptr (.rw 14) (0),.bool ((((xI2 waitE) [.agg x,.int .i64 (a1),.int .i64 (a2)]:Int)==(xI2 waitE) [.agg x,.int .i64 (a1),.int .i64 (a2)]))]) (objL (1) ((xX2 waitX) [.agg x,.int .i64 (a1),.int .i64 (a2)])++(objU (15) ((xX2 waitX) [.agg x,.int .i64 (a1),.int .i64 (a2)])++[some ⟨1,([.int .i64 (a0),.int .i64 (a1),.int .i64 (a2),.int .i64 (a3)]:List AV)⟩]))))∧
 (((a0:Int)==3)=false→
 (((a0:Int)==4)=true→
 (okP1) (okA (1) x)=true∧
 (okR1) (okB (15) x)=true∧
 R (.tup [.ptr (.rw 0) (0),.ptr (.rw 14) (0),.bool ((((xI2 groupE) [.agg x,.int .i64 (a1),.int .i64 (a2)]:Int)==(xI2 groupE) [.agg x,.int .i64 (a1),.int .i64 (a2)]))]) (objL (1) ((xX2 groupX) [.agg x,.int .i64 (a1),.int .i64 (a2)])++(objU (15) ((xX2 groupX) [.agg x,.int .i64 (a1),.int .i64 (a2)])++[some ⟨1,([.int .i64 (a0),.int .i64 (a1),.int .i64 (a2),.int .i64 (a3)]:List AV)⟩])))∧
 (((a0:Int)==4)=false→
 (((a0:Int)==5)=true→
 (okP1) (okA (1) x)=true∧
 (okR1) (okB (15) x)=true∧
 R (.tup [.ptr (.rw 0) (0),.ptr (.rw 14) (0),.bool ((((xI2 userE) [.agg x,.int .i64 (a1),.int .i64 (a2)]:Int)==(xI2 userE) [.agg x,.int .i64 (a1),.int .i64 (a2)]))]) (objL (1) ((xX2 userX) [.agg x,.int .i64 (a1),.int .i64 (a2)])++(objU (15) ((xX2 userX) [.agg x,.int .i64 (a1),.int .i64 (a2)])++[some ⟨1,([.int .i64 (a0),.int .i64 (a1),.int .i64 (a2),.int .i64 (a3)]:List AV)⟩])))∧
 (((a0:Int)==5)=false→
 (((a0:Int)==6)=true→
 (okP1) (okA (1) x)=true∧
 (killPre) [.agg ([.ptr (.rw 14) (0),.int .i64 (a1),.int .i64 (a2),.int .i64 (a3)]:List AV)]=true∧
 (okR1) (okB (15) x)=true∧
 R (.tup [.ptr (.rw 0) (0),.ptr (.rw 14) (0),.bool ((((xI3 killE) [.agg x,.int .i64 (a1),.int .i64 (a2),.int .i64 (a3)]:Int)==(xI3 killE) [.agg x,.int .i64 (a1),.int .i64 (a2),.int .i64 (a3)]))]) (objL (1) ((xX3 killX) [.agg x,.int .i64 (a1),.int .i64 (a2),.int .i64 (a3)])++(objU (15) ((xX3 killX) [.agg x,.int .i64 (a1),.int .i64 (a2),.int .i64 (a3)])++[some ⟨1,([.int .i64 (a0),.int .i64 (a1),.int .i64 (a2),.int .i64 (a3)]:List AV)⟩])))∧
 (((a0:Int)==6)=false→
 (((a0:Int)==7)=true→
 (okP1) (okA (1) x)=true∧
 (okR1) (okB (15) x)=true∧
 (((xI1 maskV) [.agg x,.int .i64 (a1)]:Int)==(xI1 maskV) [.agg x,.int .i64 (a1)])=true∧
 R (.tup [.ptr (.rw 0) (0),.ptr (.rw 14) (0),.bool ((((xI1 askE) [.agg x,.int .i64 (a1)]:Int)==(xI1 askE) [.agg x,.int .i64 (a1)]))]) (objL (1) ((xX2 maskX) [.agg x,.int .i64 (a1),.int .i64 (a2)])++(objU (15) ((xX2 maskX) [.agg x,.int .i64 (a1),.int .i64 (a2)])++[some ⟨1,([.int .i64 (a0),.int .i64 (a1),.int .i64 (a2),.int .i64 (a3)]:List AV)⟩])))∧
 (((a0:Int)==7)=false→
 (((a0:Int)==8)=true→
 (okP1) (okA (1) x)=true∧
 (okR1) (okB (15) x)=true∧
 (((xI3 handV) [.agg x,.int .i64 (a1),.int .i64 (a2),.int .i64 (a3)]:Int)==(xI3 handV) [.agg x,.int .i64 (a1),.int .i64 (a2),.int .i64 (a3)])=true∧
 R (.tup [.ptr (.rw 0) (0),.ptr (.rw 14) (0),.bool ((((xI3 handE) [.agg x,.int .i64 (a1),.int .i64 (a2),.int .i64 (a3)]:Int)==(xI3 handE) [.agg x,.int .i64 (a1),.int .i64 (a2),.int .i64 (a3)]))]) (objL (1) ((xX3 handX) [.agg x,.int .i64 (a1),.int .i64 (a2),.int .i64 (a3)])++(objU (15) ((xX3 handX) [.agg x,.int .i64 (a1),.int .i64 (a2),.int .i64 (a3)])++[some ⟨1,([.int .i64 (a0),.int .i64 (a1),.int .i64 (a2),.int .i64 (a3)]:List AV)⟩])))∧
 (((a0:Int)==8)=false→
 (((a0:Int)==9)=true→
 (okP1) (okA (1) x)=true∧
 (okR1) (okB (15) x)=true∧
 (((xI1 takeG) [.agg x,.int .i64 (a1)]:Int)==(xI1 takeG) [.agg x,.int .i64 (a1)])=true∧
 ((xB1 takeN) [.agg x,.int .i64 (a1)]=true→
 (xB1 takeN) [.agg x,.int .i64 (a1)]=true∧
 (((xI1 takeA) [.agg x,.int .i64 (a1)]:Int)==(xI1 takeA) [.agg x,.int .i64 (a1)])=true∧
 R (.tup [.ptr (.rw 0) (0),.ptr (.rw 14) (0),.bool ((((xB1 takeO) [.agg x,.int .i64 (a1)]:Bool)==(xB1 takeO) [.agg x,.int .i64 (a1)]))]) ([some ⟨1,((tabF tsP) [.int .i64 (29),.agg ((xX1 takeX) [.agg x,.int .i64 (a1)])])⟩,none,none,none,none,none,none,none,none,none,none,none,none,none,some ⟨1,((tabF tsR) [.int .i64 (43),.agg ((xX1 takeX) [.agg x,.int .i64 (a1)])])⟩,none,none,none,none,none,none,none,none,none,none,none,none,none,some ⟨1,([.int .i64 (a0),.int .i64 (a1),.int .i64 (a2),.int .i64 (a3)]:List AV)⟩]++(setL ((xX1 takeX) [.agg x,.int .i64 (a1)])++([some ⟨1,([.int .i64 ((xI1 takeG) [.agg x,.int .i64 (a1)]),.bool ((xB1 takeN) [.agg x,.int .i64 (a1)]),.int .u32 ((xI1 takeA) [.agg x,.int .i64 (a1)])]:List AV)⟩]++(setU ((xX1 takeX) [.agg x,.int .i64 (a1)])++[some ⟨1,([.int .i64 ((xI1 takeG) [.agg x,.int .i64 (a1)]),.bool ((xB1 takeN) [.agg x,.int .i64 (a1)]),.int .u32 ((xI1 takeA) [.agg x,.int .i64 (a1)])]:List AV)⟩])))))∧
 ((xB1 takeN) [.agg x,.int .i64 (a1)]=false→
 (!((xB1 takeN) [.agg x,.int .i64 (a1)]))=true∧
 (((xI1 takeA) [.agg x,.int .i64 (a1)]:Int)==(xI1 takeA) [.agg x,.int .i64 (a1)])=true∧
 R (.tup [.ptr (.rw 0) (0),.ptr (.rw 14) (0),.bool ((((xB1 takeO) [.agg x,.int .i64 (a1)]:Bool)==(xB1 takeO) [.agg x,.int .i64 (a1)]))]) ([some ⟨1,((tabF tsP) [.int .i64 (29),.agg ((xX1 takeX) [.agg x,.int .i64 (a1)])])⟩,none,none,none,none,none,none,none,none,none,none,none,none,none,some ⟨1,((tabF tsR) [.int .i64 (43),.agg ((xX1 takeX) [.agg x,.int .i64 (a1)])])⟩,none,none,none,none,none,none,none,none,none,none,none,none,none,some ⟨1,([.int .i64 (a0),.int .i64 (a1),.int .i64 (a2),.int .i64 (a3)]:List AV)⟩]++(setL ((xX1 takeX) [.agg x,.int .i64 (a1)])++([some ⟨1,([.int .i64 ((xI1 takeG) [.agg x,.int .i64 (a1)]),.bool ((xB1 takeN) [.agg x,.int .i64 (a1)]),.int .u32 ((xI1 takeA) [.agg x,.int .i64 (a1)])]:List AV)⟩]++(setU ((xX1 takeX) [.agg x,.int .i64 (a1)])++[some ⟨1,([.int .i64 ((xI1 takeG) [.agg x,.int .i64 (a1)]),.bool ((xB1 takeN) [.agg x,.int .i64 (a1)]),.int .u32 ((xI1 takeA) [.agg x,.int .i64 (a1)])]:List AV)⟩]))))))∧
 (((a0:Int)==9)=false→
 (((a0:Int)==10)=true→
 (okP1) (okA (1) x)=true∧
 (okP1) (okA (30) x)=true∧
 (okP1) (okA (1) x)=true∧
 (okP1) (okA (1) x)=true∧
 (okP1) (okA (43) ((xX1 forkY) [.agg x,.int .i64 (1)]))=true∧
 (okP1) (okA (43) ((xX3 killX) [.agg ((xX1 forkY) [.agg x,.int .i64 (1)]),.int .i64 (1),.int .i64 (1),.int .i64 (1)]))=true∧
 R (.tup [.ptr (.rw 29) (0),.ptr (.rw 14) (0),.bool ((sameXU) [.agg x,.agg x])]) ([some ⟨1,((tabF tsP) [.int .i64 (56),.agg ((xX2 endX) [.agg ((xX3 killX) [.agg ((xX1 forkY) [.agg x,.int .i64 (1)]),.int .i64 (1),.int .i64 (1),.int .i64 (1)]),.int .i64 (2),.int .i64 (9)])])⟩,none,none,none,none,none,none,none,none,none,none,none,none,none]++(objU (15) x++([some ⟨1,([.int .i64 (a0),.int .i64 (a1),.int .i64 (a2),.int .i64 (a3)]:List AV)⟩]++(objL (30) x++([none,none,none,none,none,none,none,none,none,none,none,none,none]++setL ((xX2 endX) [.agg ((xX3 killX) [.agg ((xX1 forkY) [.agg x,.int .i64 (1)]),.int .i64 (1),.int .i64 (1),.int .i64 (1)]),.int .i64 (2),.int .i64 (9)])))))))∧
 (((a0:Int)==10)=false→
 R (.tup [.ptr (.rw 0) (0),.ptr (.rw 14) (0),.bool (true)]) (objL (1) x++(objU (15) x++[some ⟨1,([.int .i64 (a0),.int .i64 (a1),.int .i64 (a2),.int .i64 (a3)]:List AV)⟩]))))))))))))):=by kernel_rfl
end Go.Am
