/-
  Processes: the program's Wait. Processes: the program's Wait: the call.
-/
import Derived.Test.YtkabjomhnddnoaaPart13
namespace Go.Am
open Go.Proofs Crc
set_option maxRecDepth 100000
theorem w_b (G:Nat→List AV) (tb sl ks:List AV) (w:Int) (c i:Nat) (wb:Bool) (Q:Ex→List AV→Hp→Prop) (R:AV→Hp→Prop):vT G Q R (dloop (Dc Try.prog [] [] [] 0) 300 40 14 (loopN Try.f13 0) 67 [0,2,6,7,8,9,32,33,34] [.ptr (.rw 0) (.lit 0),.int .i64 (.var 4 w),.int .i64 (.lit 0),.int .i64 (.lit 0),.bool (.var 7 wb),.int .i64 (.lit 0),.slice true (.rw 14) (.lit 0) (.var 6 c),.int .i64 (.ofN (.var 6 c)),.int .i64 (.ofN (.var 8 i))] (hp3 [some ⟨1,.var 1 tb⟩] (.var 2 sl) [some ⟨1,.var 22 ks⟩]))=(
  (decide ((((i:Nat):Int):Int)<((c:Nat):Int))=true→
 decide ((0:Int)≤((i:Nat):Int))=true∧
 decide ((((i:Nat):Int):Int)<((c:Nat):Int))=true∧
 isI .i64 ks (i)=true∧
 (((w:Int)==(-1))=true→
 decide ((0:Int)≤getI ks (i))=true∧
 decide ((getI ks (i):Int)<13)=true∧
 leB ((Int.toNat (getI ks (i)))*7+8) (List.length tb)=true∧
 cellsB (subL tb ((Int.toNat (getI ks (i)))*7+1) (7))=true∧
 Nat.beq (List.length (subL tb ((Int.toNat (getI ks (i)))*7+1) (7))) (7)=true∧
 isB (subL tb ((Int.toNat (getI ks (i)))*7+1) (7)) (4)=true∧
 (getB (subL tb ((Int.toNat (getI ks (i)))*7+1) (7)) (4)=true→
 decide ((0:Int)≤getI ks (i))=true∧
 decide ((getI ks (i):Int)<13)=true∧
 leB ((Int.toNat (getI ks (i)))*7+8) (List.length tb)=true∧
 isI .i64 (subL tb ((Int.toNat (getI ks (i)))*7+1) (7)) (5)=true∧
 Q .ret [.ptr (.rw 0) (0),.int .i64 (w),.int .i64 (getI ks (i)),.int .i64 (getI (subL tb ((Int.toNat (getI ks (i)))*7+1) (7)) (5)),.bool (false),.int .i64 (0),.slice true (.rw 14) (0) (c),.int .i64 (((c:Nat):Int)),.int .i64 (((i:Nat):Int))] ([some ⟨1,(setPart tb ((Int.toNat (getI ks (i)))*7+1) (.agg ([.int .i64 (0),.int .i64 (0),.int .i64 (0),.int .i64 (0),.bool (false),.int .i64 (0),.nilp]:List AV)))⟩]++(rows13 sl++[some ⟨1,ks⟩,some ⟨1,(subL tb ((Int.toNat (getI ks (i)))*7+1) (7))⟩])))∧
 (getB (subL tb ((Int.toNat (getI ks (i)))*7+1) (7)) (4)=false→
 Q .normal [.ptr (.rw 0) (0),.int .i64 (w),.int .i64 (0),.int .i64 (0),.bool (true),.int .i64 (0),.slice true (.rw 14) (0) (c),.int .i64 (((c:Nat):Int)),.int .i64 (IntKind.wrap .i64 (((i:Nat):Int)+1))] ([some ⟨1,tb⟩]++(rows13 sl++[some ⟨1,ks⟩,some ⟨1,(subL tb ((Int.toNat (getI ks (i)))*7+1) (7))⟩]))))∧
 (((w:Int)==(-1))=false→
 (((w:Int)==getI ks (i))=true→
 decide ((0:Int)≤getI ks (i))=true∧
 decide ((getI ks (i):Int)<13)=true∧
 leB ((Int.toNat (getI ks (i)))*7+8) (List.length tb)=true∧
 cellsB (subL tb ((Int.toNat (getI ks (i)))*7+1) (7))=true∧
 Nat.beq (List.length (subL tb ((Int.toNat (getI ks (i)))*7+1) (7))) (7)=true∧
 isB (subL tb ((Int.toNat (getI ks (i)))*7+1) (7)) (4)=true∧
 (getB (subL tb ((Int.toNat (getI ks (i)))*7+1) (7)) (4)=true→
 decide ((0:Int)≤getI ks (i))=true∧
 decide ((getI ks (i):Int)<13)=true∧
 leB ((Int.toNat (getI ks (i)))*7+8) (List.length tb)=true∧
 isI .i64 (subL tb ((Int.toNat (getI ks (i)))*7+1) (7)) (5)=true∧
 Q .ret [.ptr (.rw 0) (0),.int .i64 (w),.int .i64 (getI ks (i)),.int .i64 (getI (subL tb ((Int.toNat (getI ks (i)))*7+1) (7)) (5)),.bool (false),.int .i64 (0),.slice true (.rw 14) (0) (c),.int .i64 (((c:Nat):Int)),.int .i64 (((i:Nat):Int))] ([some ⟨1,(setPart tb ((Int.toNat (getI ks (i)))*7+1) (.agg ([.int .i64 (0),.int .i64 (0),.int .i64 (0),.int .i64 (0),.bool (false),.int .i64 (0),.nilp]:List AV)))⟩]++(rows13 sl++[some ⟨1,ks⟩,some ⟨1,(subL tb ((Int.toNat (getI ks (i)))*7+1) (7))⟩])))∧
 (getB (subL tb ((Int.toNat (getI ks (i)))*7+1) (7)) (4)=false→
 Q .normal [.ptr (.rw 0) (0),.int .i64 (w),.int .i64 (0),.int .i64 (0),.bool (true),.int .i64 (0),.slice true (.rw 14) (0) (c),.int .i64 (((c:Nat):Int)),.int .i64 (IntKind.wrap .i64 (((i:Nat):Int)+1))] ([some ⟨1,tb⟩]++(rows13 sl++[some ⟨1,ks⟩,some ⟨1,(subL tb ((Int.toNat (getI ks (i)))*7+1) (7))⟩]))))∧
 (((w:Int)==getI ks (i))=false→
 Q .normal [.ptr (.rw 0) (0),.int .i64 (w),.int .i64 (0),.int .i64 (0),.bool (wb),.int .i64 (0),.slice true (.rw 14) (0) (c),.int .i64 (((c:Nat):Int)),.int .i64 (IntKind.wrap .i64 (((i:Nat):Int)+1))] ([some ⟨1,tb⟩]++(rows13 sl++[some ⟨1,ks⟩])))))∧
 (decide ((((i:Nat):Int):Int)<((c:Nat):Int))=false→
 Q (.exit 0) [.ptr (.rw 0) (0),.int .i64 (w),.int .i64 (0),.int .i64 (0),.bool (wb),.int .i64 (0),.slice true (.rw 14) (0) (c),.int .i64 (((c:Nat):Int)),.int .i64 (((i:Nat):Int))] ([some ⟨1,tb⟩]++(rows13 sl++[some ⟨1,ks⟩])))):=by kernel_rfl
theorem w_c (G:Nat→List AV) (k15 k14 rl:List AV→Bool) (tb sl ks tf:List AV) (n w fc fs:Int) (c:Nat) (fb wb:Bool) (Q:Ex→List AV→Hp→Prop) (R:AV→Hp→Prop):vT G Q R (dcall (Dc Try.prog [36,38,39,20] [(31,kidsQ k15 k14)] [DLat 2320 (rl) 0 67 [0,2,6,7,8,9,32,33,34] (.tst (.var 9 fb) (.one .ret [.undef,.undef,.int .i64 (.var 10 fc),.int .i64 (.var 11 fs),.bool (.lit false),.int .i64 (.lit 0),.undef,.undef,.undef] (hp3 [some ⟨1,.var 21 tf⟩] (.var 2 sl) [some ⟨1,.var 22 ks⟩])) (.one (.exit 0) [.undef,.undef,.int .i64 (.lit 0),.int .i64 (.lit 0),.bool (.var 7 wb),.int .i64 (.lit 0),.undef,.undef,.undef] (hp3 [some ⟨1,.var 1 tb⟩] (.var 2 sl) [some ⟨1,.var 22 ks⟩])))] 14) 300 40 Try.f13 [.ptr (.rw 0) (.lit 0),.int .i64 (.var 3 n),.int .i64 (.var 4 w)] (hp3 [some ⟨1,.var 1 tb⟩] (.var 2 sl) []) 14)=(
  isB tb (0)=true∧
 (getB tb (0)=true→
 isB tb (0)=true∧
 getB tb (0)=true∧
 (decide ((n:Int)≥1)=true→
 (decide ((n:Int)≤12)=true→
 decide ((0:Int)≤n)=true∧
 decide ((n:Int)<13)=true∧
 isI .i64 tb ((Int.toNat (n))*7+1)=true∧
 (((getI tb ((Int.toNat (n))*7+1):Int)==n)=true→
 decide ((0:Int)≤n)=true∧
 decide ((n:Int)<13)=true∧
 isB tb ((Int.toNat (n))*7+5)=true∧
 (getB tb ((Int.toNat (n))*7+5)=true→
 R (.tup [.int .i64 (0),.int .i64 (0),.bool (false),.int .i64 (6)]) ([some ⟨1,tb⟩]++rows13 sl))∧
 (getB tb ((Int.toNat (n))*7+5)=false→
 (((w:Int)==(-1))=true→
 rowsA sl (rp 13 sl)=true∧
 k14 [.agg tb,.agg sl]=true∧
 (rl) [.agg ([.ptr (.rw 0) (0),.int .i64 (w),.int .i64 (0),.int .i64 (0),.bool (false),.int .i64 (0),.slice true (.rw 14) (0) (kidNU [.agg tb,.int .i64 (n)]),.int .i64 (((kidNU [.agg tb,.int .i64 (n)]:Nat):Int)),.int .i64 (0)]:List AV),.agg ((tp3 [.tup [.int .i64 (1),.agg tb]] sl [.tup [.int .i64 (1),.agg (kidLU [.agg tb,.int .i64 (n)])]]):List AV)]=true∧
 (fb=true→
 R (.tup [.int .i64 (fc),.int .i64 (fs),.bool (false),.int .i64 (0)]) ([some ⟨1,tf⟩]++rows13 sl))∧
 (fb=false→
 (wb=true→
 R (.tup [.int .i64 (0),.int .i64 (0),.bool (true),.int .i64 (0)]) ([some ⟨1,tb⟩]++rows13 sl))∧
 (wb=false→
 R (.tup [.int .i64 (0),.int .i64 (0),.bool (false),.int .i64 (6)]) ([some ⟨1,tb⟩]++rows13 sl))))∧
 (((w:Int)==(-1))=false→
 (decide ((w:Int)<1)=true→
 R (.tup [.int .i64 (0),.int .i64 (0),.bool (false),.int .i64 (2)]) ([some ⟨1,tb⟩]++rows13 sl))∧
 (decide ((w:Int)<1)=false→
 (decide ((w:Int)>12)=true→
 R (.tup [.int .i64 (0),.int .i64 (0),.bool (false),.int .i64 (2)]) ([some ⟨1,tb⟩]++rows13 sl))∧
 (decide ((w:Int)>12)=false→
 rowsA sl (rp 13 sl)=true∧
 k14 [.agg tb,.agg sl]=true∧
 (rl) [.agg ([.ptr (.rw 0) (0),.int .i64 (w),.int .i64 (0),.int .i64 (0),.bool (false),.int .i64 (0),.slice true (.rw 14) (0) (kidNU [.agg tb,.int .i64 (n)]),.int .i64 (((kidNU [.agg tb,.int .i64 (n)]:Nat):Int)),.int .i64 (0)]:List AV),.agg ((tp3 [.tup [.int .i64 (1),.agg tb]] sl [.tup [.int .i64 (1),.agg (kidLU [.agg tb,.int .i64 (n)])]]):List AV)]=true∧
 (fb=true→
 R (.tup [.int .i64 (fc),.int .i64 (fs),.bool (false),.int .i64 (0)]) ([some ⟨1,tf⟩]++rows13 sl))∧
 (fb=false→
 (wb=true→
 R (.tup [.int .i64 (0),.int .i64 (0),.bool (true),.int .i64 (0)]) ([some ⟨1,tb⟩]++rows13 sl))∧
 (wb=false→
 R (.tup [.int .i64 (0),.int .i64 (0),.bool (false),.int .i64 (6)]) ([some ⟨1,tb⟩]++rows13 sl))))))))∧
 (((getI tb ((Int.toNat (n))*7+1):Int)==n)=false→
 R (.tup [.int .i64 (0),.int .i64 (0),.bool (false),.int .i64 (6)]) ([some ⟨1,tb⟩]++rows13 sl)))∧
 (decide ((n:Int)≤12)=false→
 R (.tup [.int .i64 (0),.int .i64 (0),.bool (false),.int .i64 (6)]) ([some ⟨1,tb⟩]++rows13 sl)))∧
 (decide ((n:Int)≥1)=false→
 R (.tup [.int .i64 (0),.int .i64 (0),.bool (false),.int .i64 (6)]) ([some ⟨1,tb⟩]++rows13 sl)))∧
 (getB tb (0)=false→
 R (.tup [.int .i64 (0),.int .i64 (0),.bool (false),.int .i64 (1)]) ([some ⟨1,tb⟩]++rows13 sl))):=by kernel_rfl
theorem hL (G:Nat→List AV) (s:Ptb) (n:Int):vHp G (hp3 [some ⟨1,.var 1 (encT 1 s)⟩] (.var 2 (setsL encP s)) [some ⟨1,.var 22 (nl (kidT s n 13))⟩])=can tsP s++[some ⟨1,nl (kidT s n 13)⟩]:=by
 rw [←hp_can (t:=tsP) (s:=s)];rfl
theorem find_none {l:List Nat} {p:Nat→Bool} (h:∀ j,(hj:j<l.length)→p l[j]=false):l.find? p=none:=by
 rw [List.find?_eq_none]
 intro x hx
 obtain ⟨j,hj,rfl⟩:=List.getElem_of_mem hx
 rw [h j hj];simp
theorem find_at {l:List Nat} {p:Nat→Bool} {i:Nat} (hi:i<l.length) (hp:p l[i]=true) (h:∀ j,(hj:j<l.length)→j<i→p l[j]=false):l.find? p=some l[i]:=by
 rw [List.find?_eq_some_iff_getElem]
 exact ⟨hp,i,hi,rfl,fun j hj=>by rw [h j (by omega) hj];rfl⟩
theorem take_any {l:List Nat} {p:Nat→Bool} {i:Nat} (hi:i<l.length):(l.take (i+1)).any p=((l.take i).any p||p l[i]):=by
 rw [List.take_add_one,List.getElem?_eq_getElem hi]
 simp only [Option.toList,List.any_append,List.any_cons,List.any_nil,Bool.or_false]
theorem w_loop (G:Nat→List AV) (B:Nat) {s:Ptb} (hw:Wf s) (n w:Int):AWp (⟨Try.prog,G,B⟩:Ctx) 14 (.loop (loopN Try.f13 0)) (fl 67 [0,2,6,7,8,9,32,33,34] [.ptr (.rw 0) 0,.int .i64 w,.int .i64 0,.int .i64 0,.bool false,.int .i64 0,.slice true (.rw 14) 0 (kidT s n 13).length,.int .i64 ((kidT s n 13).length:Int),.int .i64 0]) (vHp G (hp3 [some ⟨1,.var 1 (encT 1 s)⟩] (.var 2 (setsL encP s)) [some ⟨1,.var 22 (nl (kidT s n 13))⟩])) (lv 67 [0,2,6,7,8,9,32,33,34] (LOut.post G 14 (.tst (.var 9 (((kidT s n 13).find? (wHit s w)).isSome)) (.one .ret [.undef,.undef,.int .i64 (.var 10 ((((kidT s n 13).find? (wHit s w)).getD 0):Int)),.int .i64 (.var 11 (s.at_ (((kidT s n 13).find? (wHit s w)).getD 0)).st),.bool (.lit false),.int .i64 (.lit 0),.undef,.undef,.undef] (hp3 [some ⟨1,.var 21 (encT 1 (freeX s (((kidT s n 13).find? (wHit s w)).getD 0)))⟩] (.var 2 (setsL encP s)) [some ⟨1,.var 22 (nl (kidT s n 13))⟩])) (.one (.exit 0) [.undef,.undef,.int .i64 (.lit 0),.int .i64 (.lit 0),.bool (.var 7 ((kidT s n 13).any (wMat w))),.int .i64 (.lit 0),.undef,.undef,.undef] (hp3 [some ⟨1,.var 1 (encT 1 s)⟩] (.var 2 (setsL encP s)) [some ⟨1,.var 22 (nl (kidT s n 13))⟩]))))):=by
 refine scanP (fun i=>∀ j,(hj:j<(kidT s n 13).length)→j<i→wHit s w (kidT s n 13)[j]=false) (kidT s n 13).length (fun i=>[.ptr (.rw 0) 0,.int .i64 w,.int .i64 0,.int .i64 0,.bool (((kidT s n 13).take i).any (wMat w)),.int .i64 0,.slice true (.rw 14) 0 (kidT s n 13).length,.int .i64 ((kidT s n 13).length:Int),.int .i64 (i:Int)]) (fun _=>vHp G (hp3 [some ⟨1,.var 1 (encT 1 s)⟩] (.var 2 (setsL encP s)) [some ⟨1,.var 22 (nl (kidT s n 13))⟩])) (fun j hj h=>by omega) fun i hi hP=>?_
 refine dloop_ok (C:=(⟨Try.prog,G,B⟩:Ctx)) (K:=Dc Try.prog [] [] [] 0) (dgood (mix G B) (by kernel_rfl) .nil .nil) (fuel:=300) (n0:=40) (m:=14) (c:=loopN Try.f13 0)
  (vs:=[.ptr (.rw 0) (.lit 0),.int .i64 (.var 4 w),.int .i64 (.lit 0),.int .i64 (.lit 0),.bool (.var 7 (((kidT s n 13).take i).any (wMat w))),.int .i64 (.lit 0),.slice true (.rw 14) (.lit 0) (.var 6 (kidT s n 13).length),.int .i64 (.ofN (.var 6 (kidT s n 13).length)),.int .i64 (.ofN (.var 8 i))]) (H:=(hp3 [some ⟨1,.var 1 (encT 1 s)⟩] (.var 2 (setsL encP s)) [some ⟨1,.var 22 (nl (kidT s n 13))⟩])) (Nat.le_of_ble_eq_true rfl) ?_
 rw [w_b]
 have hle:=kidT_len s n 13
 refine ⟨fun h=>?_,fun h=>?_⟩
 ·have hlt:i<(kidT s n 13).length:=by have:=of_decide_eq_true h;omega
  obtain ⟨k1,k2⟩:=nl_getI (l:=(kidT s n 13)) hlt
  obtain ⟨c1,c2,c3,c4⟩:=kidT_mem (List.getElem_mem hlt)
  have enC:=T_row (b:=1) (s:=s) c1
  have ew:∀ x:Int,IntKind.wrap .i64 ((i:Int)+1)=((i+1:Nat):Int):=fun _=>by rw [i64_in (by omega)];rfl
  have hb20:∀ (E:Hp) (vs:List AV),vs=(fun i:Nat=>([.ptr (.rw 0) 0,.int .i64 w,.int .i64 0,.int .i64 0,.bool (((kidT s n 13).take i).any (wMat w)),.int .i64 0,.slice true (.rw 14) 0 (kidT s n 13).length,.int .i64 ((kidT s n 13).length:Int),.int .i64 (i:Int)]:List AV)) (i+1)→View 14 ((fun i:Nat=>([.ptr (.rw 0) 0,.int .i64 w,.int .i64 0,.int .i64 0,.bool (((kidT s n 13).take i).any (wMat w)),.int .i64 0,.slice true (.rw 14) 0 (kidT s n 13).length,.int .i64 ((kidT s n 13).length:Int),.int .i64 (i:Int)]:List AV)) (i+1)) (vHp G (hp3 [some ⟨1,.var 1 (encT 1 s)⟩] (.var 2 (setsL encP s)) [some ⟨1,.var 22 (nl (kidT s n 13))⟩])) vs (vHp G (hp3 [some ⟨1,.var 1 (encT 1 s)⟩] (.var 2 (setsL encP s)) [some ⟨1,.var 22 (nl (kidT s n 13))⟩])++E):=fun E vs e=>by
   subst e
   have hl:(vHp G (hp3 [some ⟨1,.var 1 (encT 1 s)⟩] (.var 2 (setsL encP s)) [some ⟨1,.var 22 (nl (kidT s n 13))⟩])).length=15:=by rw [vHp_length];rfl
   refine View.same (by rw [hl];omega) ?_ ?_
   ·rw [hl,hL]
    refine hpB_app (m:=15) ?_ (by simp only [hpB,bm (nl_flat 0 (kidT s n 13)),Bool.and_self])
    exact can_b s (by omega)
   ·rw [hl]
    exact ⟨⟨rfl,rfl⟩,⟨rfl,rfl⟩,⟨rfl,rfl⟩,⟨rfl,rfl⟩,⟨rfl,rfl⟩,⟨rfl,rfl⟩,⟨rfl,rfl⟩,⟨rfl,rfl⟩,⟨rfl,rfl⟩,trivial⟩
  have found:wMat w (kidT s n 13)[i]=true→(s.at_ (kidT s n 13)[i]).en=true→(if True then LOut.post G 14 (.tst (.var 9 (((kidT s n 13).find? (wHit s w)).isSome)) (.one .ret [.undef,.undef,.int .i64 (.var 10 ((((kidT s n 13).find? (wHit s w)).getD 0):Int)),.int .i64 (.var 11 (s.at_ (((kidT s n 13).find? (wHit s w)).getD 0)).st),.bool (.lit false),.int .i64 (.lit 0),.undef,.undef,.undef] (hp3 [some ⟨1,.var 21 (encT 1 (freeX s (((kidT s n 13).find? (wHit s w)).getD 0)))⟩] (.var 2 (setsL encP s)) [some ⟨1,.var 22 (nl (kidT s n 13))⟩])) (.one (.exit 0) [.undef,.undef,.int .i64 (.lit 0),.int .i64 (.lit 0),.bool (.var 7 ((kidT s n 13).any (wMat w))),.int .i64 (.lit 0),.undef,.undef,.undef] (hp3 [some ⟨1,.var 1 (encT 1 s)⟩] (.var 2 (setsL encP s)) [some ⟨1,.var 22 (nl (kidT s n 13))⟩]))) .ret [.ptr (.rw 0) 0,.int .i64 w,.int .i64 ((kidT s n 13)[i]:Int),.int .i64 (s.at_ (kidT s n 13)[i]).st,.bool false,.int .i64 0,.slice true (.rw 14) 0 (kidT s n 13).length,.int .i64 ((kidT s n 13).length:Int),.int .i64 (i:Int)] (some ⟨1,encT 1 (freeX s (kidT s n 13)[i])⟩::((List.range 13).map (fun n=>some (⟨1,rowA (setsL encP s) n⟩:Blk))++[some ⟨1,nl (kidT s n 13)⟩,some ⟨1,rowT (s.at_ (kidT s n 13)[i]) (ptrO 1 (kidT s n 13)[i] (s.sg (kidT s n 13)[i]))⟩])) else True):=fun hm he=>by
   rw [if_pos trivial]
   have hf:(kidT s n 13).find? (wHit s w)=some (kidT s n 13)[i]:=find_at hlt (by unfold wHit;rw [hm,he];rfl) hP
   refine .inl ⟨by show Option.isSome _=true;rw [hf];rfl,rfl,.inr ?_⟩
   have e1:(((kidT s n 13).find? (wHit s w)).getD 0)=(kidT s n 13)[i]:=by rw [hf];rfl
   have e2:vHp G (hp3 [some ⟨1,.var 21 (encT 1 (freeX s (((kidT s n 13).find? (wHit s w)).getD 0)))⟩] (.var 2 (setsL encP s)) [some ⟨1,.var 22 (nl (kidT s n 13))⟩])=some ⟨1,encT 1 (freeX s (kidT s n 13)[i])⟩::((List.range 13).map (fun n=>some (⟨1,rowA (setsL encP s) n⟩:Blk))++[some ⟨1,nl (kidT s n 13)⟩]):=by rw [e1];rfl
   rw [e2]
   refine View.same (m:=14) (H:=some ⟨1,encT 1 (freeX s (kidT s n 13)[i])⟩::((List.range 13).map (fun n=>some (⟨1,rowA (setsL encP s) n⟩:Blk))++[some ⟨1,nl (kidT s n 13)⟩])) (G:=[some ⟨1,rowT (s.at_ (kidT s n 13)[i]) (ptrO 1 (kidT s n 13)[i] (s.sg (kidT s n 13)[i]))⟩]) (Nat.le_of_ble_eq_true rfl) ?_ ?_
   ·have hl:(some (⟨1,encT 1 (freeX s (kidT s n 13)[i])⟩:Blk)::((List.range 13).map (fun n=>some (⟨1,rowA (setsL encP s) n⟩:Blk))++[some ⟨1,nl (kidT s n 13)⟩])).length=15:=by simp
    rw [hl]
    have t1:bnds 15 (encT 1 (freeX s (kidT s n 13)[i]))=true:=tsP_ok.bnd 15 (ptrs 1 (freeX s (kidT s n 13)[i])) _ fun n hn=>bnd_ptrs (by omega) n hn
    have r1:=can_b s (m:=15) (by omega)
    rw [←hp_can (t:=tsP) (s:=s)] at r1
    simp only [hpB,Bool.and_eq_true] at r1
    simp only [hpB,t1,Bool.true_and]
    exact hpB_app r1.2 (by simp only [hpB,bm (nl_flat 0 (kidT s n 13)),Bool.and_self])
   ·exact ⟨⟨rfl,by rw [e1];rfl⟩,⟨rfl,by rw [e1];rfl⟩,⟨rfl,rfl⟩,⟨rfl,rfl⟩,trivial⟩
  have nexts:wHit s w (kidT s n 13)[i]=false→∀ j,(hj:j<(kidT s n 13).length)→j<i+1→wHit s w (kidT s n 13)[j]=false:=fun h0 j hj hji=>by
   by_cases e:j=i
   ·subst e;exact h0
   ·exact hP j hj (by omega)
  rw [k2,Int.toNat_natCast,enC]
  have en0:(0:Int)≤((kidT s n 13)[i]:Int):=by omega
  have leT:leB ((kidT s n 13)[i]*7+8) (encT 1 s).length=true:=leB_iff.2 (by rw [encT_len];omega)
  have norm:wMat w (kidT s n 13)[i]=true→(s.at_ (kidT s n 13)[i]).en=false→(i<(kidT s n 13).length∧(∀ j,(hj:j<(kidT s n 13).length)→j<i+1→wHit s w (kidT s n 13)[j]=false)∧(([.ptr (.rw 0) 0,.int .i64 w,.int .i64 0,.int .i64 0,.bool true,.int .i64 0,.slice true (.rw 14) 0 (kidT s n 13).length,.int .i64 ((kidT s n 13).length:Int),.int .i64 (IntKind.wrap .i64 ((i:Int)+1))]=(fun i:Nat=>([.ptr (.rw 0) 0,.int .i64 w,.int .i64 0,.int .i64 0,.bool (((kidT s n 13).take i).any (wMat w)),.int .i64 0,.slice true (.rw 14) 0 (kidT s n 13).length,.int .i64 ((kidT s n 13).length:Int),.int .i64 (i:Int)]:List AV)) (i+1)∧(vHp G (hp3 [some ⟨1,.var 1 (encT 1 s)⟩] (.var 2 (setsL encP s)) [some ⟨1,.var 22 (nl (kidT s n 13))⟩])++[some (⟨1,rowT (s.at_ (kidT s n 13)[i]) (ptrO 1 (kidT s n 13)[i] (s.sg (kidT s n 13)[i]))⟩:Blk)])=vHp G (hp3 [some ⟨1,.var 1 (encT 1 s)⟩] (.var 2 (setsL encP s)) [some ⟨1,.var 22 (nl (kidT s n 13))⟩]))∨View 14 ((fun i:Nat=>([.ptr (.rw 0) 0,.int .i64 w,.int .i64 0,.int .i64 0,.bool (((kidT s n 13).take i).any (wMat w)),.int .i64 0,.slice true (.rw 14) 0 (kidT s n 13).length,.int .i64 ((kidT s n 13).length:Int),.int .i64 (i:Int)]:List AV)) (i+1)) (vHp G (hp3 [some ⟨1,.var 1 (encT 1 s)⟩] (.var 2 (setsL encP s)) [some ⟨1,.var 22 (nl (kidT s n 13))⟩])) [.ptr (.rw 0) 0,.int .i64 w,.int .i64 0,.int .i64 0,.bool true,.int .i64 0,.slice true (.rw 14) 0 (kidT s n 13).length,.int .i64 ((kidT s n 13).length:Int),.int .i64 (IntKind.wrap .i64 ((i:Int)+1))] (vHp G (hp3 [some ⟨1,.var 1 (encT 1 s)⟩] (.var 2 (setsL encP s)) [some ⟨1,.var 22 (nl (kidT s n 13))⟩])++[some (⟨1,rowT (s.at_ (kidT s n 13)[i]) (ptrO 1 (kidT s n 13)[i] (s.sg (kidT s n 13)[i]))⟩:Blk)]))):=fun hm he=>
   ⟨hlt,nexts (by unfold wHit;rw [he,Bool.and_false]),.inr (hb20 _ _ (by show _=[_,_,_,_,_,_,_,_,_];rw [take_any hlt,hm,Bool.or_true,ew 0]))⟩
  have both:wMat w (kidT s n 13)[i]=true→_:=fun hm=>And.intro (found hm) (norm hm)
  refine ⟨decide_eq_true (by omega),h,k1,fun h1=>?_,fun h1=>⟨fun h2=>?_,fun h2=>?_⟩⟩
  ·have hm:wMat w (kidT s n 13)[i]=true:=by unfold wMat;rw [show (w==-1)=true from h1];rfl
   refine ⟨decide_eq_true en0,decide_eq_true (by omega),leT,?_,rfl,rfl,fun he=>⟨decide_eq_true en0,decide_eq_true (by omega),leT,rfl,?_⟩,fun he=>norm hm he⟩
   ·cases s.sg (kidT s n 13)[i]<;>rfl
   ·have f:=found hm he
    rw [if_pos trivial] at f
    have e9:setPart (encT 1 s) ((kidT s n 13)[i]*7+1) (.agg [.int .i64 0,.int .i64 0,.int .i64 0,.int .i64 0,.bool false,.int .i64 0,.nilp])=encT 1 (freeX s (kidT s n 13)[i]):=enc_free (b:=1) (s:=s) c1
    rw [e9]
    exact f
  ·have hm:wMat w (kidT s n 13)[i]=true:=by unfold wMat;rw [show (w==((kidT s n 13)[i]:Int))=true from h2,Bool.or_true]
   refine ⟨decide_eq_true en0,decide_eq_true (by omega),leT,?_,rfl,rfl,fun he=>⟨decide_eq_true en0,decide_eq_true (by omega),leT,rfl,?_⟩,fun he=>norm hm he⟩
   ·cases s.sg (kidT s n 13)[i]<;>rfl
   ·have f:=found hm he
    rw [if_pos trivial] at f
    have e9:setPart (encT 1 s) ((kidT s n 13)[i]*7+1) (.agg [.int .i64 0,.int .i64 0,.int .i64 0,.int .i64 0,.bool false,.int .i64 0,.nilp])=encT 1 (freeX s (kidT s n 13)[i]):=enc_free (b:=1) (s:=s) c1
    rw [e9]
    exact f
  ·have hm:wMat w (kidT s n 13)[i]=false:=by unfold wMat;rw [show (w==((kidT s n 13)[i]:Int))=false from h2,show (w==-1)=false from h1];rfl
   refine ⟨hlt,nexts (by unfold wHit;rw [hm];rfl),.inl ⟨?_,rfl⟩⟩
   show _=[_,_,_,_,_,_,_,_,_]
   rw [take_any hlt,hm,Bool.or_false,ew 0]
 ·have he:i=(kidT s n 13).length:=by have:=of_decide_eq_false h;omega
  have hn:(kidT s n 13).find? (wHit s w)=none:=find_none fun j hj=>hP j hj (by omega)
  refine .inr ⟨by show Option.isSome _=false;rw [hn];rfl,rfl,.inl ⟨?_,rfl⟩⟩
  rw [he,List.take_length]
  simp [wk,vVs,vV,vI,vB]
where
 can_b (s:Ptb) {m:Nat} (hm:14≤m):hpB m (can tsP s)=true:=by
  have h:=hpB_get (can_hpB tsP_ok s)
  exact B15_bnd.hpB_of fun i b hb=>bnds_mono hm _ (h i b hb)
end Go.Am
namespace Go.Am
open Go.Proofs Crc
set_option maxRecDepth 100000
theorem encT_C (s:Ptb):encT 1 s=encV (ptC s 13) s:=by
 show tsP.tb (ptrs 1 s) s=tsP.tb (ptC s 13) s
 refine tsP_ok.congr _ _ _ fun n hn=>?_
 unfold ptrs ptrO ptC
 split
 ·rename_i e;rw [e]
 ·rename_i e;rw [e];simp only;rw [if_neg (by omega)]
theorem kidNU_T {k:IntKind} {s:Ptb} {n:Int}:kidNU [.agg (encT 1 s),.int k n]=(kidT s n 13).length:=by
 unfold kidNU
 rw [encT_V]
 simp only [kidLC_eq]
theorem kidLU_T {k:IntKind} {s:Ptb} {n:Int}:kidLU [.agg (encT 1 s),.int k n]=nl (kidT s n 13):=by
 unfold kidLU
 rw [encT_V]
 simp only [kidLC_eq]
theorem sets_flat {s:Ptb}:∀ n,n<13→bnds 0 (rowA (setsL encP s) n)=true:=fun n hn=>by
 rw [rowA_sets hn];exact blkO_flat tsP_ok _ 0
theorem k14_ok {s:Ptb} (hw:Wf s):okK14 [.agg (encT 1 s),.agg (setsL encP s)]=true:=okK14_iff.2 ⟨s,hw,encT_C s,sets_flat⟩
theorem dgW (G:Nat→List AV) (B:Nat) {s:Ptb} (hw:Wf s) (n w:Int):DGood (⟨Try.prog,G,B⟩:Ctx) (Dc Try.prog [36,38,39,20] [(31,kidsS)] [DLat 0x910 (isSt [.ptr (.rw 0) 0,.int .i64 w,.int .i64 0,.int .i64 0,.bool false,.int .i64 0,.slice true (.rw 14) 0 (kidT s n 13).length,.int .i64 ((kidT s n 13).length:Int),.int .i64 0] (vHp G (hp3 [some ⟨1,.var 1 (encT 1 s)⟩] (.var 2 (setsL encP s)) [some ⟨1,.var 22 (nl (kidT s n 13))⟩]))) 0 67 [0,2,6,7,8,9,32,33,34] (.tst (.var 9 (((kidT s n 13).find? (wHit s w)).isSome)) (.one .ret [.undef,.undef,.int .i64 (.var 10 ((((kidT s n 13).find? (wHit s w)).getD 0):Int)),.int .i64 (.var 11 (s.at_ (((kidT s n 13).find? (wHit s w)).getD 0)).st),.bool (.lit false),.int .i64 (.lit 0),.undef,.undef,.undef] (hp3 [some ⟨1,.var 21 (encT 1 (freeX s (((kidT s n 13).find? (wHit s w)).getD 0)))⟩] (.var 2 (setsL encP s)) [some ⟨1,.var 22 (nl (kidT s n 13))⟩])) (.one (.exit 0) [.undef,.undef,.int .i64 (.lit 0),.int .i64 (.lit 0),.bool (.var 7 ((kidT s n 13).any (wMat w))),.int .i64 (.lit 0),.undef,.undef,.undef] (hp3 [some ⟨1,.var 1 (encT 1 s)⟩] (.var 2 (setsL encP s)) [some ⟨1,.var 22 (nl (kidT s n 13))⟩])))] 14) (loopsOf (bodyOf Try.f13)):=
 dgood (mix G B) (by kernel_rfl) (.cons (kidsS_ok G B) .nil) (.cast (.cons (i:=0) (by kernel_rfl) rfl (DLat_okC rfl (w_loop G B hw n w)) .nil) (by kernel_rfl))
def waitVv (r:Int×Int×Bool×Int):AV:=.tup [.int .i64 r.1,.int .i64 r.2.1,.bool r.2.2.1,.int .i64 r.2.2.2]
theorem seen_free {s:Ptb} {c:Nat}:Seen tsP (freeX s c) 13 (some ⟨1,encT 1 (freeX s c)⟩::(List.range 13).map fun n=>some ⟨1,rowA (setsL encP s) n⟩):=
 seen_rows (t:=tsP) rfl tsP_ok (sets_same (t:=tsP) (s:=s) fun n p h=>by
  have h:(if n=c then none else s.sg n)=some p:=h
  split at h
  ·cases h
  ·exact h)
theorem p_wait (G:Nat→List AV) (B:Nat) {s:Ptb} (hw:Wf s) (n w:Int):ACalls (⟨Try.prog,G,B⟩:Ctx) 13 [.ptr (.rw 0) 0,.int .i64 n,.int .i64 w] (can tsP s) fun v H'=>v=waitVv (waitR s n w).1∧H'=can tsP (waitR s n w).2:=by
 have h:=dcall_ok (C:=(⟨Try.prog,G,B⟩:Ctx)) (K:=Dc Try.prog [36,38,39,20] [(31,kidsS)] [DLat 0x910 (isSt [.ptr (.rw 0) 0,.int .i64 w,.int .i64 0,.int .i64 0,.bool false,.int .i64 0,.slice true (.rw 14) 0 (kidT s n 13).length,.int .i64 ((kidT s n 13).length:Int),.int .i64 0] (vHp G (hp3 [some ⟨1,.var 1 (encT 1 s)⟩] (.var 2 (setsL encP s)) [some ⟨1,.var 22 (nl (kidT s n 13))⟩]))) 0 67 [0,2,6,7,8,9,32,33,34] (.tst (.var 9 (((kidT s n 13).find? (wHit s w)).isSome)) (.one .ret [.undef,.undef,.int .i64 (.var 10 ((((kidT s n 13).find? (wHit s w)).getD 0):Int)),.int .i64 (.var 11 (s.at_ (((kidT s n 13).find? (wHit s w)).getD 0)).st),.bool (.lit false),.int .i64 (.lit 0),.undef,.undef,.undef] (hp3 [some ⟨1,.var 21 (encT 1 (freeX s (((kidT s n 13).find? (wHit s w)).getD 0)))⟩] (.var 2 (setsL encP s)) [some ⟨1,.var 22 (nl (kidT s n 13))⟩])) (.one (.exit 0) [.undef,.undef,.int .i64 (.lit 0),.int .i64 (.lit 0),.bool (.var 7 ((kidT s n 13).any (wMat w))),.int .i64 (.lit 0),.undef,.undef,.undef] (hp3 [some ⟨1,.var 1 (encT 1 s)⟩] (.var 2 (setsL encP s)) [some ⟨1,.var 22 (nl (kidT s n 13))⟩])))] 14) (fuel:=300) (n0:=40) (f:=13) (fn:=Try.f13) (args:=[.ptr (.rw 0) (.lit 0),.int .i64 (.var 3 n),.int .i64 (.var 4 w)]) (H:=(hp3 [some ⟨1,.var 1 (encT 1 s)⟩] (.var 2 (setsL encP s)) [])) (keep:=14)
  (R:=fun v H=>v=waitVv (waitR s n w).1∧Seen tsP (waitR s n w).2 13 H) (dgW G B hw n w) (by kernel_rfl) (by kernel_rfl) (by kernel_rfl) (by
  have:=w_c G okK15 okK14 (isSt [.ptr (.rw 0) 0,.int .i64 w,.int .i64 0,.int .i64 0,.bool false,.int .i64 0,.slice true (.rw 14) 0 (kidT s n 13).length,.int .i64 ((kidT s n 13).length:Int),.int .i64 0] (vHp G (hp3 [some ⟨1,.var 1 (encT 1 s)⟩] (.var 2 (setsL encP s)) [some ⟨1,.var 22 (nl (kidT s n 13))⟩]))) (encT 1 s) (setsL encP s) (nl (kidT s n 13)) (encT 1 (freeX s (((kidT s n 13).find? (wHit s w)).getD 0))) n w ((((kidT s n 13).find? (wHit s w)).getD 0):Int) (s.at_ (((kidT s n 13).find? (wHit s w)).getD 0)).st (kidT s n 13).length (((kidT s n 13).find? (wHit s w)).isSome) ((kidT s n 13).any (wMat w)) (fun _ _ _=>False) (fun v H=>v=waitVv (waitR s n w).1∧Seen tsP (waitR s n w).2 13 H)
  refine Eq.mpr this ?_
  rw [kidNU_T,kidLU_T]
  refine ⟨rfl,fun _=>⟨rfl,rfl,live_tree 1 (fun hl=>?_) fun hl=>?_⟩,fun h=>by cases h⟩
  ·have fin:¬(w≠-1∧(w<1∨12<w))→((((kidT s n 13).find? (wHit s w)).isSome)=true→(waitVv (((((kidT s n 13).find? (wHit s w)).getD 0):Int),(s.at_ (((kidT s n 13).find? (wHit s w)).getD 0)).st,false,0)=waitVv (waitR s n w).1∧Seen tsP (waitR s n w).2 13 (some ⟨1,encT 1 (freeX s (((kidT s n 13).find? (wHit s w)).getD 0))⟩::(List.range 13).map fun n=>some ⟨1,rowA (setsL encP s) n⟩)))∧
     ((((kidT s n 13).find? (wHit s w)).isSome)=false→((kidT s n 13).any (wMat w)=true→(waitVv (0,0,true,0)=waitVv (waitR s n w).1∧Seen tsP (waitR s n w).2 13 (some ⟨1,encT 1 s⟩::(List.range 13).map fun n=>some ⟨1,rowA (setsL encP s) n⟩)))∧((kidT s n 13).any (wMat w)=false→(waitVv (0,0,false,6)=waitVv (waitR s n w).1∧Seen tsP (waitR s n w).2 13 (some ⟨1,encT 1 s⟩::(List.range 13).map fun n=>some ⟨1,rowA (setsL encP s) n⟩)))):=fun hr=>by
    unfold waitR
    rw [if_pos hl,if_neg hr]
    cases hf:(kidT s n 13).find? (wHit s w) with
    | some c=>exact ⟨fun _=>⟨rfl,seen_free⟩,fun h=>by cases h⟩
    | none=>
     refine ⟨(fun h=>by cases h),fun _=>⟨fun ha=>?_,fun ha=>?_⟩⟩
     ·dsimp only;rw [if_pos ha];exact ⟨rfl,seen_same⟩
     ·dsimp only;rw [if_neg (by rw [ha];simp)];exact ⟨rfl,seen_same⟩
   have bad:(w≠-1∧(w<1∨12<w))→(waitVv (0,0,false,2)=waitVv (waitR s n w).1∧Seen tsP (waitR s n w).2 13 (some ⟨1,encT 1 s⟩::(List.range 13).map fun n=>some ⟨1,rowA (setsL encP s) n⟩)):=fun hr=>by
    unfold waitR
    rw [if_pos hl,if_pos hr];exact ⟨rfl,seen_same⟩
   refine ⟨fun h1=>?_,fun h1=>⟨fun h2=>?_,fun h2=>⟨fun h3=>?_,fun h3=>?_⟩⟩⟩
   ·have h1:w=-1:=eq_of_beq h1
    exact ⟨rowsA_same _ 13,k14_ok hw,isSt_refl,(fin (by omega)).1,(fin (by omega)).2⟩
   ·have h1:¬w=-1:=fun e=>by rw [e] at h1;cases h1
    have h2:=of_decide_eq_true h2
    exact bad (by omega)
   ·have h1:¬w=-1:=fun e=>by rw [e] at h1;cases h1
    have h3:=of_decide_eq_true h3
    exact bad (by omega)
   ·have h2:=of_decide_eq_false h2
    have h3:=of_decide_eq_false h3
    exact ⟨rowsA_same _ 13,k14_ok hw,isSt_refl,(fin (by omega)).1,(fin (by omega)).2⟩
  ·unfold waitR
   rw [hl];exact ⟨rfl,seen_same⟩)
 rw [hT] at h
 exact pm_stay tsP_ok h rfl
end Go.Am
namespace Go.Am
open Go.Proofs Crc
set_option maxRecDepth 100000
theorem f_b (G:Nat→List AV) (tb sl:List AV) (n i:Int) (Q:Ex→List AV→Hp→Prop) (R:AV→Hp→Prop):vT G Q R (dloop (Dc Try.prog [36,39] [] [] 0) 300 40 14 (loopN Try.f26 0) 50 [0,1,4,5,7] [.ptr (.rw 0) (.lit 0),.int .i64 (.var 3 n),.int .i64 (.lit 0),.int .i64 (.lit 0),.int .i64 (.var 4 i)] (hp3 [some ⟨1,.var 1 tb⟩] (.var 2 sl) []))=(
  (decide ((i:Int)≤12)=true→
 isB tb (0)=true∧
 (getB tb (0)=true→
 (decide ((i:Int)≥1)=true→
 decide ((i:Int)≤12)=true∧
 decide ((0:Int)≤i)=true∧
 decide ((i:Int)<13)=true∧
 isI .i64 tb ((Int.toNat (i))*7+1)=true∧
 (((getI tb ((Int.toNat (i))*7+1):Int)==i)=true→
 Q .normal [.ptr (.rw 0) (0),.int .i64 (n),.int .i64 (0),.int .i64 (0),.int .i64 (IntKind.wrap .i64 (i+1))] ([some ⟨1,tb⟩]++rows13 sl))∧
 (((getI tb ((Int.toNat (i))*7+1):Int)==i)=false→
 Q (.exit 0) [.ptr (.rw 0) (0),.int .i64 (n),.int .i64 (0),.int .i64 (0),.int .i64 (i)] ([some ⟨1,tb⟩]++rows13 sl)))∧
 (decide ((i:Int)≥1)=false→
 Q (.exit 0) [.ptr (.rw 0) (0),.int .i64 (n),.int .i64 (0),.int .i64 (0),.int .i64 (i)] ([some ⟨1,tb⟩]++rows13 sl)))∧
 (getB tb (0)=false→
 Q (.exit 0) [.ptr (.rw 0) (0),.int .i64 (n),.int .i64 (0),.int .i64 (0),.int .i64 (i)] ([some ⟨1,tb⟩]++rows13 sl)))∧
 (decide ((i:Int)≤12)=false→
 Q (.exit 0) [.ptr (.rw 0) (0),.int .i64 (n),.int .i64 (0),.int .i64 (0),.int .i64 (i)] ([some ⟨1,tb⟩]++rows13 sl))):=by kernel_rfl
theorem f_c (G:Nat→List AV) (rl:List AV→Bool) (tb sl:List AV) (n:Int) (c:Nat) (Q:Ex→List AV→Hp→Prop) (R:AV→Hp→Prop):vT G Q R (dcall (Df Try.prog [(48,1,13)] [36,38,39,20] [(58,fChildS sideP)] [DLat 2330 (rl) 0 50 [0,1,4,5,7] (.one (.exit 0) [.ptr (.rw 0) (.lit 0),.int .i64 (.var 3 n),.int .i64 (.lit 0),.int .i64 (.lit 0),.int .i64 (.ofN (.var 6 c))] (hp3 [some ⟨1,.var 1 tb⟩] (.var 2 sl) []))] 14) 300 40 Try.f26 [.ptr (.rw 0) (.lit 0),.int .i64 (.var 3 n)] (hp3 [some ⟨1,.var 1 tb⟩] (.var 2 sl) []) 16)=(
  isB tb (0)=true∧
 (getB tb (0)=true→
 isB tb (0)=true∧
 getB tb (0)=true∧
 (decide ((n:Int)≥1)=true→
 (decide ((n:Int)≤12)=true→
 decide ((0:Int)≤n)=true∧
 decide ((n:Int)<13)=true∧
 isI .i64 tb ((Int.toNat (n))*7+1)=true∧
 (((getI tb ((Int.toNat (n))*7+1):Int)==n)=true→
 decide ((0:Int)≤n)=true∧
 decide ((n:Int)<13)=true∧
 isB tb ((Int.toNat (n))*7+5)=true∧
 (getB tb ((Int.toNat (n))*7+5)=true→
 R (.tup [.int .i64 (0),.int .i64 (6)]) ([some ⟨1,tb⟩]++rows13 sl))∧
 (getB tb ((Int.toNat (n))*7+5)=false→
 (rl) [.agg ([.ptr (.rw 0) (0),.int .i64 (n),.int .i64 (0),.int .i64 (0),.int .i64 (1)]:List AV),.agg ((tp3 [.tup [.int .i64 (1),.agg tb]] sl []):List AV)]=true∧
 (decide ((((c:Nat):Int):Int)>12)=true→
 R (.tup [.int .i64 (0),.int .i64 (5)]) ([some ⟨1,tb⟩]++rows13 sl))∧
 (decide ((((c:Nat):Int):Int)>12)=false→
 decide ((0:Int)≤n)=true∧
 decide ((n:Int)<13)=true∧
 leB ((Int.toNat (n))*7+8) (List.length tb)=true∧
 cellsB (subL tb ((Int.toNat (n))*7+1) (7))=true∧
 Nat.beq (List.length (subL tb ((Int.toNat (n))*7+1) (7))) (7)=true∧
 isI .i64 (subL tb ((Int.toNat (n))*7+1) (7)) (2)=true∧
 isI .i64 (subL tb ((Int.toNat (n))*7+1) (7)) (3)=true∧
 (isNilA (subL tb ((Int.toNat (n))*7+1) (7)) (6)=true→
 False)∧
 (isNilA (subL tb ((Int.toNat (n))*7+1) (7)) (6)=false→
 isPA 1 13 (subL tb ((Int.toNat (n))*7+1) (7)) (6)=true∧
 Nat.beq (foA (subL tb ((Int.toNat (n))*7+1) (7)) (6)) (0)=true∧
 leB (fkA 1 (subL tb ((Int.toNat (n))*7+1) (7)) (6)+1) (13)=true∧
 rowsA sl (rp 13 sl)=true∧
 leB (fkA 1 (subL tb ((Int.toNat (n))*7+1) (7)) (6)+1) (List.length sl)=true∧
 okU [.agg (rowA sl (fkA 1 (subL tb ((Int.toNat (n))*7+1) (7)) (6)))]=true∧
 decide ((0:Int)≤((c:Nat):Int))=true∧
 decide ((((c:Nat):Int):Int)<13)=true∧
 leB ((c)*7+8) (List.length tb)=true∧
 R (.tup [.int .i64 (((c:Nat):Int)),.int .i64 (0)]) ([some ⟨1,(setPart tb ((c)*7+1) (.agg ([.int .i64 (((c:Nat):Int)),.int .i64 (n),.int .i64 (getI (subL tb ((Int.toNat (n))*7+1) (7)) (2)),.int .i64 (getI (subL tb ((Int.toNat (n))*7+1) (7)) (3)),.bool (false),.int .i64 (0),.ptr (.rw 15) (0)]:List AV)))⟩]++(rows13 sl++[some ⟨1,(subL tb ((Int.toNat (n))*7+1) (7))⟩,some ⟨1,(childU [.agg (rowA sl (fkA 1 (subL tb ((Int.toNat (n))*7+1) (7)) (6)))])⟩]))))))∧
 (((getI tb ((Int.toNat (n))*7+1):Int)==n)=false→
 R (.tup [.int .i64 (0),.int .i64 (6)]) ([some ⟨1,tb⟩]++rows13 sl)))∧
 (decide ((n:Int)≤12)=false→
 R (.tup [.int .i64 (0),.int .i64 (6)]) ([some ⟨1,tb⟩]++rows13 sl)))∧
 (decide ((n:Int)≥1)=false→
 R (.tup [.int .i64 (0),.int .i64 (6)]) ([some ⟨1,tb⟩]++rows13 sl)))∧
 (getB tb (0)=false→
 R (.tup [.int .i64 (0),.int .i64 (1)]) ([some ⟨1,tb⟩]++rows13 sl))):=by kernel_rfl
def lowF (s:Ptb):Nat:=(((List.range 12).find? fun (j:Nat)=>!isP s ((j:Int)+1)).getD 12)+1
theorem f_loop (G:Nat→List AV) (B:Nat) {s:Ptb} (n:Int):AWp (⟨Try.prog,G,B⟩:Ctx) 14 (.loop (loopN Try.f26 0)) (fl 50 [0,1,4,5,7] [.ptr (.rw 0) 0,.int .i64 n,.int .i64 0,.int .i64 0,.int .i64 1]) (vHp G (hp3 [some ⟨1,.var 1 (encT 1 s)⟩] (.var 2 (setsL encP s)) [])) (lv 50 [0,1,4,5,7] (LOut.post G 14 (.one (.exit 0) [.ptr (.rw 0) (.lit 0),.int .i64 (.var 3 n),.int .i64 (.lit 0),.int .i64 (.lit 0),.int .i64 (.ofN (.var 6 (lowF s)))] (hp3 [some ⟨1,.var 1 (encT 1 s)⟩] (.var 2 (setsL encP s)) [])))):=by
 refine scanP (fun i=>∀ j,j<i→isP s ((j:Int)+1)=true) 12 (fun i=>[.ptr (.rw 0) 0,.int .i64 n,.int .i64 0,.int .i64 0,.int .i64 ((i:Int)+1)]) (fun _=>vHp G (hp3 [some ⟨1,.var 1 (encT 1 s)⟩] (.var 2 (setsL encP s)) [])) (fun j h=>by omega) fun i hi hP=>?_
 refine dloop_ok (C:=(⟨Try.prog,G,B⟩:Ctx)) (K:=Dc Try.prog [36,39] [] [] 0) (dgood (mix G B) (by kernel_rfl) .nil .nil) (fuel:=300) (n0:=40) (m:=14) (c:=loopN Try.f26 0)
  (vs:=[.ptr (.rw 0) (.lit 0),.int .i64 (.var 3 n),.int .i64 (.lit 0),.int .i64 (.lit 0),.int .i64 (.var 4 ((i:Int)+1))]) (H:=(hp3 [some ⟨1,.var 1 (encT 1 s)⟩] (.var 2 (setsL encP s)) [])) (Nat.le_of_ble_eq_true rfl) ?_
 rw [f_b]
 have out:lowF s=i+1→LOut.post G 14 (.one (.exit 0) [.ptr (.rw 0) (.lit 0),.int .i64 (.var 3 n),.int .i64 (.lit 0),.int .i64 (.lit 0),.int .i64 (.ofN (.var 6 (lowF s)))] (hp3 [some ⟨1,.var 1 (encT 1 s)⟩] (.var 2 (setsL encP s)) [])) (.exit 0) [.ptr (.rw 0) 0,.int .i64 n,.int .i64 0,.int .i64 0,.int .i64 ((i:Int)+1)] (vHp G (hp3 [some ⟨1,.var 1 (encT 1 s)⟩] (.var 2 (setsL encP s)) [])):=fun e=>by
  refine ⟨rfl,.inl ⟨?_,rfl⟩⟩
  rw [e]
  simp [wk,vVs,vV,vR,vN,vI]
 have low:i<12→isP s ((i:Int)+1)=false→lowF s=i+1:=fun h12 h0=>by
  unfold lowF
  have:=find_at (l:=List.range 12) (p:=fun (j:Nat)=>!isP s ((j:Int)+1)) (i:=i) (by simpa using h12) (by simp [h0]) (fun j hj hji=>by
   simp only [List.getElem_range]
   rw [hP j hji];rfl)
  rw [this]
  simp
 refine ⟨fun h=>⟨rfl,fun _=>⟨fun h1=>?_,fun h1=>absurd (of_decide_eq_false h1) (by omega)⟩,fun h0=>by cases h0⟩,fun h=>out ?_⟩
 ·have h12:i<12:=by have:=of_decide_eq_true h;omega
  have t:=T_num (b:=1) (s:=s) (n:=i+1) (by omega)
  rw [show Int.toNat ((i:Int)+1)=i+1 by omega]
  refine ⟨h,decide_eq_true (by omega),decide_eq_true (by omega),t.1,fun h2=>⟨h12,fun j hj=>?_,.inl ⟨?_,rfl⟩⟩,fun h2=>out (low h12 ?_)⟩
  ·by_cases e:j=i
   ·subst e
    rw [t.2] at h2
    exact isP_iff.2 ⟨by omega,by omega,by rw [show Int.toNat ((j:Int)+1)=j+1 by omega];exact eq_of_beq h2⟩
   ·exact hP j (by omega)
  ·rw [i64_in (by omega)];rfl
  ·rw [t.2] at h2
   cases e:isP s ((i:Int)+1) with
   | false=>rfl
   | true=>
    have:=(isP_iff.1 e).2.2
    rw [show Int.toNat ((i:Int)+1)=i+1 by omega] at this
    rw [this,beq_self_eq_true] at h2;cases h2
 ·have he:i=12:=by have:=of_decide_eq_false h;omega
  subst he
  unfold lowF
  rw [find_none fun j hj=>by
   simp only [List.length_range] at hj
   simp only [List.getElem_range]
   rw [hP j hj];rfl]
  rfl
def childOf (p:Sg):Sg:=setW p 0#32
def forkP (s:Ptb) (n:Int) (c:Nat):Pc:=⟨(c:Int),n,(s.at_ n.toNat).grp,(s.at_ n.toNat).usr,false,0⟩
def forkX (s:Ptb) (n:Int) (c:Nat):Ptb:=⟨fun j=>if j=c then forkP s n c else s.at_ j,fun j=>if j=c then some (childOf (sgD s n.toNat)) else s.sg j⟩
def forkR (s:Ptb) (n:Int):(Int×Int)×Ptb:=
 if live s n=true then
  if 12<lowF s then ((0,5),s) else (((lowF s:Int),0),forkX s n (lowF s))
 else ((0,6),s)
theorem lowF_spec {s:Ptb} (hw:Wf s):lowF s≤13∧(lowF s≤12→lowF s≠1∧1≤lowF s∧isP s (lowF s:Int)=false):=by
 unfold lowF
 cases h:(List.range 12).find? fun (j:Nat)=>!isP s ((j:Int)+1) with
 | none=>exact ⟨Nat.le_refl _,fun h=>absurd h (by simp)⟩
 | some j=>
  have h1:=List.mem_range.1 (List.mem_of_find?_eq_some h)
  have h2:=List.find?_some h
  simp only [Bool.not_eq_true'] at h2
  simp only [Option.getD_some]
  refine ⟨by omega,fun _=>⟨fun e=>?_,by omega,by rw [show ((j+1:Nat):Int)=(j:Int)+1 by omega];exact h2⟩⟩
  have:j=0:=by omega
  subst this
  have:isP s 1=true:=isP_iff.2 ⟨by omega,by omega,hw.one.1⟩
  rw [show (((0:Nat):Int)+1)=1 from rfl] at h2
  rw [this] at h2;cases h2
theorem Wf.forkX {s:Ptb} (h:Wf s) {n:Int} (hl:live s n=true) {c:Nat} (h1:c≠1) (h2:1≤c) (h3:c≤12):Wf (forkX s n c):=by
 have hl':=live_iff.1 hl
 refine ⟨fun j hj=>?_,fun j=>?_,?_⟩
 ·obtain ⟨b1,b2⟩:=h.z j hj
  show (if j=c then forkP s n c else s.at_ j)=zc∧(if j=c then some (childOf (sgD s n.toNat)) else s.sg j)=none
  rw [if_neg (by omega),if_neg (by omega)];exact ⟨b1,b2⟩
 ·show ((if j=c then forkP s n c else s.at_ j)=zc∧(if j=c then some (childOf (sgD s n.toNat)) else s.sg j)=none)∨((if j=c then forkP s n c else s.at_ j).num=(j:Int)∧1≤j∧j≤12∧(if j=c then some (childOf (sgD s n.toNat)) else s.sg j).isSome=true∧1≤(if j=c then forkP s n c else s.at_ j).grp∧(if j=c then forkP s n c else s.at_ j).grp≤12)
  by_cases e:j=c
  ·subst e
   rw [if_pos rfl,if_pos rfl]
   exact .inr ⟨rfl,h2,h3,rfl,h.grp (by omega)⟩
  ·rw [if_neg e,if_neg e];exact h.p j
 ·show (if 1=c then forkP s n c else s.at_ 1).num=1∧(if 1=c then forkP s n c else s.at_ 1).par=0
  rw [if_neg (fun e=>h1 e.symm)];exact h.one
theorem Wf.forkR {s:Ptb} (h:Wf s) (n:Int):Wf (forkR s n).2:=by
 unfold Go.Am.forkR
 split
 ·rename_i hl
  split
  ·exact h
  ·obtain ⟨_,a2⟩:=lowF_spec h
   obtain ⟨b1,b2,_⟩:=a2 (by omega)
   exact h.forkX hl b1 b2 (by omega)
 ·exact h
end Go.Am
namespace Go.Am
open Go.Proofs Crc
set_option maxRecDepth 100000
theorem dgF (G:Nat→List AV) (B:Nat) {s:Ptb} (n:Int):DGood (⟨Try.prog,G,B⟩:Ctx) (Df Try.prog [(48,1,13)] [36,38,39,20] [(58,fChildS sideP)] [DLat 0x91A (isSt [.ptr (.rw 0) 0,.int .i64 n,.int .i64 0,.int .i64 0,.int .i64 1] (vHp G (hp3 [some ⟨1,.var 1 (encT 1 s)⟩] (.var 2 (setsL encP s)) []))) 0 50 [0,1,4,5,7] (.one (.exit 0) [.ptr (.rw 0) (.lit 0),.int .i64 (.var 3 n),.int .i64 (.lit 0),.int .i64 (.lit 0),.int .i64 (.ofN (.var 6 (lowF s)))] (hp3 [some ⟨1,.var 1 (encT 1 s)⟩] (.var 2 (setsL encP s)) []))] 14) (loopsOf (bodyOf Try.f26)):=
 dgoodf (mix G B) (by kernel_rfl) (.cons (fChildS_ok (sideP_ok G) (p_child G B)) .nil) (.cast (.cons (i:=0) (by kernel_rfl) rfl (DLat_okC rfl (f_loop G B n)) .nil) (by kernel_rfl))
theorem seen_lay {s:Ptb} {c q:Nat} {x:Pc} {p:Sg} {s':Ptb} {E:Hp} (hq:14≤q) (hc:c<13) (h1:∀ j,s'.at_ j=if j=c then x else s.at_ j) (h2:∀ j,s'.sg j=if j=c then some p else s.sg j) (hE:E[q - 14]?=some (some ⟨1,encP p⟩)) :
  SeenQ tsP s' c q (some ⟨1,setPart (encT 1 s) (c*7+1) (.agg (rowT x (.ptr (.rw q) 0)))⟩::((List.range 13).map (fun n=>some ⟨1,rowA (setsL encP s) n⟩)++E)):=by
 refine ⟨by simp,?_,fun n hn=>?_⟩
 ·rw [List.getElem?_cons_zero,encT_V,V_row hc]
  congr 3
  show encV _ _=encV _ _
  unfold encV
  congr 1
  refine tabL_congr fun a j _ _=>?_
  show fcell (if a=c then x else s.at_ a) (if a=c then .ptr (.rw q) 0 else ptrO 1 a (s.sg a)) j=fcell (s'.at_ a) (match s'.sg a with | none=>.nilp | some _=>.ptr (.rw (if a=c then q else 1+a)) 0) j
  rw [h1 a,h2 a]
  by_cases e:a=c
  ·simp only [if_pos e]
  ·simp only [if_neg e]
   cases s.sg a<;>rfl
 ·by_cases e:n=c
  ·rw [if_pos e]
   refine ⟨encP p,?_,fun p' hp'=>?_⟩
   ·rw [show q=(q - 1)+1 by omega,List.getElem?_cons_succ,List.getElem?_append_right (by simp;omega),List.length_map,List.length_range,show q - 1 - 13=q - 14 by omega]
    exact hE
   ·rw [h2 n,if_pos e] at hp'
    simp only [Option.some.injEq] at hp'
    rw [hp'];rfl
  ·rw [if_neg e]
   refine ⟨rowA (setsL encP s) n,?_,fun p' hp'=>?_⟩
   ·rw [Nat.add_comm 1 n,List.getElem?_cons_succ,List.getElem?_append_left (by simpa using hn),List.getElem?_map,List.getElem?_range hn];rfl
   ·rw [h2 n,if_neg e] at hp'
    rw [rowA_sets hn,hp'];rfl
theorem row_facts {s:Ptb} {n:Nat} {p:Sg} (hn:n<13) (hp:s.sg n=some p):isNilA (rowT (s.at_ n) (ptrO 1 n (s.sg n))) 6=false∧isPA 1 13 (rowT (s.at_ n) (ptrO 1 n (s.sg n))) 6=true∧fkA 1 (rowT (s.at_ n) (ptrO 1 n (s.sg n))) 6=n∧foA (rowT (s.at_ n) (ptrO 1 n (s.sg n))) 6=0:=by
 have h:(rowT (s.at_ n) (ptrO 1 n (s.sg n)))[6]?=some (ptrO 1 n (s.sg n)):=rfl
 have e:=ptr_fam hn h (by rw [hp];rfl)
 exact ⟨by rw [ptr_nil h,hp];rfl,e.1,e.2.1,e.2.2⟩
def pairV (r:Int×Int):AV:=.tup [.int .i64 r.1,.int .i64 r.2]
theorem p_fork (G:Nat→List AV) (B:Nat) {s:Ptb} (hw:Wf s) (n:Int):ACalls (⟨Try.prog,G,B⟩:Ctx) 26 [.ptr (.rw 0) 0,.int .i64 n] (can tsP s) fun v H'=>v=pairV (forkR s n).1∧H'=mov tsP (forkR s n).2:=by
 have h:=dcall_ok (C:=(⟨Try.prog,G,B⟩:Ctx)) (K:=Df Try.prog [(48,1,13)] [36,38,39,20] [(58,fChildS sideP)] [DLat 0x91A (isSt [.ptr (.rw 0) 0,.int .i64 n,.int .i64 0,.int .i64 0,.int .i64 1] (vHp G (hp3 [some ⟨1,.var 1 (encT 1 s)⟩] (.var 2 (setsL encP s)) []))) 0 50 [0,1,4,5,7] (.one (.exit 0) [.ptr (.rw 0) (.lit 0),.int .i64 (.var 3 n),.int .i64 (.lit 0),.int .i64 (.lit 0),.int .i64 (.ofN (.var 6 (lowF s)))] (hp3 [some ⟨1,.var 1 (encT 1 s)⟩] (.var 2 (setsL encP s)) []))] 14) (fuel:=300) (n0:=40) (f:=26) (fn:=Try.f26) (args:=[.ptr (.rw 0) (.lit 0),.int .i64 (.var 3 n)]) (H:=(hp3 [some ⟨1,.var 1 (encT 1 s)⟩] (.var 2 (setsL encP s)) [])) (keep:=16)
  (R:=fun v H=>v=pairV (forkR s n).1∧(Seen tsP (forkR s n).2 13 H∨∃ c,SeenQ tsP (forkR s n).2 c 15 H∧15<H.length)) (dgF G B n) (by kernel_rfl) (by kernel_rfl) (by kernel_rfl) (by
  have:=f_c G (isSt [.ptr (.rw 0) 0,.int .i64 n,.int .i64 0,.int .i64 0,.int .i64 1] (vHp G (hp3 [some ⟨1,.var 1 (encT 1 s)⟩] (.var 2 (setsL encP s)) []))) (encT 1 s) (setsL encP s) n (lowF s) (fun _ _ _=>False) (fun v H=>v=pairV (forkR s n).1∧(Seen tsP (forkR s n).2 13 H∨∃ c,SeenQ tsP (forkR s n).2 c 15 H∧15<H.length))
  refine Eq.mpr this ?_
  refine ⟨rfl,fun _=>⟨rfl,rfl,live_tree 1 (fun hl=>⟨isSt_refl,fun h1=>?_,fun h1=>?_⟩) fun hl=>?_⟩,fun h=>by cases h⟩
  ·have h1:=of_decide_eq_true h1
   unfold forkR
   rw [if_pos hl,if_pos (by omega)];exact ⟨rfl,.inl seen_same⟩
  ·have h1:=of_decide_eq_false h1
   have h:=live_iff.1 hl
   have hi:isP s n=true:=isP_iff.2 ⟨h.1,h.2.1,h.2.2.1⟩
   obtain ⟨p,hp⟩:=hw.live_sg hi
   obtain ⟨_,a2⟩:=lowF_spec hw
   obtain ⟨b1,b2,_⟩:=a2 (by omega)
   have er:=T_row (b:=1) (s:=s) (n:=n.toNat) (by omega)
   rw [er]
   obtain ⟨e1,e2,e3,e4⟩:=row_facts (n:=n.toNat) (by omega) hp
   have e5:rowA (setsL encP s) n.toNat=encP p:=by rw [rowA_sets (by omega),hp];rfl
   have ed:sgD s n.toNat=p:=by unfold sgD;rw [hp];rfl
   unfold rowT at e1 e2 e3 e4
   rw [e3,e4,e5,childU_enc]
   refine ⟨decide_eq_true (by omega),decide_eq_true (by omega),leB_iff.2 (by rw [encT_len];omega),?_,rfl,rfl,rfl,(fun h=>by rw [e1] at h;cases h),fun _=>⟨e2,rfl,leB_iff.2 (by omega),rowsA_same _ 13,leB_iff.2 (by rw [setsL_len];omega),okU_enc p,decide_eq_true (by omega),decide_eq_true (by omega),leB_iff.2 (by rw [encT_len];omega),?_⟩⟩
   ·cases s.sg n.toNat<;>rfl
   ·unfold forkR
    rw [if_pos hl,if_neg (by omega)]
    refine ⟨rfl,.inr ⟨(lowF s),?_,by simp [rows13]⟩⟩
    exact seen_lay (s:=s) (c:=(lowF s)) (q:=15) (x:=forkP s n (lowF s)) (p:=childOf p) (s':=forkX s n (lowF s)) (E:=[some ⟨1,_⟩,some ⟨1,encP (childOf p)⟩]) (by omega) (by omega) (fun j=>rfl) (fun j=>by show (if j=(lowF s) then some (childOf (sgD s n.toNat)) else s.sg j)=_;rw [ed]) rfl
  ·unfold forkR
   rw [hl];exact ⟨rfl,.inl seen_same⟩)
 rw [hT] at h
 exact pm_move tsP_ok (q:=15) (by omega) h rfl
end Go.Am
