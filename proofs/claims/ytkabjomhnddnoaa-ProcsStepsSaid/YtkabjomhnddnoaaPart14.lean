/-
  Processes: the program's Wait. Processes: the program's Wait: the call.
-/
import Derived.Test.YtkabjomhnddnoaaPart13
namespace Go.Am
open Go.Proofs Crc
set_option maxRecDepth 100000
theorem w_b (G:Nat→List AV) (tb sl ks:List AV) (w:Int) (c i:Nat) (wb:Bool) (Q:Ex→List AV→Hp→Prop) (R:AV→Hp→Prop):vT G Q R (J6 (Dc Try.prog [] [] [] 0) 300 40 14 (loopN Try.f13 0) 67 [0,2,6,7,8,9,32,33,34] [.ptr (.rw 0) (.lit 0),.int .i64 (.var 4 w),.int .i64 (.lit 0),.int .i64 (.lit 0),.bool (.var 7 wb),.int .i64 (.lit 0),.slice true (.rw 14) (.lit 0) (.var 6 c),.int .i64 (.ofN (.var 6 c)),.int .i64 (.ofN (.var 8 i))] (hp3 [some ⟨1,.var 1 tb⟩] (.var 2 sl) [some ⟨1,.var 22 ks⟩]))=(
  (decide ((((i:Nat):Int):Int)<((c:Nat):Int))=true→decide ((0:Int)≤((i:Nat):Int))=true∧decide ((((i:Nat):Int):Int)<((c:Nat):Int))=true∧isI .i64 ks (i)=true∧(((w:Int)==(-1))=true→decide ((0:Int)≤A0 ks (i))=true∧decide ((A0 ks (i):Int)<13)=true∧leB ((Int.toNat (A0 ks (i)))*7+8) (List.length tb)=true∧cellsB (subL tb ((Int.toNat (A0 ks (i)))*7+1) (7))=true∧Nat.beq (List.length (subL tb ((Int.toNat (A0 ks (i)))*7+1) (7))) (7)=true∧isB (subL tb ((Int.toNat (A0 ks (i)))*7+1) (7)) (4)=true∧(A5 (subL tb ((Int.toNat (A0 ks (i)))*7+1) (7)) (4)=true→decide ((0:Int)≤A0 ks (i))=true∧decide ((A0 ks (i):Int)<13)=true∧leB ((Int.toNat (A0 ks (i)))*7+8) (List.length tb)=true∧isI .i64 (subL tb ((Int.toNat (A0 ks (i)))*7+1) (7)) (5)=true∧Q .ret [.ptr (.rw 0) (0),.int .i64 (w),.int .i64 (A0 ks (i)),.int .i64 (A0 (subL tb ((Int.toNat (A0 ks (i)))*7+1) (7)) (5)),.bool (false),.int .i64 (0),.slice true (.rw 14) (0) (c),.int .i64 (((c:Nat):Int)),.int .i64 (((i:Nat):Int))] ([some ⟨1,(setPart tb ((Int.toNat (A0 ks (i)))*7+1) (.agg ([.int .i64 (0),.int .i64 (0),.int .i64 (0),.int .i64 (0),.bool (false),.int .i64 (0),.nilp]:List AV)))⟩]++(A2 sl++[some ⟨1,ks⟩,some ⟨1,(subL tb ((Int.toNat (A0 ks (i)))*7+1) (7))⟩])))∧(A5 (subL tb ((Int.toNat (A0 ks (i)))*7+1) (7)) (4)=false→Q .normal [.ptr (.rw 0) (0),.int .i64 (w),.int .i64 (0),.int .i64 (0),.bool (true),.int .i64 (0),.slice true (.rw 14) (0) (c),.int .i64 (((c:Nat):Int)),.int .i64 (IntKind.wrap .i64 (((i:Nat):Int)+1))] ([some ⟨1,tb⟩]++(A2 sl++[some ⟨1,ks⟩,some ⟨1,(subL tb ((Int.toNat (A0 ks (i)))*7+1) (7))⟩]))))∧(((w:Int)==(-1))=false→(((w:Int)==A0 ks (i))=true→decide ((0:Int)≤A0 ks (i))=true∧decide ((A0 ks (i):Int)<13)=true∧leB ((Int.toNat (A0 ks (i)))*7+8) (List.length tb)=true∧
 cellsB (subL tb ((Int.toNat (A0 ks (i)))*7+1) (7))=true∧Nat.beq (List.length (subL tb ((Int.toNat (A0 ks (i)))*7+1) (7))) (7)=true∧isB (subL tb ((Int.toNat (A0 ks (i)))*7+1) (7)) (4)=true∧(A5 (subL tb ((Int.toNat (A0 ks (i)))*7+1) (7)) (4)=true→decide ((0:Int)≤A0 ks (i))=true∧decide ((A0 ks (i):Int)<13)=true∧leB ((Int.toNat (A0 ks (i)))*7+8) (List.length tb)=true∧isI .i64 (subL tb ((Int.toNat (A0 ks (i)))*7+1) (7)) (5)=true∧Q .ret [.ptr (.rw 0) (0),.int .i64 (w),.int .i64 (A0 ks (i)),.int .i64 (A0 (subL tb ((Int.toNat (A0 ks (i)))*7+1) (7)) (5)),.bool (false),.int .i64 (0),.slice true (.rw 14) (0) (c),.int .i64 (((c:Nat):Int)),.int .i64 (((i:Nat):Int))] ([some ⟨1,(setPart tb ((Int.toNat (A0 ks (i)))*7+1) (.agg ([.int .i64 (0),.int .i64 (0),.int .i64 (0),.int .i64 (0),.bool (false),.int .i64 (0),.nilp]:List AV)))⟩]++(A2 sl++[some ⟨1,ks⟩,some ⟨1,(subL tb ((Int.toNat (A0 ks (i)))*7+1) (7))⟩])))∧(A5 (subL tb ((Int.toNat (A0 ks (i)))*7+1) (7)) (4)=false→Q .normal [.ptr (.rw 0) (0),.int .i64 (w),.int .i64 (0),.int .i64 (0),.bool (true),.int .i64 (0),.slice true (.rw 14) (0) (c),.int .i64 (((c:Nat):Int)),.int .i64 (IntKind.wrap .i64 (((i:Nat):Int)+1))] ([some ⟨1,tb⟩]++(A2 sl++[some ⟨1,ks⟩,some ⟨1,(subL tb ((Int.toNat (A0 ks (i)))*7+1) (7))⟩]))))∧(((w:Int)==A0 ks (i))=false→Q .normal [.ptr (.rw 0) (0),.int .i64 (w),.int .i64 (0),.int .i64 (0),.bool (wb),.int .i64 (0),.slice true (.rw 14) (0) (c),.int .i64 (((c:Nat):Int)),.int .i64 (IntKind.wrap .i64 (((i:Nat):Int)+1))] ([some ⟨1,tb⟩]++(A2 sl++[some ⟨1,ks⟩])))))∧(decide ((((i:Nat):Int):Int)<((c:Nat):Int))=false→
 Q (.exit 0) [.ptr (.rw 0) (0),.int .i64 (w),.int .i64 (0),.int .i64 (0),.bool (wb),.int .i64 (0),.slice true (.rw 14) (0) (c),.int .i64 (((c:Nat):Int)),.int .i64 (((i:Nat):Int))] ([some ⟨1,tb⟩]++(A2 sl++[some ⟨1,ks⟩])))):=by kernel_rfl
theorem w_c (G:Nat→List AV) (k15 k14 rl:List AV→Bool) (tb sl ks tf:List AV) (n w fc fs:Int) (c:Nat) (fb wb:Bool) (Q:Ex→List AV→Hp→Prop) (R:AV→Hp→Prop):vT G Q R (D0 (Dc Try.prog [36,38,39,20] [(31,kP k15 k14)] [E5 2320 (rl) 0 67 [0,2,6,7,8,9,32,33,34] (.tst (.var 9 fb) (.one .ret [.undef,.undef,.int .i64 (.var 10 fc),.int .i64 (.var 11 fs),.bool (.lit false),.int .i64 (.lit 0),.undef,.undef,.undef] (hp3 [some ⟨1,.var 21 tf⟩] (.var 2 sl) [some ⟨1,.var 22 ks⟩])) (.one (.exit 0) [.undef,.undef,.int .i64 (.lit 0),.int .i64 (.lit 0),.bool (.var 7 wb),.int .i64 (.lit 0),.undef,.undef,.undef] (hp3 [some ⟨1,.var 1 tb⟩] (.var 2 sl) [some ⟨1,.var 22 ks⟩])))] 14) 300 40 Try.f13 [.ptr (.rw 0) (.lit 0),.int .i64 (.var 3 n),.int .i64 (.var 4 w)] (hp3 [some ⟨1,.var 1 tb⟩] (.var 2 sl) []) 14)=(
  isB tb (0)=true∧(A5 tb (0)=true→isB tb (0)=true∧A5 tb (0)=true∧(decide ((n:Int)≥1)=true→(decide ((n:Int)≤12)=true→decide ((0:Int)≤n)=true∧decide ((n:Int)<13)=true∧isI .i64 tb ((Int.toNat (n))*7+1)=true∧(((A0 tb ((Int.toNat (n))*7+1):Int)==n)=true→decide ((0:Int)≤n)=true∧decide ((n:Int)<13)=true∧isB tb ((Int.toNat (n))*7+5)=true∧(A5 tb ((Int.toNat (n))*7+5)=true→R (.tup [.int .i64 (0),.int .i64 (0),.bool (false),.int .i64 (6)]) ([some ⟨1,tb⟩]++A2 sl))∧(A5 tb ((Int.toNat (n))*7+5)=false→(((w:Int)==(-1))=true→rowsA sl (rp 13 sl)=true∧k14 [.agg tb,.agg sl]=true∧(rl) [.agg ([.ptr (.rw 0) (0),.int .i64 (w),.int .i64 (0),.int .i64 (0),.bool (false),.int .i64 (0),.slice true (.rw 14) (0) (X6 [.agg tb,.int .i64 (n)]),.int .i64 (((X6 [.agg tb,.int .i64 (n)]:Nat):Int)),.int .i64 (0)]:List AV),.agg ((Ez [.tup [.int .i64 (1),.agg tb]] sl [.tup [.int .i64 (1),.agg (En [.agg tb,.int .i64 (n)])]]):List AV)]=true∧(fb=true→R (.tup [.int .i64 (fc),.int .i64 (fs),.bool (false),.int .i64 (0)]) ([some ⟨1,tf⟩]++A2 sl))∧(fb=false→(wb=true→R (.tup [.int .i64 (0),.int .i64 (0),.bool (true),.int .i64 (0)]) ([some ⟨1,tb⟩]++A2 sl))∧(wb=false→R (.tup [.int .i64 (0),.int .i64 (0),.bool (false),.int .i64 (6)]) ([some ⟨1,tb⟩]++A2 sl))))∧(((w:Int)==(-1))=false→(decide ((w:Int)<1)=true→R (.tup [.int .i64 (0),.int .i64 (0),.bool (false),.int .i64 (2)]) ([some ⟨1,tb⟩]++A2 sl))∧(decide ((w:Int)<1)=false→(decide ((w:Int)>12)=true→R (.tup [.int .i64 (0),.int .i64 (0),.bool (false),.int .i64 (2)]) ([some ⟨1,tb⟩]++A2 sl))∧(decide ((w:Int)>12)=false→rowsA sl (rp 13 sl)=true∧k14 [.agg tb,.agg sl]=true∧
 (rl) [.agg ([.ptr (.rw 0) (0),.int .i64 (w),.int .i64 (0),.int .i64 (0),.bool (false),.int .i64 (0),.slice true (.rw 14) (0) (X6 [.agg tb,.int .i64 (n)]),.int .i64 (((X6 [.agg tb,.int .i64 (n)]:Nat):Int)),.int .i64 (0)]:List AV),.agg ((Ez [.tup [.int .i64 (1),.agg tb]] sl [.tup [.int .i64 (1),.agg (En [.agg tb,.int .i64 (n)])]]):List AV)]=true∧(fb=true→R (.tup [.int .i64 (fc),.int .i64 (fs),.bool (false),.int .i64 (0)]) ([some ⟨1,tf⟩]++A2 sl))∧(fb=false→(wb=true→R (.tup [.int .i64 (0),.int .i64 (0),.bool (true),.int .i64 (0)]) ([some ⟨1,tb⟩]++A2 sl))∧(wb=false→R (.tup [.int .i64 (0),.int .i64 (0),.bool (false),.int .i64 (6)]) ([some ⟨1,tb⟩]++A2 sl))))))))∧(((A0 tb ((Int.toNat (n))*7+1):Int)==n)=false→R (.tup [.int .i64 (0),.int .i64 (0),.bool (false),.int .i64 (6)]) ([some ⟨1,tb⟩]++A2 sl)))∧(decide ((n:Int)≤12)=false→R (.tup [.int .i64 (0),.int .i64 (0),.bool (false),.int .i64 (6)]) ([some ⟨1,tb⟩]++A2 sl)))∧(decide ((n:Int)≥1)=false→R (.tup [.int .i64 (0),.int .i64 (0),.bool (false),.int .i64 (6)]) ([some ⟨1,tb⟩]++A2 sl)))∧(A5 tb (0)=false→R (.tup [.int .i64 (0),.int .i64 (0),.bool (false),.int .i64 (1)]) ([some ⟨1,tb⟩]++A2 sl))):=by kernel_rfl
theorem hL (G:Nat→List AV) (s:Ptb) (n:Int):vHp G (hp3 [some ⟨1,.var 1 (encT 1 s)⟩] (.var 2 (setsL encP s)) [some ⟨1,.var 22 (nl (kidT s n 13))⟩])=B0 tsP s++[some ⟨1,nl (kidT s n 13)⟩]:=by
 rw [←V3 (t:=tsP) (s:=s)];rfl
theorem Ra {l:List Nat} {p:Nat→Bool} (h:∀ j,(hj:j<l.length)→p l[j]=false):l.find? p=none:=by
 rw [List.find?_eq_none];intro x hx;obtain ⟨j,hj,rfl⟩:=List.getElem_of_mem hx;rw [h j hj];simp
theorem Zf {l:List Nat} {p:Nat→Bool} {i:Nat} (hi:i<l.length) (hp:p l[i]=true) (h:∀ j,(hj:j<l.length)→j<i→p l[j]=false):l.find? p=some l[i]:=by
 rw [List.find?_eq_some_iff_getElem];exact ⟨hp,i,hi,rfl,fun j hj=>by rw [h j (by omega) hj];rfl⟩
theorem Pa {l:List Nat} {p:Nat→Bool} {i:Nat} (hi:i<l.length):(l.take (i+1)).any p=((l.take i).any p||p l[i]):=by
 rw [List.take_add_one,List.getElem?_eq_getElem hi];simp only [Option.toList,List.any_append,List.any_cons,List.any_nil,Bool.or_false]
theorem vG (G:Nat→List AV) (B:Nat) {s:Ptb} (hw:Wf s) (n w:Int):AWp (⟨Try.prog,G,B⟩:A3) 14 (.loop (loopN Try.f13 0)) (fl 67 [0,2,6,7,8,9,32,33,34] [.ptr (.rw 0) 0,.int .i64 w,.int .i64 0,.int .i64 0,.bool false,.int .i64 0,.slice true (.rw 14) 0 (kidT s n 13).length,.int .i64 ((kidT s n 13).length:Int),.int .i64 0]) (vHp G (hp3 [some ⟨1,.var 1 (encT 1 s)⟩] (.var 2 (setsL encP s)) [some ⟨1,.var 22 (nl (kidT s n 13))⟩])) (lv 67 [0,2,6,7,8,9,32,33,34] (LOut.post G 14 (.tst (.var 9 (((kidT s n 13).find? (E4 s w)).isSome)) (.one .ret [.undef,.undef,.int .i64 (.var 10 ((((kidT s n 13).find? (E4 s w)).getD 0):Int)),.int .i64 (.var 11 (s.at_ (((kidT s n 13).find? (E4 s w)).getD 0)).st),.bool (.lit false),.int .i64 (.lit 0),.undef,.undef,.undef] (hp3 [some ⟨1,.var 21 (encT 1 (J2 s (((kidT s n 13).find? (E4 s w)).getD 0)))⟩] (.var 2 (setsL encP s)) [some ⟨1,.var 22 (nl (kidT s n 13))⟩])) (.one (.exit 0) [.undef,.undef,.int .i64 (.lit 0),.int .i64 (.lit 0),.bool (.var 7 ((kidT s n 13).any (L0 w))),.int .i64 (.lit 0),.undef,.undef,.undef] (hp3 [some ⟨1,.var 1 (encT 1 s)⟩] (.var 2 (setsL encP s)) [some ⟨1,.var 22 (nl (kidT s n 13))⟩]))))):=by
 refine Yi (fun i=>∀ j,(hj:j<(kidT s n 13).length)→j<i→E4 s w (kidT s n 13)[j]=false) (kidT s n 13).length (fun i=>[.ptr (.rw 0) 0,.int .i64 w,.int .i64 0,.int .i64 0,.bool (((kidT s n 13).take i).any (L0 w)),.int .i64 0,.slice true (.rw 14) 0 (kidT s n 13).length,.int .i64 ((kidT s n 13).length:Int),.int .i64 (i:Int)]) (fun _=>vHp G (hp3 [some ⟨1,.var 1 (encT 1 s)⟩] (.var 2 (setsL encP s)) [some ⟨1,.var 22 (nl (kidT s n 13))⟩])) (fun j hj h=>by omega) fun i hi hP=>?_
 refine E2 (C:=(⟨Try.prog,G,B⟩:A3)) (K:=Dc Try.prog [] [] [] 0) (dgood (mix G B) (by kernel_rfl) .nil .nil) (fuel:=300) (n0:=40) (m:=14) (c:=loopN Try.f13 0)
  (vs:=[.ptr (.rw 0) (.lit 0),.int .i64 (.var 4 w),.int .i64 (.lit 0),.int .i64 (.lit 0),.bool (.var 7 (((kidT s n 13).take i).any (L0 w))),.int .i64 (.lit 0),.slice true (.rw 14) (.lit 0) (.var 6 (kidT s n 13).length),.int .i64 (.ofN (.var 6 (kidT s n 13).length)),.int .i64 (.ofN (.var 8 i))]) (H:=(hp3 [some ⟨1,.var 1 (encT 1 s)⟩] (.var 2 (setsL encP s)) [some ⟨1,.var 22 (nl (kidT s n 13))⟩])) (Nat.le_of_ble_eq_true rfl) ?_
 rw [w_b];have hle:=Fu s n 13;refine ⟨fun h=>?_,fun h=>?_⟩
 ·have hlt:i<(kidT s n 13).length:=by have:=of_decide_eq_true h;omega
  obtain ⟨k1,k2⟩:=Yt (l:=(kidT s n 13)) hlt;obtain ⟨c1,c2,c3,c4⟩:=Kx (List.getElem_mem hlt);have enC:=lA (b:=1) (s:=s) c1;have ew:∀ x:Int,IntKind.wrap .i64 ((i:Int)+1)=((i+1:Nat):Int):=fun _=>by rw [D9 (by omega)];rfl
  have hb20:∀ (E:Hp) (vs:List AV),vs=(fun i:Nat=>([.ptr (.rw 0) 0,.int .i64 w,.int .i64 0,.int .i64 0,.bool (((kidT s n 13).take i).any (L0 w)),.int .i64 0,.slice true (.rw 14) 0 (kidT s n 13).length,.int .i64 ((kidT s n 13).length:Int),.int .i64 (i:Int)]:List AV)) (i+1)→C8 14 ((fun i:Nat=>([.ptr (.rw 0) 0,.int .i64 w,.int .i64 0,.int .i64 0,.bool (((kidT s n 13).take i).any (L0 w)),.int .i64 0,.slice true (.rw 14) 0 (kidT s n 13).length,.int .i64 ((kidT s n 13).length:Int),.int .i64 (i:Int)]:List AV)) (i+1)) (vHp G (hp3 [some ⟨1,.var 1 (encT 1 s)⟩] (.var 2 (setsL encP s)) [some ⟨1,.var 22 (nl (kidT s n 13))⟩])) vs (vHp G (hp3 [some ⟨1,.var 1 (encT 1 s)⟩] (.var 2 (setsL encP s)) [some ⟨1,.var 22 (nl (kidT s n 13))⟩])++E):=fun E vs e=>by
   subst e;have hl:(vHp G (hp3 [some ⟨1,.var 1 (encT 1 s)⟩] (.var 2 (setsL encP s)) [some ⟨1,.var 22 (nl (kidT s n 13))⟩])).length=15:=by rw [C0];rfl
   refine C8.same (by rw [hl];omega) ?_ ?_
   ·rw [hl,hL];refine hpB_app (m:=15) ?_ (by simp only [D7,bm (L3 0 (kidT s n 13)),Bool.and_self]);exact can_b s (by omega)
   ·rw [hl];exact ⟨⟨rfl,rfl⟩,⟨rfl,rfl⟩,⟨rfl,rfl⟩,⟨rfl,rfl⟩,⟨rfl,rfl⟩,⟨rfl,rfl⟩,⟨rfl,rfl⟩,⟨rfl,rfl⟩,⟨rfl,rfl⟩,trivial⟩
  have found:L0 w (kidT s n 13)[i]=true→(s.at_ (kidT s n 13)[i]).en=true→(if True then LOut.post G 14 (.tst (.var 9 (((kidT s n 13).find? (E4 s w)).isSome)) (.one .ret [.undef,.undef,.int .i64 (.var 10 ((((kidT s n 13).find? (E4 s w)).getD 0):Int)),.int .i64 (.var 11 (s.at_ (((kidT s n 13).find? (E4 s w)).getD 0)).st),.bool (.lit false),.int .i64 (.lit 0),.undef,.undef,.undef] (hp3 [some ⟨1,.var 21 (encT 1 (J2 s (((kidT s n 13).find? (E4 s w)).getD 0)))⟩] (.var 2 (setsL encP s)) [some ⟨1,.var 22 (nl (kidT s n 13))⟩])) (.one (.exit 0) [.undef,.undef,.int .i64 (.lit 0),.int .i64 (.lit 0),.bool (.var 7 ((kidT s n 13).any (L0 w))),.int .i64 (.lit 0),.undef,.undef,.undef] (hp3 [some ⟨1,.var 1 (encT 1 s)⟩] (.var 2 (setsL encP s)) [some ⟨1,.var 22 (nl (kidT s n 13))⟩]))) .ret [.ptr (.rw 0) 0,.int .i64 w,.int .i64 ((kidT s n 13)[i]:Int),.int .i64 (s.at_ (kidT s n 13)[i]).st,.bool false,.int .i64 0,.slice true (.rw 14) 0 (kidT s n 13).length,.int .i64 ((kidT s n 13).length:Int),.int .i64 (i:Int)] (some ⟨1,encT 1 (J2 s (kidT s n 13)[i])⟩::((List.range 13).map (fun n=>some (⟨1,A1 (setsL encP s) n⟩:Blk))++[some ⟨1,nl (kidT s n 13)⟩,some ⟨1,P5 (s.at_ (kidT s n 13)[i]) (H5 1 (kidT s n 13)[i] (s.sg (kidT s n 13)[i]))⟩])) else True):=fun hm he=>by
   rw [if_pos trivial];have hf:(kidT s n 13).find? (E4 s w)=some (kidT s n 13)[i]:=Zf hlt (by unfold E4;rw [hm,he];rfl) hP;refine .inl ⟨by show Option.isSome _=true;rw [hf];rfl,rfl,.inr ?_⟩;have e1:(((kidT s n 13).find? (E4 s w)).getD 0)=(kidT s n 13)[i]:=by rw [hf];rfl
   have e2:vHp G (hp3 [some ⟨1,.var 21 (encT 1 (J2 s (((kidT s n 13).find? (E4 s w)).getD 0)))⟩] (.var 2 (setsL encP s)) [some ⟨1,.var 22 (nl (kidT s n 13))⟩])=some ⟨1,encT 1 (J2 s (kidT s n 13)[i])⟩::((List.range 13).map (fun n=>some (⟨1,A1 (setsL encP s) n⟩:Blk))++[some ⟨1,nl (kidT s n 13)⟩]):=by rw [e1];rfl
   rw [e2];refine C8.same (m:=14) (H:=some ⟨1,encT 1 (J2 s (kidT s n 13)[i])⟩::((List.range 13).map (fun n=>some (⟨1,A1 (setsL encP s) n⟩:Blk))++[some ⟨1,nl (kidT s n 13)⟩])) (G:=[some ⟨1,P5 (s.at_ (kidT s n 13)[i]) (H5 1 (kidT s n 13)[i] (s.sg (kidT s n 13)[i]))⟩]) (Nat.le_of_ble_eq_true rfl) ?_ ?_
   ·have hl:(some (⟨1,encT 1 (J2 s (kidT s n 13)[i])⟩:Blk)::((List.range 13).map (fun n=>some (⟨1,A1 (setsL encP s) n⟩:Blk))++[some ⟨1,nl (kidT s n 13)⟩])).length=15:=by simp
    rw [hl];have t1:A8 15 (encT 1 (J2 s (kidT s n 13)[i]))=true:=tsP_ok.bnd 15 (B3 1 (J2 s (kidT s n 13)[i])) _ fun n hn=>Ge (by omega) n hn;have r1:=can_b s (m:=15) (by omega);rw [←V3 (t:=tsP) (s:=s)] at r1;simp only [D7,Bool.and_eq_true] at r1;simp only [D7,t1,Bool.true_and];exact hpB_app r1.2 (by simp only [D7,bm (L3 0 (kidT s n 13)),Bool.and_self])
   ·exact ⟨⟨rfl,by rw [e1];rfl⟩,⟨rfl,by rw [e1];rfl⟩,⟨rfl,rfl⟩,⟨rfl,rfl⟩,trivial⟩
  have nexts:E4 s w (kidT s n 13)[i]=false→∀ j,(hj:j<(kidT s n 13).length)→j<i+1→E4 s w (kidT s n 13)[j]=false:=fun h0 j hj hji=>by
   by_cases e:j=i
   ·subst e;exact h0
   ·exact hP j hj (by omega)
  rw [k2,Int.toNat_natCast,enC];have en0:(0:Int)≤((kidT s n 13)[i]:Int):=by omega
  have leT:leB ((kidT s n 13)[i]*7+8) (encT 1 s).length=true:=A6.2 (by rw [Q8];omega)
  have norm:L0 w (kidT s n 13)[i]=true→(s.at_ (kidT s n 13)[i]).en=false→(i<(kidT s n 13).length∧(∀ j,(hj:j<(kidT s n 13).length)→j<i+1→E4 s w (kidT s n 13)[j]=false)∧(([.ptr (.rw 0) 0,.int .i64 w,.int .i64 0,.int .i64 0,.bool true,.int .i64 0,.slice true (.rw 14) 0 (kidT s n 13).length,.int .i64 ((kidT s n 13).length:Int),.int .i64 (IntKind.wrap .i64 ((i:Int)+1))]=(fun i:Nat=>([.ptr (.rw 0) 0,.int .i64 w,.int .i64 0,.int .i64 0,.bool (((kidT s n 13).take i).any (L0 w)),.int .i64 0,.slice true (.rw 14) 0 (kidT s n 13).length,.int .i64 ((kidT s n 13).length:Int),.int .i64 (i:Int)]:List AV)) (i+1)∧(vHp G (hp3 [some ⟨1,.var 1 (encT 1 s)⟩] (.var 2 (setsL encP s)) [some ⟨1,.var 22 (nl (kidT s n 13))⟩])++[some (⟨1,P5 (s.at_ (kidT s n 13)[i]) (H5 1 (kidT s n 13)[i] (s.sg (kidT s n 13)[i]))⟩:Blk)])=vHp G (hp3 [some ⟨1,.var 1 (encT 1 s)⟩] (.var 2 (setsL encP s)) [some ⟨1,.var 22 (nl (kidT s n 13))⟩]))∨C8 14 ((fun i:Nat=>([.ptr (.rw 0) 0,.int .i64 w,.int .i64 0,.int .i64 0,.bool (((kidT s n 13).take i).any (L0 w)),.int .i64 0,.slice true (.rw 14) 0 (kidT s n 13).length,.int .i64 ((kidT s n 13).length:Int),.int .i64 (i:Int)]:List AV)) (i+1)) (vHp G (hp3 [some ⟨1,.var 1 (encT 1 s)⟩] (.var 2 (setsL encP s)) [some ⟨1,.var 22 (nl (kidT s n 13))⟩])) [.ptr (.rw 0) 0,.int .i64 w,.int .i64 0,.int .i64 0,.bool true,.int .i64 0,.slice true (.rw 14) 0 (kidT s n 13).length,.int .i64 ((kidT s n 13).length:Int),.int .i64 (IntKind.wrap .i64 ((i:Int)+1))] (vHp G (hp3 [some ⟨1,.var 1 (encT 1 s)⟩] (.var 2 (setsL encP s)) [some ⟨1,.var 22 (nl (kidT s n 13))⟩])++[some (⟨1,P5 (s.at_ (kidT s n 13)[i]) (H5 1 (kidT s n 13)[i] (s.sg (kidT s n 13)[i]))⟩:Blk)]))):=fun hm he=>
   ⟨hlt,nexts (by unfold E4;rw [he,Bool.and_false]),.inr (hb20 _ _ (by show _=[_,_,_,_,_,_,_,_,_];rw [Pa hlt,hm,Bool.or_true,ew 0]))⟩
  have both:L0 w (kidT s n 13)[i]=true→_:=fun hm=>And.intro (found hm) (norm hm);refine ⟨decide_eq_true (by omega),h,k1,fun h1=>?_,fun h1=>⟨fun h2=>?_,fun h2=>?_⟩⟩
  ·have hm:L0 w (kidT s n 13)[i]=true:=by unfold L0;rw [show (w==-1)=true from h1];rfl
   refine ⟨decide_eq_true en0,decide_eq_true (by omega),leT,?_,rfl,rfl,fun he=>⟨decide_eq_true en0,decide_eq_true (by omega),leT,rfl,?_⟩,fun he=>norm hm he⟩
   ·cases s.sg (kidT s n 13)[i]<;>rfl
   ·have f:=found hm he;rw [if_pos trivial] at f;have e9:setPart (encT 1 s) ((kidT s n 13)[i]*7+1) (.agg [.int .i64 0,.int .i64 0,.int .i64 0,.int .i64 0,.bool false,.int .i64 0,.nilp])=encT 1 (J2 s (kidT s n 13)[i]):=oO (b:=1) (s:=s) c1;rw [e9];exact f
  ·have hm:L0 w (kidT s n 13)[i]=true:=by unfold L0;rw [show (w==((kidT s n 13)[i]:Int))=true from h2,Bool.or_true]
   refine ⟨decide_eq_true en0,decide_eq_true (by omega),leT,?_,rfl,rfl,fun he=>⟨decide_eq_true en0,decide_eq_true (by omega),leT,rfl,?_⟩,fun he=>norm hm he⟩
   ·cases s.sg (kidT s n 13)[i]<;>rfl
   ·have f:=found hm he;rw [if_pos trivial] at f;have e9:setPart (encT 1 s) ((kidT s n 13)[i]*7+1) (.agg [.int .i64 0,.int .i64 0,.int .i64 0,.int .i64 0,.bool false,.int .i64 0,.nilp])=encT 1 (J2 s (kidT s n 13)[i]):=oO (b:=1) (s:=s) c1;rw [e9];exact f
  ·have hm:L0 w (kidT s n 13)[i]=false:=by unfold L0;rw [show (w==((kidT s n 13)[i]:Int))=false from h2,show (w==-1)=false from h1];rfl
   refine ⟨hlt,nexts (by unfold E4;rw [hm];rfl),.inl ⟨?_,rfl⟩⟩;show _=[_,_,_,_,_,_,_,_,_];rw [Pa hlt,hm,Bool.or_false,ew 0]
 ·have he:i=(kidT s n 13).length:=by have:=of_decide_eq_false h;omega
  have hn:(kidT s n 13).find? (E4 s w)=none:=Ra fun j hj=>hP j hj (by omega);refine .inr ⟨by show Option.isSome _=false;rw [hn];rfl,rfl,.inl ⟨?_,rfl⟩⟩;rw [he,List.take_length];simp [wk,vVs,vV,vI,vB]
where
 can_b (s:Ptb) {m:Nat} (hm:14≤m):D7 m (B0 tsP s)=true:=by
  have h:=Oo (Bi tsP_ok s);exact aC.hpB_of fun i b hb=>C6 hm _ (h i b hb)
end Go.Am
namespace Go.Am
open Go.Proofs Crc
set_option maxRecDepth 100000
theorem eI (s:Ptb):encT 1 s=encV (ptC s 13) s:=by
 show tsP.tb (B3 1 s) s=tsP.tb (ptC s 13) s;refine tsP_ok.congr _ _ _ fun n hn=>?_;unfold B3 H5 ptC;split
 ·rename_i e;rw [e]
 ·rename_i e;rw [e];simp only;rw [if_neg (by omega)]
theorem aR8 {k:IntKind} {s:Ptb} {n:Int}:X6 [.agg (encT 1 s),.int k n]=(kidT s n 13).length:=by
 unfold X6;rw [Ta];simp only [Ky]
theorem aR9 {k:IntKind} {s:Ptb} {n:Int}:En [.agg (encT 1 s),.int k n]=nl (kidT s n 13):=by
 unfold En;rw [Ta];simp only [Ky]
theorem Wb {s:Ptb}:∀ n,n<13→A8 0 (A1 (setsL encP s) n)=true:=fun n hn=>by
 rw [K9 hn];exact X1 tsP_ok _ 0
theorem xT {s:Ptb} (hw:Wf s):Ua [.agg (encT 1 s),.agg (setsL encP s)]=true:=iT.2 ⟨s,hw,eI s,Wb⟩
theorem dgW (G:Nat→List AV) (B:Nat) {s:Ptb} (hw:Wf s) (n w:Int):I9 (⟨Try.prog,G,B⟩:A3) (Dc Try.prog [36,38,39,20] [(31,kidsS)] [E5 0x910 (G5 [.ptr (.rw 0) 0,.int .i64 w,.int .i64 0,.int .i64 0,.bool false,.int .i64 0,.slice true (.rw 14) 0 (kidT s n 13).length,.int .i64 ((kidT s n 13).length:Int),.int .i64 0] (vHp G (hp3 [some ⟨1,.var 1 (encT 1 s)⟩] (.var 2 (setsL encP s)) [some ⟨1,.var 22 (nl (kidT s n 13))⟩]))) 0 67 [0,2,6,7,8,9,32,33,34] (.tst (.var 9 (((kidT s n 13).find? (E4 s w)).isSome)) (.one .ret [.undef,.undef,.int .i64 (.var 10 ((((kidT s n 13).find? (E4 s w)).getD 0):Int)),.int .i64 (.var 11 (s.at_ (((kidT s n 13).find? (E4 s w)).getD 0)).st),.bool (.lit false),.int .i64 (.lit 0),.undef,.undef,.undef] (hp3 [some ⟨1,.var 21 (encT 1 (J2 s (((kidT s n 13).find? (E4 s w)).getD 0)))⟩] (.var 2 (setsL encP s)) [some ⟨1,.var 22 (nl (kidT s n 13))⟩])) (.one (.exit 0) [.undef,.undef,.int .i64 (.lit 0),.int .i64 (.lit 0),.bool (.var 7 ((kidT s n 13).any (L0 w))),.int .i64 (.lit 0),.undef,.undef,.undef] (hp3 [some ⟨1,.var 1 (encT 1 s)⟩] (.var 2 (setsL encP s)) [some ⟨1,.var 22 (nl (kidT s n 13))⟩])))] 14) (loopsOf (bodyOf Try.f13)):=
 dgood (mix G B) (by kernel_rfl) (.cons (nL G B) .nil) (.cast (.cons (i:=0) (by kernel_rfl) rfl (N5 rfl (vG G B hw n w)) .nil) (by kernel_rfl))
def P9 (r:Int×Int×Bool×Int):AV:=.tup [.int .i64 r.1,.int .i64 r.2.1,.bool r.2.2.1,.int .i64 r.2.2.2]
theorem wE {s:Ptb} {c:Nat}:H7 tsP (J2 s c) 13 (some ⟨1,encT 1 (J2 s c)⟩::(List.range 13).map fun n=>some ⟨1,A1 (setsL encP s) n⟩):=
 seen_rows (t:=tsP) rfl tsP_ok (Fd (t:=tsP) (s:=s) fun n p h=>by
  have h:(if n=c then none else s.sg n)=some p:=h;split at h
  ·cases h
  ·exact h)
theorem p_wait (G:Nat→List AV) (B:Nat) {s:Ptb} (hw:Wf s) (n w:Int):ACalls (⟨Try.prog,G,B⟩:A3) 13 [.ptr (.rw 0) 0,.int .i64 n,.int .i64 w] (B0 tsP s) fun v H'=>v=P9 (I6 s n w).1∧H'=B0 tsP (I6 s n w).2:=by
 have h:=D3 (C:=(⟨Try.prog,G,B⟩:A3)) (K:=Dc Try.prog [36,38,39,20] [(31,kidsS)] [E5 0x910 (G5 [.ptr (.rw 0) 0,.int .i64 w,.int .i64 0,.int .i64 0,.bool false,.int .i64 0,.slice true (.rw 14) 0 (kidT s n 13).length,.int .i64 ((kidT s n 13).length:Int),.int .i64 0] (vHp G (hp3 [some ⟨1,.var 1 (encT 1 s)⟩] (.var 2 (setsL encP s)) [some ⟨1,.var 22 (nl (kidT s n 13))⟩]))) 0 67 [0,2,6,7,8,9,32,33,34] (.tst (.var 9 (((kidT s n 13).find? (E4 s w)).isSome)) (.one .ret [.undef,.undef,.int .i64 (.var 10 ((((kidT s n 13).find? (E4 s w)).getD 0):Int)),.int .i64 (.var 11 (s.at_ (((kidT s n 13).find? (E4 s w)).getD 0)).st),.bool (.lit false),.int .i64 (.lit 0),.undef,.undef,.undef] (hp3 [some ⟨1,.var 21 (encT 1 (J2 s (((kidT s n 13).find? (E4 s w)).getD 0)))⟩] (.var 2 (setsL encP s)) [some ⟨1,.var 22 (nl (kidT s n 13))⟩])) (.one (.exit 0) [.undef,.undef,.int .i64 (.lit 0),.int .i64 (.lit 0),.bool (.var 7 ((kidT s n 13).any (L0 w))),.int .i64 (.lit 0),.undef,.undef,.undef] (hp3 [some ⟨1,.var 1 (encT 1 s)⟩] (.var 2 (setsL encP s)) [some ⟨1,.var 22 (nl (kidT s n 13))⟩])))] 14) (fuel:=300) (n0:=40) (f:=13) (fn:=Try.f13) (args:=[.ptr (.rw 0) (.lit 0),.int .i64 (.var 3 n),.int .i64 (.var 4 w)]) (H:=(hp3 [some ⟨1,.var 1 (encT 1 s)⟩] (.var 2 (setsL encP s)) [])) (keep:=14)
  (R:=fun v H=>v=P9 (I6 s n w).1∧H7 tsP (I6 s n w).2 13 H) (dgW G B hw n w) (by kernel_rfl) (by kernel_rfl) (by kernel_rfl) (by
  have:=w_c G Nq Ua (G5 [.ptr (.rw 0) 0,.int .i64 w,.int .i64 0,.int .i64 0,.bool false,.int .i64 0,.slice true (.rw 14) 0 (kidT s n 13).length,.int .i64 ((kidT s n 13).length:Int),.int .i64 0] (vHp G (hp3 [some ⟨1,.var 1 (encT 1 s)⟩] (.var 2 (setsL encP s)) [some ⟨1,.var 22 (nl (kidT s n 13))⟩]))) (encT 1 s) (setsL encP s) (nl (kidT s n 13)) (encT 1 (J2 s (((kidT s n 13).find? (E4 s w)).getD 0))) n w ((((kidT s n 13).find? (E4 s w)).getD 0):Int) (s.at_ (((kidT s n 13).find? (E4 s w)).getD 0)).st (kidT s n 13).length (((kidT s n 13).find? (E4 s w)).isSome) ((kidT s n 13).any (L0 w)) (fun _ _ _=>False) (fun v H=>v=P9 (I6 s n w).1∧H7 tsP (I6 s n w).2 13 H)
  refine Eq.mpr this ?_;rw [aR8,aR9];refine ⟨rfl,fun _=>⟨rfl,rfl,S8 1 (fun hl=>?_) fun hl=>?_⟩,fun h=>by cases h⟩
  ·have fin:¬(w≠-1∧(w<1∨12<w))→((((kidT s n 13).find? (E4 s w)).isSome)=true→(P9 (((((kidT s n 13).find? (E4 s w)).getD 0):Int),(s.at_ (((kidT s n 13).find? (E4 s w)).getD 0)).st,false,0)=P9 (I6 s n w).1∧H7 tsP (I6 s n w).2 13 (some ⟨1,encT 1 (J2 s (((kidT s n 13).find? (E4 s w)).getD 0))⟩::(List.range 13).map fun n=>some ⟨1,A1 (setsL encP s) n⟩)))∧
     ((((kidT s n 13).find? (E4 s w)).isSome)=false→((kidT s n 13).any (L0 w)=true→(P9 (0,0,true,0)=P9 (I6 s n w).1∧H7 tsP (I6 s n w).2 13 (some ⟨1,encT 1 s⟩::(List.range 13).map fun n=>some ⟨1,A1 (setsL encP s) n⟩)))∧((kidT s n 13).any (L0 w)=false→(P9 (0,0,false,6)=P9 (I6 s n w).1∧H7 tsP (I6 s n w).2 13 (some ⟨1,encT 1 s⟩::(List.range 13).map fun n=>some ⟨1,A1 (setsL encP s) n⟩)))):=fun hr=>by
    unfold I6;rw [if_pos hl,if_neg hr];cases hf:(kidT s n 13).find? (E4 s w) with
    | some c=>exact ⟨fun _=>⟨rfl,wE⟩,fun h=>by cases h⟩
    | none=>
     refine ⟨(fun h=>by cases h),fun _=>⟨fun ha=>?_,fun ha=>?_⟩⟩
     ·dsimp only;rw [if_pos ha];exact ⟨rfl,G1⟩
     ·dsimp only;rw [if_neg (by rw [ha];simp)];exact ⟨rfl,G1⟩
   have bad:(w≠-1∧(w<1∨12<w))→(P9 (0,0,false,2)=P9 (I6 s n w).1∧H7 tsP (I6 s n w).2 13 (some ⟨1,encT 1 s⟩::(List.range 13).map fun n=>some ⟨1,A1 (setsL encP s) n⟩)):=fun hr=>by
    unfold I6;rw [if_pos hl,if_pos hr];exact ⟨rfl,G1⟩
   refine ⟨fun h1=>?_,fun h1=>⟨fun h2=>?_,fun h2=>⟨fun h3=>?_,fun h3=>?_⟩⟩⟩
   ·have h1:w=-1:=eq_of_beq h1;exact ⟨D6 _ 13,xT hw,F5,(fin (by omega)).1,(fin (by omega)).2⟩
   ·have h1:¬w=-1:=fun e=>by rw [e] at h1;cases h1
    have h2:=of_decide_eq_true h2;exact bad (by omega)
   ·have h1:¬w=-1:=fun e=>by rw [e] at h1;cases h1
    have h3:=of_decide_eq_true h3;exact bad (by omega)
   ·have h2:=of_decide_eq_false h2;have h3:=of_decide_eq_false h3;exact ⟨D6 _ 13,xT hw,F5,(fin (by omega)).1,(fin (by omega)).2⟩
  ·unfold I6
   rw [hl];exact ⟨rfl,G1⟩)
 rw [hT] at h;exact Og tsP_ok h rfl
end Go.Am
namespace Go.Am
open Go.Proofs Crc
set_option maxRecDepth 100000
theorem f_b (G:Nat→List AV) (tb sl:List AV) (n i:Int) (Q:Ex→List AV→Hp→Prop) (R:AV→Hp→Prop):vT G Q R (J6 (Dc Try.prog [36,39] [] [] 0) 300 40 14 (loopN Try.f26 0) 50 [0,1,4,5,7] [.ptr (.rw 0) (.lit 0),.int .i64 (.var 3 n),.int .i64 (.lit 0),.int .i64 (.lit 0),.int .i64 (.var 4 i)] (hp3 [some ⟨1,.var 1 tb⟩] (.var 2 sl) []))=(
  (decide ((i:Int)≤12)=true→isB tb (0)=true∧(A5 tb (0)=true→(decide ((i:Int)≥1)=true→decide ((i:Int)≤12)=true∧decide ((0:Int)≤i)=true∧decide ((i:Int)<13)=true∧isI .i64 tb ((Int.toNat (i))*7+1)=true∧(((A0 tb ((Int.toNat (i))*7+1):Int)==i)=true→Q .normal [.ptr (.rw 0) (0),.int .i64 (n),.int .i64 (0),.int .i64 (0),.int .i64 (IntKind.wrap .i64 (i+1))] ([some ⟨1,tb⟩]++A2 sl))∧(((A0 tb ((Int.toNat (i))*7+1):Int)==i)=false→Q (.exit 0) [.ptr (.rw 0) (0),.int .i64 (n),.int .i64 (0),.int .i64 (0),.int .i64 (i)] ([some ⟨1,tb⟩]++A2 sl)))∧(decide ((i:Int)≥1)=false→Q (.exit 0) [.ptr (.rw 0) (0),.int .i64 (n),.int .i64 (0),.int .i64 (0),.int .i64 (i)] ([some ⟨1,tb⟩]++A2 sl)))∧(A5 tb (0)=false→Q (.exit 0) [.ptr (.rw 0) (0),.int .i64 (n),.int .i64 (0),.int .i64 (0),.int .i64 (i)] ([some ⟨1,tb⟩]++A2 sl)))∧(decide ((i:Int)≤12)=false→Q (.exit 0) [.ptr (.rw 0) (0),.int .i64 (n),.int .i64 (0),.int .i64 (0),.int .i64 (i)] ([some ⟨1,tb⟩]++A2 sl))):=by kernel_rfl
theorem f_c (G:Nat→List AV) (rl:List AV→Bool) (tb sl:List AV) (n:Int) (c:Nat) (Q:Ex→List AV→Hp→Prop) (R:AV→Hp→Prop):vT G Q R (D0 (Df Try.prog [(48,1,13)] [36,38,39,20] [(58,Bh N0)] [E5 2330 (rl) 0 50 [0,1,4,5,7] (.one (.exit 0) [.ptr (.rw 0) (.lit 0),.int .i64 (.var 3 n),.int .i64 (.lit 0),.int .i64 (.lit 0),.int .i64 (.ofN (.var 6 c))] (hp3 [some ⟨1,.var 1 tb⟩] (.var 2 sl) []))] 14) 300 40 Try.f26 [.ptr (.rw 0) (.lit 0),.int .i64 (.var 3 n)] (hp3 [some ⟨1,.var 1 tb⟩] (.var 2 sl) []) 16)=(
  isB tb (0)=true∧(A5 tb (0)=true→isB tb (0)=true∧A5 tb (0)=true∧(decide ((n:Int)≥1)=true→(decide ((n:Int)≤12)=true→decide ((0:Int)≤n)=true∧decide ((n:Int)<13)=true∧isI .i64 tb ((Int.toNat (n))*7+1)=true∧(((A0 tb ((Int.toNat (n))*7+1):Int)==n)=true→decide ((0:Int)≤n)=true∧decide ((n:Int)<13)=true∧isB tb ((Int.toNat (n))*7+5)=true∧(A5 tb ((Int.toNat (n))*7+5)=true→R (.tup [.int .i64 (0),.int .i64 (6)]) ([some ⟨1,tb⟩]++A2 sl))∧(A5 tb ((Int.toNat (n))*7+5)=false→(rl) [.agg ([.ptr (.rw 0) (0),.int .i64 (n),.int .i64 (0),.int .i64 (0),.int .i64 (1)]:List AV),.agg ((Ez [.tup [.int .i64 (1),.agg tb]] sl []):List AV)]=true∧(decide ((((c:Nat):Int):Int)>12)=true→R (.tup [.int .i64 (0),.int .i64 (5)]) ([some ⟨1,tb⟩]++A2 sl))∧(decide ((((c:Nat):Int):Int)>12)=false→decide ((0:Int)≤n)=true∧decide ((n:Int)<13)=true∧leB ((Int.toNat (n))*7+8) (List.length tb)=true∧cellsB (subL tb ((Int.toNat (n))*7+1) (7))=true∧Nat.beq (List.length (subL tb ((Int.toNat (n))*7+1) (7))) (7)=true∧isI .i64 (subL tb ((Int.toNat (n))*7+1) (7)) (2)=true∧isI .i64 (subL tb ((Int.toNat (n))*7+1) (7)) (3)=true∧(B4 (subL tb ((Int.toNat (n))*7+1) (7)) (6)=true→False)∧(B4 (subL tb ((Int.toNat (n))*7+1) (7)) (6)=false→J4 1 13 (subL tb ((Int.toNat (n))*7+1) (7)) (6)=true∧Nat.beq (K4 (subL tb ((Int.toNat (n))*7+1) (7)) (6)) (0)=true∧leB (A4 1 (subL tb ((Int.toNat (n))*7+1) (7)) (6)+1) (13)=true∧rowsA sl (rp 13 sl)=true∧leB (A4 1 (subL tb ((Int.toNat (n))*7+1) (7)) (6)+1) (List.length sl)=true∧okU [.agg (A1 sl (A4 1 (subL tb ((Int.toNat (n))*7+1) (7)) (6)))]=true∧decide ((0:Int)≤((c:Nat):Int))=true∧decide ((((c:Nat):Int):Int)<13)=true∧leB ((c)*7+8) (List.length tb)=true∧
 R (.tup [.int .i64 (((c:Nat):Int)),.int .i64 (0)]) ([some ⟨1,(setPart tb ((c)*7+1) (.agg ([.int .i64 (((c:Nat):Int)),.int .i64 (n),.int .i64 (A0 (subL tb ((Int.toNat (n))*7+1) (7)) (2)),.int .i64 (A0 (subL tb ((Int.toNat (n))*7+1) (7)) (3)),.bool (false),.int .i64 (0),.ptr (.rw 15) (0)]:List AV)))⟩]++(A2 sl++[some ⟨1,(subL tb ((Int.toNat (n))*7+1) (7))⟩,some ⟨1,(Mv [.agg (A1 sl (A4 1 (subL tb ((Int.toNat (n))*7+1) (7)) (6)))])⟩]))))))∧(((A0 tb ((Int.toNat (n))*7+1):Int)==n)=false→R (.tup [.int .i64 (0),.int .i64 (6)]) ([some ⟨1,tb⟩]++A2 sl)))∧(decide ((n:Int)≤12)=false→R (.tup [.int .i64 (0),.int .i64 (6)]) ([some ⟨1,tb⟩]++A2 sl)))∧(decide ((n:Int)≥1)=false→R (.tup [.int .i64 (0),.int .i64 (6)]) ([some ⟨1,tb⟩]++A2 sl)))∧(A5 tb (0)=false→R (.tup [.int .i64 (0),.int .i64 (1)]) ([some ⟨1,tb⟩]++A2 sl))):=by kernel_rfl
def lowF (s:Ptb):Nat:=(((List.range 12).find? fun (j:Nat)=>!isP s ((j:Int)+1)).getD 12)+1
theorem f_loop (G:Nat→List AV) (B:Nat) {s:Ptb} (n:Int):AWp (⟨Try.prog,G,B⟩:A3) 14 (.loop (loopN Try.f26 0)) (fl 50 [0,1,4,5,7] [.ptr (.rw 0) 0,.int .i64 n,.int .i64 0,.int .i64 0,.int .i64 1]) (vHp G (hp3 [some ⟨1,.var 1 (encT 1 s)⟩] (.var 2 (setsL encP s)) [])) (lv 50 [0,1,4,5,7] (LOut.post G 14 (.one (.exit 0) [.ptr (.rw 0) (.lit 0),.int .i64 (.var 3 n),.int .i64 (.lit 0),.int .i64 (.lit 0),.int .i64 (.ofN (.var 6 (lowF s)))] (hp3 [some ⟨1,.var 1 (encT 1 s)⟩] (.var 2 (setsL encP s)) [])))):=by
 refine Yi (fun i=>∀ j,j<i→isP s ((j:Int)+1)=true) 12 (fun i=>[.ptr (.rw 0) 0,.int .i64 n,.int .i64 0,.int .i64 0,.int .i64 ((i:Int)+1)]) (fun _=>vHp G (hp3 [some ⟨1,.var 1 (encT 1 s)⟩] (.var 2 (setsL encP s)) [])) (fun j h=>by omega) fun i hi hP=>?_
 refine E2 (C:=(⟨Try.prog,G,B⟩:A3)) (K:=Dc Try.prog [36,39] [] [] 0) (dgood (mix G B) (by kernel_rfl) .nil .nil) (fuel:=300) (n0:=40) (m:=14) (c:=loopN Try.f26 0)
  (vs:=[.ptr (.rw 0) (.lit 0),.int .i64 (.var 3 n),.int .i64 (.lit 0),.int .i64 (.lit 0),.int .i64 (.var 4 ((i:Int)+1))]) (H:=(hp3 [some ⟨1,.var 1 (encT 1 s)⟩] (.var 2 (setsL encP s)) [])) (Nat.le_of_ble_eq_true rfl) ?_
 rw [f_b]
 have out:lowF s=i+1→LOut.post G 14 (.one (.exit 0) [.ptr (.rw 0) (.lit 0),.int .i64 (.var 3 n),.int .i64 (.lit 0),.int .i64 (.lit 0),.int .i64 (.ofN (.var 6 (lowF s)))] (hp3 [some ⟨1,.var 1 (encT 1 s)⟩] (.var 2 (setsL encP s)) [])) (.exit 0) [.ptr (.rw 0) 0,.int .i64 n,.int .i64 0,.int .i64 0,.int .i64 ((i:Int)+1)] (vHp G (hp3 [some ⟨1,.var 1 (encT 1 s)⟩] (.var 2 (setsL encP s)) [])):=fun e=>by
  refine ⟨rfl,.inl ⟨?_,rfl⟩⟩;rw [e];simp [wk,vVs,vV,vR,vN,vI]
 have low:i<12→isP s ((i:Int)+1)=false→lowF s=i+1:=fun h12 h0=>by
  unfold lowF
  have:=Zf (l:=List.range 12) (p:=fun (j:Nat)=>!isP s ((j:Int)+1)) (i:=i) (by simpa using h12) (by simp [h0]) (fun j hj hji=>by
   simp only [List.getElem_range]
   rw [hP j hji];rfl)
  rw [this];simp
 refine ⟨fun h=>⟨rfl,fun _=>⟨fun h1=>?_,fun h1=>absurd (of_decide_eq_false h1) (by omega)⟩,fun h0=>by cases h0⟩,fun h=>out ?_⟩
 ·have h12:i<12:=by have:=of_decide_eq_true h;omega
  have t:=T_num (b:=1) (s:=s) (n:=i+1) (by omega);rw [show Int.toNat ((i:Int)+1)=i+1 by omega];refine ⟨h,decide_eq_true (by omega),decide_eq_true (by omega),t.1,fun h2=>⟨h12,fun j hj=>?_,.inl ⟨?_,rfl⟩⟩,fun h2=>out (low h12 ?_)⟩
  ·by_cases e:j=i
   ·subst e;rw [t.2] at h2;exact I0.2 ⟨by omega,by omega,by rw [show Int.toNat ((j:Int)+1)=j+1 by omega];exact eq_of_beq h2⟩
   ·exact hP j (by omega)
  ·rw [D9 (by omega)];rfl
  ·rw [t.2] at h2;cases e:isP s ((i:Int)+1) with
   | false=>rfl
   | true=>
    have:=(I0.1 e).2.2
    rw [show Int.toNat ((i:Int)+1)=i+1 by omega] at this;rw [this,beq_self_eq_true] at h2;cases h2
 ·have he:i=12:=by have:=of_decide_eq_false h;omega
  subst he;unfold lowF
  rw [Ra fun j hj=>by
   simp only [List.length_range] at hj;simp only [List.getElem_range]
   rw [hP j hj];rfl]
  rfl
def C4 (p:Sg):Sg:=Kn p 0#32
def Ba (s:Ptb) (n:Int) (c:Nat):Pc:=⟨(c:Int),n,(s.at_ n.toNat).grp,(s.at_ n.toNat).usr,false,0⟩
def kT (s:Ptb) (n:Int) (c:Nat):Ptb:=⟨fun j=>if j=c then Ba s n c else s.at_ j,fun j=>if j=c then some (C4 (C1 s n.toNat)) else s.sg j⟩
def P0 (s:Ptb) (n:Int):(Int×Int)×Ptb:=
 if live s n=true then
  if 12<lowF s then ((0,5),s) else (((lowF s:Int),0),kT s n (lowF s))
 else ((0,6),s)
theorem iX {s:Ptb} (hw:Wf s):lowF s≤13∧(lowF s≤12→lowF s≠1∧1≤lowF s∧isP s (lowF s:Int)=false):=by
 unfold lowF;cases h:(List.range 12).find? fun (j:Nat)=>!isP s ((j:Int)+1) with
 | none=>exact ⟨Nat.le_refl _,fun h=>absurd h (by simp)⟩
 | some j=>
  have h1:=List.mem_range.1 (List.mem_of_find?_eq_some h);have h2:=List.find?_some h;simp only [Bool.not_eq_true'] at h2;simp only [Option.getD_some];refine ⟨by omega,fun _=>⟨fun e=>?_,by omega,by rw [show ((j+1:Nat):Int)=(j:Int)+1 by omega];exact h2⟩⟩
  have:j=0:=by omega
  subst this
  have:isP s 1=true:=I0.2 ⟨by omega,by omega,hw.one.1⟩
  rw [show (((0:Nat):Int)+1)=1 from rfl] at h2;rw [this] at h2;cases h2
theorem Wf.forkX {s:Ptb} (h:Wf s) {n:Int} (hl:live s n=true) {c:Nat} (h1:c≠1) (h2:1≤c) (h3:c≤12):Wf (kT s n c):=by
 have hl':=H6.1 hl;refine ⟨fun j hj=>?_,fun j=>?_,?_⟩
 ·obtain ⟨b1,b2⟩:=h.z j hj;show (if j=c then Ba s n c else s.at_ j)=zc∧(if j=c then some (C4 (C1 s n.toNat)) else s.sg j)=none;rw [if_neg (by omega),if_neg (by omega)];exact ⟨b1,b2⟩
 ·show ((if j=c then Ba s n c else s.at_ j)=zc∧(if j=c then some (C4 (C1 s n.toNat)) else s.sg j)=none)∨((if j=c then Ba s n c else s.at_ j).num=(j:Int)∧1≤j∧j≤12∧(if j=c then some (C4 (C1 s n.toNat)) else s.sg j).isSome=true∧1≤(if j=c then Ba s n c else s.at_ j).grp∧(if j=c then Ba s n c else s.at_ j).grp≤12);by_cases e:j=c
  ·subst e;rw [if_pos rfl,if_pos rfl];exact .inr ⟨rfl,h2,h3,rfl,h.grp (by omega)⟩
  ·rw [if_neg e,if_neg e];exact h.p j
 ·show (if 1=c then Ba s n c else s.at_ 1).num=1∧(if 1=c then Ba s n c else s.at_ 1).par=0;rw [if_neg (fun e=>h1 e.symm)];exact h.one
theorem Wf.forkR {s:Ptb} (h:Wf s) (n:Int):Wf (P0 s n).2:=by
 unfold Go.Am.P0;split
 ·rename_i hl;split
  ·exact h
  ·obtain ⟨_,a2⟩:=iX h;obtain ⟨b1,b2,_⟩:=a2 (by omega);exact h.forkX hl b1 b2 (by omega)
 ·exact h
end Go.Am
namespace Go.Am
open Go.Proofs Crc
set_option maxRecDepth 100000
theorem dgF (G:Nat→List AV) (B:Nat) {s:Ptb} (n:Int):I9 (⟨Try.prog,G,B⟩:A3) (Df Try.prog [(48,1,13)] [36,38,39,20] [(58,Bh N0)] [E5 0x91A (G5 [.ptr (.rw 0) 0,.int .i64 n,.int .i64 0,.int .i64 0,.int .i64 1] (vHp G (hp3 [some ⟨1,.var 1 (encT 1 s)⟩] (.var 2 (setsL encP s)) []))) 0 50 [0,1,4,5,7] (.one (.exit 0) [.ptr (.rw 0) (.lit 0),.int .i64 (.var 3 n),.int .i64 (.lit 0),.int .i64 (.lit 0),.int .i64 (.ofN (.var 6 (lowF s)))] (hp3 [some ⟨1,.var 1 (encT 1 s)⟩] (.var 2 (setsL encP s)) []))] 14) (loopsOf (bodyOf Try.f26)):=
 dgoodf (mix G B) (by kernel_rfl) (.cons (Nw (S0 G) (qU G B)) .nil) (.cast (.cons (i:=0) (by kernel_rfl) rfl (N5 rfl (f_loop G B n)) .nil) (by kernel_rfl))
theorem aA7 {s:Ptb} {c q:Nat} {x:Pc} {p:Sg} {s':Ptb} {E:Hp} (hq:14≤q) (hc:c<13) (h1:∀ j,s'.at_ j=if j=c then x else s.at_ j) (h2:∀ j,s'.sg j=if j=c then some p else s.sg j) (hE:E[q - 14]?=some (some ⟨1,encP p⟩)) :
  Z3 tsP s' c q (some ⟨1,setPart (encT 1 s) (c*7+1) (.agg (P5 x (.ptr (.rw q) 0)))⟩::((List.range 13).map (fun n=>some ⟨1,A1 (setsL encP s) n⟩)++E)):=by
 refine ⟨by simp,?_,fun n hn=>?_⟩
 ·rw [List.getElem?_cons_zero,Ta,uU hc];congr 3;show encV _ _=encV _ _;unfold encV;congr 1;refine O1 fun a j _ _=>?_;show fcell (if a=c then x else s.at_ a) (if a=c then .ptr (.rw q) 0 else H5 1 a (s.sg a)) j=fcell (s'.at_ a) (match s'.sg a with | none=>.nilp | some _=>.ptr (.rw (if a=c then q else 1+a)) 0) j;rw [h1 a,h2 a];by_cases e:a=c
  ·simp only [if_pos e]
  ·simp only [if_neg e];cases s.sg a<;>rfl
 ·by_cases e:n=c
  ·rw [if_pos e];refine ⟨encP p,?_,fun p' hp'=>?_⟩
   ·rw [show q=(q - 1)+1 by omega,List.getElem?_cons_succ,List.getElem?_append_right (by simp;omega),List.length_map,List.length_range,show q - 1 - 13=q - 14 by omega];exact hE
   ·rw [h2 n,if_pos e] at hp';simp only [Option.some.injEq] at hp';rw [hp'];rfl
  ·rw [if_neg e];refine ⟨A1 (setsL encP s) n,?_,fun p' hp'=>?_⟩
   ·rw [Nat.add_comm 1 n,List.getElem?_cons_succ,List.getElem?_append_left (by simpa using hn),List.getElem?_map,List.getElem?_range hn];rfl
   ·rw [h2 n,if_neg e] at hp';rw [K9 hn,hp'];rfl
theorem wK {s:Ptb} {n:Nat} {p:Sg} (hn:n<13) (hp:s.sg n=some p):B4 (P5 (s.at_ n) (H5 1 n (s.sg n))) 6=false∧J4 1 13 (P5 (s.at_ n) (H5 1 n (s.sg n))) 6=true∧A4 1 (P5 (s.at_ n) (H5 1 n (s.sg n))) 6=n∧K4 (P5 (s.at_ n) (H5 1 n (s.sg n))) 6=0:=by
 have h:(P5 (s.at_ n) (H5 1 n (s.sg n)))[6]?=some (H5 1 n (s.sg n)):=rfl;have e:=Yn hn h (by rw [hp];rfl);exact ⟨by rw [Gk h,hp];rfl,e.1,e.2.1,e.2.2⟩
def Ty (r:Int×Int):AV:=.tup [.int .i64 r.1,.int .i64 r.2]
theorem p_fork (G:Nat→List AV) (B:Nat) {s:Ptb} (hw:Wf s) (n:Int):ACalls (⟨Try.prog,G,B⟩:A3) 26 [.ptr (.rw 0) 0,.int .i64 n] (B0 tsP s) fun v H'=>v=Ty (P0 s n).1∧H'=V2 tsP (P0 s n).2:=by
 have h:=D3 (C:=(⟨Try.prog,G,B⟩:A3)) (K:=Df Try.prog [(48,1,13)] [36,38,39,20] [(58,Bh N0)] [E5 0x91A (G5 [.ptr (.rw 0) 0,.int .i64 n,.int .i64 0,.int .i64 0,.int .i64 1] (vHp G (hp3 [some ⟨1,.var 1 (encT 1 s)⟩] (.var 2 (setsL encP s)) []))) 0 50 [0,1,4,5,7] (.one (.exit 0) [.ptr (.rw 0) (.lit 0),.int .i64 (.var 3 n),.int .i64 (.lit 0),.int .i64 (.lit 0),.int .i64 (.ofN (.var 6 (lowF s)))] (hp3 [some ⟨1,.var 1 (encT 1 s)⟩] (.var 2 (setsL encP s)) []))] 14) (fuel:=300) (n0:=40) (f:=26) (fn:=Try.f26) (args:=[.ptr (.rw 0) (.lit 0),.int .i64 (.var 3 n)]) (H:=(hp3 [some ⟨1,.var 1 (encT 1 s)⟩] (.var 2 (setsL encP s)) [])) (keep:=16)
  (R:=fun v H=>v=Ty (P0 s n).1∧(H7 tsP (P0 s n).2 13 H∨∃ c,Z3 tsP (P0 s n).2 c 15 H∧15<H.length)) (dgF G B n) (by kernel_rfl) (by kernel_rfl) (by kernel_rfl) (by
  have:=f_c G (G5 [.ptr (.rw 0) 0,.int .i64 n,.int .i64 0,.int .i64 0,.int .i64 1] (vHp G (hp3 [some ⟨1,.var 1 (encT 1 s)⟩] (.var 2 (setsL encP s)) []))) (encT 1 s) (setsL encP s) n (lowF s) (fun _ _ _=>False) (fun v H=>v=Ty (P0 s n).1∧(H7 tsP (P0 s n).2 13 H∨∃ c,Z3 tsP (P0 s n).2 c 15 H∧15<H.length))
  refine Eq.mpr this ?_;refine ⟨rfl,fun _=>⟨rfl,rfl,S8 1 (fun hl=>⟨F5,fun h1=>?_,fun h1=>?_⟩) fun hl=>?_⟩,fun h=>by cases h⟩
  ·have h1:=of_decide_eq_true h1;unfold P0;rw [if_pos hl,if_pos (by omega)];exact ⟨rfl,.inl G1⟩
  ·have h1:=of_decide_eq_false h1;have h:=H6.1 hl;have hi:isP s n=true:=I0.2 ⟨h.1,h.2.1,h.2.2.1⟩;obtain ⟨p,hp⟩:=hw.live_sg hi;obtain ⟨_,a2⟩:=iX hw;obtain ⟨b1,b2,_⟩:=a2 (by omega);have er:=lA (b:=1) (s:=s) (n:=n.toNat) (by omega);rw [er];obtain ⟨e1,e2,e3,e4⟩:=wK (n:=n.toNat) (by omega) hp;have e5:A1 (setsL encP s) n.toNat=encP p:=by rw [K9 (by omega),hp];rfl
   have ed:C1 s n.toNat=p:=by unfold C1;rw [hp];rfl
   unfold P5 at e1 e2 e3 e4;rw [e3,e4,e5,Jx];refine ⟨decide_eq_true (by omega),decide_eq_true (by omega),A6.2 (by rw [Q8];omega),?_,rfl,rfl,rfl,(fun h=>by rw [e1] at h;cases h),fun _=>⟨e2,rfl,A6.2 (by omega),D6 _ 13,A6.2 (by rw [F8];omega),O8 p,decide_eq_true (by omega),decide_eq_true (by omega),A6.2 (by rw [Q8];omega),?_⟩⟩
   ·cases s.sg n.toNat<;>rfl
   ·unfold P0;rw [if_pos hl,if_neg (by omega)];refine ⟨rfl,.inr ⟨(lowF s),?_,by simp [A2]⟩⟩;exact aA7 (s:=s) (c:=(lowF s)) (q:=15) (x:=Ba s n (lowF s)) (p:=C4 p) (s':=kT s n (lowF s)) (E:=[some ⟨1,_⟩,some ⟨1,encP (C4 p)⟩]) (by omega) (by omega) (fun j=>rfl) (fun j=>by show (if j=(lowF s) then some (C4 (C1 s n.toNat)) else s.sg j)=_;rw [ed]) rfl
  ·unfold P0
   rw [hl];exact ⟨rfl,.inl G1⟩)
 rw [hT] at h;exact Yo tsP_ok (q:=15) (by omega) h rfl
end Go.Am
