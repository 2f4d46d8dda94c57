/-
  Processes: the program's Children: the iterator's loop, the call. Processes: the program's Children: the call.
-/
import Derived.Test.YtkabjomhnddnoaaPart12
namespace Go.Am
open Go.Proofs Crc
set_option maxRecDepth 100000
def S5 (s:Ptb) (n:Int) (c:Nat):Bool:=decide (0<(s.at_ c).num)&&Bd n (s.at_ c).par
def kidT (s:Ptb) (n:Int) (i:Nat):List Nat:=(List.range i).filter (S5 s n)
theorem kidT_succ (s:Ptb) (n:Int) (i:Nat):kidT s n (i+1)=kidT s n i++(if S5 s n i then [i] else []):=by
 unfold kidT;rw [List.range_succ,List.filter_append];congr 1;simp only [List.filter_cons,List.filter_nil]
theorem Fu (s:Ptb) (n:Int) (i:Nat):(kidT s n i).length≤i:=by
 have:=List.length_filter_le (S5 s n) (List.range i)
 simpa [kidT] using this
def arT (s:Ptb) (cc:Nat):List AV:=subL (encV (ptC s cc) s) 1 91
theorem yQ (s:Ptb) (cc:Nat):arT s cc=U0 13 7 fun n=>fcell (s.at_ n) (ptC s cc n):=by
 unfold arT subL encV;rw [List.drop_succ_cons,List.drop_zero,List.take_of_length_le (by rw [I2];omega)]
theorem Ed {s:Ptb} {cc i:Nat} (hi:i<13):subL (arT s cc) (i*7) 7=P5 (s.at_ i) (ptC s cc i):=by
 rw [yQ,aV hi];rfl
theorem Zs (s:Ptb) (cc:Nat):(arT s cc).length=91:=by rw [yQ,I2]
theorem aP4 {s:Ptb} {cc i:Nat} (hi:i<13):bnd 15 (ptC s cc i)=true:=by
 unfold ptC;split
 ·rfl
 ·have:(if i=cc then 14 else 1+i)<15:=by split<;>omega
  simpa [bnd] using this
theorem aN8 {s:Ptb} {cc i:Nat} (hi:i<13):A8 15 (P5 (s.at_ i) (ptC s cc i))=true:=by
 have h:bnd 15 (ptC s cc i)=true:=aP4 hi;simp only [P5,A8,bnd,h,Bool.and_self]
theorem kO_ok (G:Nat→List AV) (B:Nat) {s:Ptb} {cc:Nat} {sl z:List AV} (hfl:Ti sl z) (n:Int) {i:Nat} (hi:i<13):Lj (⟨Try.prog,G,B⟩:A3) (Jc 2300 18 (G5 [.agg (subL (subL (arT s cc) (i*7) 7) 0 6)] (vHp G ((Ab (.var 1 (encV (ptC s cc) s)) (.var 2 sl) (.var 5 z) (.var 3 n) (.var 4 (kidT s n i).length) (.var 24 (rcK 0)) (.var 22 (nl (kidT s n i))))++([some ⟨1,.sub (.var 25 (arT s cc)) (.mul (.var 6 i) 7) (.lit 7)⟩]:DHp)))) (.tst (.var 19 (Bd n (s.at_ i).par)) (.one (.bool (.lit true)) [.app 19 ⟨1,.var 21 (nl (kidT s n i)++[.int .i64 (s.at_ i).num])⟩,.set 16 ⟨1,.of [.slice true (.rw 21) (.lit 0) (.add (.var 4 (kidT s n i).length) (.lit 1))]⟩]) (.one (.bool (.lit true)) []))):=by
 refine lC rfl ?_;have hle:=Fu s n i;have key:=y_k G B (s:=s) (cc:=cc) hfl n (kidT s n i).length (nl (kidT s n i)) (P5 (s.at_ i) (ptC s cc i)) (Qr _).symm (by omega) (L3 0 _) (aN8 hi) (s.at_ i).num (s.at_ i).par (s.at_ i).grp (s.at_ i).usr (s.at_ i).en (s.at_ i).st;have e1:subL (subL (arT s cc) (i*7) 7) 0 6=M3 (s.at_ i):=by rw [Ed hi];rfl
 have e2:(vHp G ((Ab (.var 1 (encV (ptC s cc) s)) (.var 2 sl) (.var 5 z) (.var 3 n) (.var 4 (kidT s n i).length) (.var 24 (rcK 0)) (.var 22 (nl (kidT s n i))))++([some ⟨1,.sub (.var 25 (arT s cc)) (.mul (.var 6 i) 7) (.lit 7)⟩]:DHp)))=Lb s cc sl z n (kidT s n i).length (nl (kidT s n i))++[some (⟨1,P5 (s.at_ i) (ptC s cc i)⟩:Blk)]:=by
  rw [Dw,hK,←Ed hi];rfl
 rw [e1,e2];refine key.mono ?_;rintro v H' ⟨rfl,h1,h2⟩;cases hk:Bd n (s.at_ i).par with
 | true=>
  refine .inl ⟨rfl,rfl,?_⟩;rw [h1 hk];unfold bG Lb Mr;rfl
 | false=>exact .inr ⟨rfl,rfl,by rw [h2 hk];rfl⟩
noncomputable def Fw (s:Ptb) (cc:Nat) (sl z:List AV) (n:Int) (i:Nat):Hp:=Lb s cc sl z n (kidT s n i).length (nl (kidT s n i))
theorem k_loop (G:Nat→List AV) (B:Nat) {s:Ptb} {cc:Nat} {sl z:List AV} (hfl:Ti sl z) (hw:Wf s) (n:Int) :
  AWp (⟨Try.prog,G,B⟩:A3) 19 (.loop (loopN Try.f76 0)) (fl 27 [0,11,12] [.yld 18,.agg (arT s cc),.int .i64 0]) (Fw s cc sl z n 0) (lv 27 [0,11,12] fun e vs H=>e=.exit 0∧wk [.undef,.undef,.undef] vs∧H=Fw s cc sl z n 13):=by
 refine Ko 13 (fun i=>[.yld 18,.agg (arT s cc),.int .i64 (i:Int)]) (Fw s cc sl z n) fun i hi=>?_;have eH:Fw s cc sl z n i=vHp G (Ab (.var 1 (encV (ptC s cc) s)) (.var 2 sl) (.var 5 z) (.var 3 n) (.var 4 (kidT s n i).length) (.var 24 (rcK 0)) (.var 22 (nl (kidT s n i)))):=by unfold Fw Lb;rw [hK]
 rw [eH];have al:=Zs s cc;by_cases him:i<13
 ·refine E2 (C:=(⟨Try.prog,G,B⟩:A3)) (K:=Dr Try.prog [] [] [] [] (Jc 2300 18 (G5 [.agg (subL (subL (arT s cc) (i*7) 7) 0 6)] (vHp G ((Ab (.var 1 (encV (ptC s cc) s)) (.var 2 sl) (.var 5 z) (.var 3 n) (.var 4 (kidT s n i).length) (.var 24 (rcK 0)) (.var 22 (nl (kidT s n i))))++([some ⟨1,.sub (.var 25 (arT s cc)) (.mul (.var 6 i) 7) (.lit 7)⟩]:DHp)))) (.tst (.var 19 (Bd n (s.at_ i).par)) (.one (.bool (.lit true)) [.app 19 ⟨1,.var 21 (nl (kidT s n i)++[.int .i64 (s.at_ i).num])⟩,.set 16 ⟨1,.of [.slice true (.rw 21) (.lit 0) (.add (.var 4 (kidT s n i).length) (.lit 1))]⟩]) (.one (.bool (.lit true)) []))) 19) (At (mix G B) (by kernel_rfl) .nil .nil .none (kO_ok G B hfl n him)) (fuel:=300) (n0:=60) (m:=19) (c:=loopN Try.f76 0)
   (vs:=[.yld 18,.agg (.var 25 (arT s cc)),.int .i64 (.ofN (.var 6 i))]) (H:=(Ab (.var 1 (encV (ptC s cc) s)) (.var 2 sl) (.var 5 z) (.var 3 n) (.var 4 (kidT s n i).length) (.var 24 (rcK 0)) (.var 22 (nl (kidT s n i))))) (by simp [Ab,A2,hp3,fP]) ?_
  rw [k_it];have er:=Ed (s:=s) (cc:=cc) him
  have next:∀ (H':Hp) (E:Hp),kidT s n (i+1)=kidT s n i→H'=Fw s cc sl z n i++E→C8 19 [.yld 18,.agg (arT s cc),.int .i64 ((i+1:Nat):Int)] (Fw s cc sl z n (i+1)) [.yld 18,.agg (arT s cc),.int .i64 ((i+1:Nat):Int)] H':=fun H' E e h=>by
   subst h;have e':Fw s cc sl z n (i+1)=Fw s cc sl z n i:=by unfold Fw;rw [e]
   rw [e'];have hl:(Fw s cc sl z n i).length=20:=by simp [Fw,Lb,Mr,R2]
   refine C8.same (by rw [hl];omega) ?_ ?_
   ·rw [hl];unfold Fw Lb Mr;refine hpB_app (aC hfl (by omega)) ?_;simp only [D7,bm (L3 0 (kidT s n i)),cQ (show 18≤20 by omega),A8,bnd,Bool.and_self,Bool.and_true];rfl
   ·rw [hl];refine ⟨⟨rfl,rfl⟩,⟨?_,rfl⟩,⟨rfl,rfl⟩,trivial⟩
    have:=ar_b s cc 20 (by omega)
    simpa [bnd] using this
  refine ⟨fun h=>⟨decide_eq_true (by omega),h,A6.2 (by rw [al];omega),?_,?_,?_,fun hp=>⟨?_,F5,fun hk=>?_,fun hk=>?_⟩,fun hp=>?_⟩,fun h=>?_⟩
  ·rw [er];unfold ptC;cases s.sg i<;>rfl
  ·rw [er];rfl
  ·rw [er];rfl
  ·rw [er];rfl
  ·have hkb:S5 s n i=true:=by
    rw [er] at hp;unfold S5;rw [show decide (0<(s.at_ i).num)=true from hp,Bool.true_and];exact hk
   have hnum:(s.at_ i).num=(i:Int):=(hw.there (n:=i) (by
    rw [er] at hp
    have:=of_decide_eq_true hp
    have:(s.at_ i).num>0:=this
    omega)).1
   refine ⟨him,.inr ?_⟩;rw [D9 (by omega)];have et:kidT s n (i+1)=kidT s n i++[i]:=by rw [kidT_succ,hkb,if_pos rfl]
   have hl:(Fw s cc sl z n (i+1)).length=20:=by simp [Fw,Lb,Mr,R2]
   have hle:=Fu s n i;refine C8.renM (θ:=[0,1,2,3,4,5,6,7,8,9,10,11,12,13,14]++[15,16,17,18,21]) (by rw [hl];omega) (fun j hj=>?_) (by decide) ?_ ?_ ?_
   ·exact (by decide:∀ i,i<19→([0,1,2,3,4,5,6,7,8,9,10,11,12,13,14]++[15,16,17,18,21]:List Nat).getD i 0=i) j hj
   ·rw [hl];refine Vi hfl (by omega) gK rfl ?_;rw [et];refine ⟨⟨rfl,rfl⟩,⟨rfl,?_⟩,⟨rfl,rfl⟩,⟨cQ (by omega),by rw [rcK_r2];rfl⟩,⟨bm (L3 0 _),?_⟩,trivial⟩
    ·show some (some (⟨1,[.slice true (.rw 21) 0 ((kidT s n i).length+1)]⟩:Blk))=some (some ⟨1,[.slice true (.rw 21) 0 (kidT s n i++[i]).length]⟩);rw [List.length_append];rfl
    ·rw [Oi,Qs];show some (some (⟨1,nl (kidT s n i)++[.int .i64 (s.at_ i).num]⟩:Blk))=some (some ⟨1,nl (kidT s n i)++nl [i]⟩);rw [hnum];rfl
   ·rw [hl]
    have:=ar_b s cc 20 (by omega)
    simp only [A8,bnd,this,Bool.and_self,Bool.and_true];rfl
   ·simp only [rens,ren,Aj gK _ (ar_b s cc 15 (by omega))];simp [wk]
  ·refine ⟨him,.inr ?_⟩;rw [D9 (by omega)];have hk:Bd n (s.at_ i).par=false:=hk;have hkb:S5 s n i=false:=by unfold S5;rw [hk,Bool.and_false]
   refine next _ [some (⟨1,subL (arT s cc) (i*7) 7⟩:Blk)] (by rw [kidT_succ,hkb];simp) ?_;rw [eH];rfl
  ·refine ⟨him,.inr ?_⟩;rw [D9 (by omega)]
   have hkb:S5 s n i=false:=by
    rw [er] at hp;unfold S5;rw [show decide (0<(s.at_ i).num)=false from hp,Bool.false_and]
   refine next _ [some (⟨1,subL (arT s cc) (i*7) 7⟩:Blk)] (by rw [kidT_succ,hkb];simp) ?_;rw [eH];rfl
  ·exact absurd (of_decide_eq_false h) (by omega)
 ·have:i=13:=by omega
  subst this
  refine E2 (C:=(⟨Try.prog,G,B⟩:A3)) (K:=Dr Try.prog [] [] [] [] (Jc 2300 18 (fun _=>false) (.tst (.var 19 false) (.one (.bool (.lit true)) [.app 19 ⟨1,.var 21 []⟩,.set 16 ⟨1,.of [.slice true (.rw 21) (.lit 0) (.add (.var 4 (kidT s n 13).length) (.lit 1))]⟩]) (.one (.bool (.lit true)) []))) 19) (At (mix G B) (by kernel_rfl) .nil .nil .none (fun i args H o ho=>?_)) (fuel:=300) (n0:=60) (m:=19) (c:=loopN Try.f76 0)
   (vs:=[.yld 18,.agg (.var 25 (arT s cc)),.int .i64 (.ofN (.var 6 13))]) (H:=(Ab (.var 1 (encV (ptC s cc) s)) (.var 2 sl) (.var 5 z) (.var 3 n) (.var 4 (kidT s n 13).length) (.var 24 (rcK 0)) (.var 22 (nl (kidT s n 13))))) (by simp [Ab,A2,hp3,fP]) ?_
  ·unfold Jc at ho;split at ho
   ·simp only [Option.some.injEq] at ho;subst ho;intro h;exact absurd h (by simp [vB])
   ·simp at ho
  ·rw [k_it];refine ⟨fun h=>absurd (of_decide_eq_true h) (by omega),fun h=>⟨rfl,by simp [wk],?_⟩⟩;rw [eH];rfl
where
 ar_b (s:Ptb) (cc m:Nat) (h:15≤m):A8 m (arT s cc)=true:=by
  have h2:A8 m (encV (ptC s cc) s)=true:=zR s cc h;rw [I1,List.all_eq_true] at h2 ⊢;intro v hv;refine h2 v ?_;unfold arT subL at hv;exact List.mem_of_mem_drop (List.mem_of_mem_take hv)
end Go.Am
namespace Go.Am
open Go.Proofs Crc
set_option maxRecDepth 100000
def HJd (T S Z:EL) (n:EI) (c:EN) (ys:EL):DHp:=[some ⟨1,T⟩,some ⟨1,.row S (.lit 0)⟩,some ⟨1,.row S (.lit 1)⟩,some ⟨1,.row S (.lit 2)⟩,some ⟨1,.row S (.lit 3)⟩,some ⟨1,.row S (.lit 4)⟩,some ⟨1,.row S (.lit 5)⟩,some ⟨1,.row S (.lit 6)⟩,some ⟨1,.row S (.lit 7)⟩,some ⟨1,.row S (.lit 8)⟩,some ⟨1,.row S (.lit 9)⟩,some ⟨1,.row S (.lit 10)⟩,some ⟨1,.row S (.lit 11)⟩,some ⟨1,.row S (.lit 12)⟩,some ⟨1,Z⟩,some ⟨1,.of [.int .i64 n]⟩,some ⟨1,.of [.slice true (.rw 18) (.lit 0) c]⟩,some ⟨1,.of [.ptr (.rw 0) (.lit 0)]⟩,some ⟨1,ys⟩]
theorem c76 (G:Nat→List AV) (rl:List AV→Bool) (tb sl z rc ys:List AV) (n:Int) (c:Nat) (Q:Ex→List AV→Hp→Prop) (R:AV→Hp→Prop):vT G Q R (D0 (Dr Try.prog [36] [] [E5 2301 (rl) 0 27 [0,11,12] (.one (.exit 0) [.undef,.undef,.undef] (Ab (.var 1 tb) (.var 2 sl) (.var 5 z) (.var 3 n) (.var 4 c) (.var 24 rc) (.var 22 ys)))] [] noY 19) 300 60 Try.f76 [.yld 18,.ptr (.rw 17) (.lit 0)] (hp3 [some ⟨1,.var 1 tb⟩] (.var 2 sl) [some ⟨1,.var 5 z⟩,some ⟨1,.of [.int .i64 (.var 3 n)]⟩,some ⟨1,.of [.nils]⟩,some ⟨1,.of [.ptr (.rw 0) (.lit 0)]⟩,some ⟨4294967291,.var 24 rc⟩]) 20)=(
  isB tb (0)=true∧(A5 tb (0)=true→leB (92) (List.length tb)=true∧(rl) [.agg ([.yld 18,.agg (subL tb (1) (91)),.int .i64 (0)]:List AV),.agg ((Ez [.tup [.int .i64 (1),.agg tb]] sl [.tup [.int .i64 (1),.agg z],.tup [.int .i64 (1),.agg ([.int .i64 (n)]:List AV)],.tup [.int .i64 (1),.agg ([.nils]:List AV)],.tup [.int .i64 (1),.agg ([.ptr (.rw 0) (0)]:List AV)],.tup [.int .i64 (4294967291),.agg rc]]):List AV)]=true∧R (.tup []) ([some ⟨1,tb⟩]++(A2 sl++[some ⟨1,z⟩,some ⟨1,([.int .i64 (n)]:List AV)⟩,some ⟨1,([.slice true (.rw 19) (0) (c)]:List AV)⟩,some ⟨1,([.ptr (.rw 0) (0)]:List AV)⟩,some ⟨4294967291,rc⟩,some ⟨1,ys⟩])))∧(A5 tb (0)=false→R (.tup []) ([some ⟨1,tb⟩]++(A2 sl++[some ⟨1,z⟩,some ⟨1,([.int .i64 (n)]:List AV)⟩,some ⟨1,([.nils]:List AV)⟩,some ⟨1,([.ptr (.rw 0) (0)]:List AV)⟩,some ⟨4294967291,rc⟩])))):=by kernel_rfl
theorem t31 (G:Nat→List AV) (rr:List AV→Bool) (tb sl z ys:List AV) (n:Int) (c:Nat) (Q:Ex→List AV→Hp→Prop) (R:AV→Hp→Prop):vT G Q R (D0 (Dr Try.prog [54] [] [] [E5 2302 (rr) 9 24 [3,5,8] (.one .normal [.ptr (.rw 15) (.lit 0),.ptr (.rw 16) (.lit 0),.func 76 [.ptr (.rw 17) (.lit 0)]] (HJd (.var 1 tb) (.var 2 sl) (.var 5 z) (.var 3 n) (.var 4 c) (.var 22 ys)))] noY 18) 300 60 Try.f31 [.ptr (.rw 0) (.lit 0),.int .i64 (.var 3 n)] (hp3 [some ⟨1,.var 1 tb⟩] (.var 2 sl) [some ⟨1,.var 5 z⟩]) 19)=(
  (rr) [.agg ([.ptr (.rw 15) (0),.ptr (.rw 16) (0),.func 76 [.ptr (.rw 17) (0)]]:List AV),.agg ((Ez [.tup [.int .i64 (1),.agg tb]] sl [.tup [.int .i64 (1),.agg z],.tup [.int .i64 (1),.agg ([.int .i64 (n)]:List AV)],.tup [.int .i64 (1),.agg ([.nils]:List AV)],.tup [.int .i64 (1),.agg ([.ptr (.rw 0) (0)]:List AV)]]):List AV)]=true∧R (.slice true (.rw 18) (0) (c)) ([some ⟨1,tb⟩]++(A2 sl++[some ⟨1,z⟩,some ⟨1,([.int .i64 (n)]:List AV)⟩,some ⟨1,([.slice true (.rw 18) (0) (c)]:List AV)⟩,some ⟨1,([.ptr (.rw 0) (0)]:List AV)⟩,some ⟨1,ys⟩]))):=by kernel_rfl
theorem Vb (p:Nat→AV) (s:Ptb):(encV p s).length=92:=by simp [encV,I2]
theorem bB {k:Nat}:∀ {A A' B B':Hp},He k A A'→He k B B'→He k (A++B) (A'++B')
 | [],[],B,B',_,h=>h
 | none::A,none::A',B,B',h1,h2=>bB (A:=A) (A':=A') h1 h2
 | some b::A,some b'::A',B,B',h1,h2=>⟨h1.1,bB (A:=A) (A':=A') h1.2 h2⟩
 | [],_::_,_,_,h,_=>by simp [He] at h
 | _::_,[],_,_,h,_=>by simp [He] at h
 | none::_,some _::_,_,_,h,_=>by simp [He] at h
 | some _::_,none::_,_,_,h,_=>by simp [He] at h
theorem hBr (G:Nat→List AV) (s:Ptb) (cc:Nat) (sl z:List AV) (n:Int):vHp G (hp3 [some ⟨1,.var 1 (encV (ptC s cc) s)⟩] (.var 2 sl) [some ⟨1,.var 5 z⟩,some ⟨1,.of [.int .i64 (.var 3 n)]⟩,some ⟨1,.of [.nils]⟩,some ⟨1,.of [.ptr (.rw 0) (.lit 0)]⟩,some ⟨4294967291,.var 24 (rcK 0)⟩])=Cw s cc sl z++[some ⟨1,[.int .i64 n]⟩,some ⟨1,[.nils]⟩,some ⟨1,[.ptr (.rw 0) 0]⟩,some ⟨4294967291,rcK 0⟩]:=rfl
theorem aS0 (G:Nat→List AV) (B:Nat) {s:Ptb} {cc:Nat} {sl z:List AV} (hfl:Ti sl z) (hw:Wf s) (n:Int):AWp (⟨Try.prog,G,B⟩:A3) 19 (.loop (loopN Try.f76 0)) (fl 27 [0,11,12] [.yld 18,.agg (arT s cc),.int .i64 0]) (vHp G (hp3 [some ⟨1,.var 1 (encV (ptC s cc) s)⟩] (.var 2 sl) [some ⟨1,.var 5 z⟩,some ⟨1,.of [.int .i64 (.var 3 n)]⟩,some ⟨1,.of [.nils]⟩,some ⟨1,.of [.ptr (.rw 0) (.lit 0)]⟩,some ⟨4294967291,.var 24 (rcK 0)⟩])) (lv 27 [0,11,12] (LOut.post G 19 (.one (.exit 0) [.undef,.undef,.undef] (Ab (.var 1 (encV (ptC s cc) s)) (.var 2 sl) (.var 5 z) (.var 3 n) (.var 4 (kidT s n 13).length) (.var 24 (rcK 0)) (.var 22 (nl (kidT s n 13))))))):=by
 rw [hBr]
 have hn:He (Cw s cc sl z++[some (⟨1,[.int .i64 n]⟩:Blk),some ⟨1,[.nils]⟩,some ⟨1,[.ptr (.rw 0) 0]⟩,some ⟨4294967291,rcK 0⟩]).length (Cw s cc sl z++[some ⟨1,[.int .i64 n]⟩,some ⟨1,[.slice true (.rw 19) 0 0]⟩,some ⟨1,[.ptr (.rw 0) 0]⟩,some ⟨4294967291,rcK 0⟩]) (Cw s cc sl z++[some ⟨1,[.int .i64 n]⟩,some ⟨1,[.nils]⟩,some ⟨1,[.ptr (.rw 0) 0]⟩,some ⟨4294967291,rcK 0⟩]):=by
  have hl:(Cw s cc sl z++[some (⟨1,[.int .i64 n]⟩:Blk),some ⟨1,[.nils]⟩,some ⟨1,[.ptr (.rw 0) 0]⟩,some ⟨4294967291,rcK 0⟩]).length=19:=by simp [R2]
  rw [hl];exact bB (Fq _) ⟨⟨rfl,W4 _⟩,⟨rfl,.inr ⟨rfl,rfl⟩,trivial⟩,⟨rfl,W4 _⟩,⟨rfl,W4 _⟩,trivial⟩
 refine AWp.nil 1 (by simp [R2]) (W4 _) hn ?_
 ·have key:=k_loop G B (cc:=cc) hfl hw n
  have e:Fw s cc sl z n 0=Cw s cc sl z++[some ⟨1,[.int .i64 n]⟩,some ⟨1,[.slice true (.rw 19) 0 0]⟩,some ⟨1,[.ptr (.rw 0) 0]⟩,some ⟨4294967291,rcK 0⟩]++[some ⟨1,[]⟩]:=by
   unfold Fw Lb Mr;rw [List.append_assoc];rfl
  rw [←e];refine key.lmono ?_;rintro ex vs H ⟨rfl,h1,rfl⟩;refine ⟨rfl,.inl ⟨h1,?_⟩⟩;rw [hK];rfl
theorem aH0 (G:Nat→List AV) (B:Nat) {s:Ptb} {cc:Nat} {sl z:List AV} (hfl:Ti sl z) (hw:Wf s) (n:Int):ACalls (⟨Try.prog,G,B⟩:A3) 76 [.yld 18,.ptr (.rw 17) 0] (vHp G (hp3 [some ⟨1,.var 1 (encV (ptC s cc) s)⟩] (.var 2 sl) [some ⟨1,.var 5 z⟩,some ⟨1,.of [.int .i64 (.var 3 n)]⟩,some ⟨1,.of [.nils]⟩,some ⟨1,.of [.ptr (.rw 0) (.lit 0)]⟩,some ⟨4294967291,.var 24 (rcK 0)⟩])) fun v H=>v=.tup []∧H=Fw s cc sl z n 13:=by
 have h:=D3 (C:=(⟨Try.prog,G,B⟩:A3)) (K:=Dr Try.prog [36] [] [E5 0x8FD (G5 [.yld 18,.agg (arT s cc),.int .i64 0] (vHp G (hp3 [some ⟨1,.var 1 (encV (ptC s cc) s)⟩] (.var 2 sl) [some ⟨1,.var 5 z⟩,some ⟨1,.of [.int .i64 (.var 3 n)]⟩,some ⟨1,.of [.nils]⟩,some ⟨1,.of [.ptr (.rw 0) (.lit 0)]⟩,some ⟨4294967291,.var 24 (rcK 0)⟩]))) 0 27 [0,11,12] (.one (.exit 0) [.undef,.undef,.undef] (Ab (.var 1 (encV (ptC s cc) s)) (.var 2 sl) (.var 5 z) (.var 3 n) (.var 4 (kidT s n 13).length) (.var 24 (rcK 0)) (.var 22 (nl (kidT s n 13)))))] [] noY 19) (fuel:=300) (n0:=60) (f:=76) (fn:=Try.f76) (args:=[.yld 18,.ptr (.rw 17) (.lit 0)]) (H:=(hp3 [some ⟨1,.var 1 (encV (ptC s cc) s)⟩] (.var 2 sl) [some ⟨1,.var 5 z⟩,some ⟨1,.of [.int .i64 (.var 3 n)]⟩,some ⟨1,.of [.nils]⟩,some ⟨1,.of [.ptr (.rw 0) (.lit 0)]⟩,some ⟨4294967291,.var 24 (rcK 0)⟩])) (keep:=20)
  (R:=fun v H=>v=.tup []∧H=Fw s cc sl z n 13) (At (mix G B) (by kernel_rfl) .nil (.cast (.cons (i:=0) (by kernel_rfl) rfl (N5 rfl (aS0 G B hfl hw n)) .nil) (by kernel_rfl)) .none Pl) (by kernel_rfl) (by kernel_rfl) (by kernel_rfl) (by
  have:=c76 G (G5 [.yld 18,.agg (arT s cc),.int .i64 0] (vHp G (hp3 [some ⟨1,.var 1 (encV (ptC s cc) s)⟩] (.var 2 sl) [some ⟨1,.var 5 z⟩,some ⟨1,.of [.int .i64 (.var 3 n)]⟩,some ⟨1,.of [.nils]⟩,some ⟨1,.of [.ptr (.rw 0) (.lit 0)]⟩,some ⟨4294967291,.var 24 (rcK 0)⟩]))) (encV (ptC s cc) s) sl z (rcK 0) (nl (kidT s n 13)) n (kidT s n 13).length (fun _ _ _=>False) (fun v H=>v=.tup []∧H=Fw s cc sl z n 13)
  refine Eq.mpr this ⟨rfl,fun _=>⟨A6.2 (by show 92≤(encV (ptC s cc) s).length;rw [Vb];omega),F5,rfl,?_⟩,fun h=>by cases h⟩
  have:=hK G s cc sl z n (kidT s n 13).length (rcK 0) (nl (kidT s n 13))
  exact this)
 have hl:(Fw s cc sl z n 13).length=20:=by simp [Fw,Lb,Mr,R2]
 refine ACalls.keep (k:=20) h ?_ ?_ rfl (by simp)
 ·rw [hl,C0];exact Nat.le_succ 19
 ·rw [hl];unfold Fw Lb Mr;refine hpB_app (aC hfl (by omega)) ?_;simp only [D7,bm (L3 0 (kidT s n 13)),cQ (show 18≤20 by omega),A8,bnd,Bool.and_self,Bool.and_true];rfl
theorem hJ (G:Nat→List AV) (s:Ptb) (cc:Nat) (sl z:List AV) (n:Int) (c:Nat) (ys:List AV):vHp G (HJd (.var 1 (encV (ptC s cc) s)) (.var 2 sl) (.var 5 z) (.var 3 n) (.var 4 c) (.var 22 ys))=Cw s cc sl z++[some ⟨1,[.int .i64 n]⟩,some ⟨1,[.slice true (.rw 18) 0 c]⟩,some ⟨1,[.ptr (.rw 0) 0]⟩,some ⟨1,ys⟩]:=rfl
theorem k_rng (G:Nat→List AV) (B:Nat) {s:Ptb} {cc:Nat} {sl z:List AV} (hfl:Ti sl z) (hw:Wf s) (n:Int):AWp (⟨Try.prog,G,B⟩:A3) 18 (loopN Try.f31 0) F0k (vHp G (hp3 [some ⟨1,.var 1 (encV (ptC s cc) s)⟩] (.var 2 sl) [some ⟨1,.var 5 z⟩,some ⟨1,.of [.int .i64 (.var 3 n)]⟩,some ⟨1,.of [.nils]⟩,some ⟨1,.of [.ptr (.rw 0) (.lit 0)]⟩])) (lv 24 [3,5,8] (LOut.post G 18 (.one .normal [.ptr (.rw 15) (.lit 0),.ptr (.rw 16) (.lit 0),.func 76 [.ptr (.rw 17) (.lit 0)]] (HJd (.var 1 (encV (ptC s cc) s)) (.var 2 sl) (.var 5 z) (.var 3 n) (.var 4 (kidT s n 13).length) (.var 22 (nl (kidT s n 13))))))):=by
 rw [N31_eq];refine AWp.rng (f:=76) (cap:=[.ptr (.rw 17) 0]) (by rw [C0];exact Nat.le_refl 18) (by kernel_rfl) ?_;refine (aH0 G B (cc:=cc) hfl hw n).monoK ?_;rintro v H ⟨rfl,rfl⟩;refine ⟨rfl,.inr ?_⟩;rw [hJ];have hl:(Cw s cc sl z++[some (⟨1,[.int .i64 n]⟩:Blk),some ⟨1,[.slice true (.rw 18) 0 (kidT s n 13).length]⟩,some ⟨1,[.ptr (.rw 0) 0]⟩,some ⟨1,nl (kidT s n 13)⟩]).length=19:=by simp [R2]
 refine C8.renM (θ:=[0,1,2,3,4,5,6,7,8,9,10,11,12,13,14]++[15,16,17,19]) (by rw [hl];omega) (fun j hj=>?_) (by decide) ?_ ?_ ?_
 ·exact (by decide:∀ i,i<18→([0,1,2,3,4,5,6,7,8,9,10,11,12,13,14]++[15,16,17,19]:List Nat).getD i 0=i) j hj
 ·rw [hl];refine Vi hfl (by omega) gK rfl ?_;exact ⟨⟨rfl,rfl⟩,⟨rfl,rfl⟩,⟨rfl,rfl⟩,⟨bm (L3 0 _),by rw [Oi];rfl⟩,trivial⟩
 ·rw [hl];rfl
 ·exact ⟨rfl,rfl,rfl,trivial⟩
theorem dg31 (G:Nat→List AV) (B:Nat) {s:Ptb} {cc:Nat} {sl z:List AV} (hfl:Ti sl z) (hw:Wf s) (n:Int):I9 (⟨Try.prog,G,B⟩:A3) (Dr Try.prog [54] [] [] [E5 0x8FE (G5 [.ptr (.rw 15) 0,.ptr (.rw 16) 0,.func 76 [.ptr (.rw 17) 0]] (vHp G (hp3 [some ⟨1,.var 1 (encV (ptC s cc) s)⟩] (.var 2 sl) [some ⟨1,.var 5 z⟩,some ⟨1,.of [.int .i64 (.var 3 n)]⟩,some ⟨1,.of [.nils]⟩,some ⟨1,.of [.ptr (.rw 0) (.lit 0)]⟩]))) 9 24 [3,5,8] (.one .normal [.ptr (.rw 15) (.lit 0),.ptr (.rw 16) (.lit 0),.func 76 [.ptr (.rw 17) (.lit 0)]] (HJd (.var 1 (encV (ptC s cc) s)) (.var 2 sl) (.var 5 z) (.var 3 n) (.var 4 (kidT s n 13).length) (.var 22 (nl (kidT s n 13)))))] noY 18) (loopsOf (bodyOf Try.f31)):=by
 rw [show loopsOf (bodyOf Try.f31)=[loopN Try.f31 0] by kernel_rfl];exact At (mix G B) (by kernel_rfl) .nil (.skip (by kernel_rfl) .nil) (.cons (i:=9) (by kernel_rfl) rfl (Ya rfl (k_rng G B hfl hw n)) .nil) Pl
theorem wZ (G:Nat→List AV) (B:Nat) {s:Ptb} {cc:Nat} {sl z:List AV} (hfl:Ti sl z) (hw:Wf s) (n:Int):ACalls (⟨Try.prog,G,B⟩:A3) 31 [.ptr (.rw 0) 0,.int .i64 n] (Cw s cc sl z) fun v H'=>v=.slice true (.rw 15) 0 (kidT s n 13).length∧H'=Cw s cc sl z++[some ⟨1,nl (kidT s n 13)⟩]:=by
 have h:=D3 (C:=(⟨Try.prog,G,B⟩:A3)) (K:=Dr Try.prog [54] [] [] [E5 0x8FE (G5 [.ptr (.rw 15) 0,.ptr (.rw 16) 0,.func 76 [.ptr (.rw 17) 0]] (vHp G (hp3 [some ⟨1,.var 1 (encV (ptC s cc) s)⟩] (.var 2 sl) [some ⟨1,.var 5 z⟩,some ⟨1,.of [.int .i64 (.var 3 n)]⟩,some ⟨1,.of [.nils]⟩,some ⟨1,.of [.ptr (.rw 0) (.lit 0)]⟩]))) 9 24 [3,5,8] (.one .normal [.ptr (.rw 15) (.lit 0),.ptr (.rw 16) (.lit 0),.func 76 [.ptr (.rw 17) (.lit 0)]] (HJd (.var 1 (encV (ptC s cc) s)) (.var 2 sl) (.var 5 z) (.var 3 n) (.var 4 (kidT s n 13).length) (.var 22 (nl (kidT s n 13)))))] noY 18) (fuel:=300) (n0:=60) (f:=31) (fn:=Try.f31) (args:=[.ptr (.rw 0) (.lit 0),.int .i64 (.var 3 n)]) (H:=(hp3 [some ⟨1,.var 1 (encV (ptC s cc) s)⟩] (.var 2 sl) [some ⟨1,.var 5 z⟩])) (keep:=19)
  (R:=fun v H=>v=.slice true (.rw 18) 0 (kidT s n 13).length∧H=vHp G (HJd (.var 1 (encV (ptC s cc) s)) (.var 2 sl) (.var 5 z) (.var 3 n) (.var 4 (kidT s n 13).length) (.var 22 (nl (kidT s n 13))))) (dg31 G B hfl hw n) (by kernel_rfl) (by kernel_rfl) (by kernel_rfl) (by
  have:=t31 G (G5 [.ptr (.rw 15) 0,.ptr (.rw 16) 0,.func 76 [.ptr (.rw 17) 0]] (vHp G (hp3 [some ⟨1,.var 1 (encV (ptC s cc) s)⟩] (.var 2 sl) [some ⟨1,.var 5 z⟩,some ⟨1,.of [.int .i64 (.var 3 n)]⟩,some ⟨1,.of [.nils]⟩,some ⟨1,.of [.ptr (.rw 0) (.lit 0)]⟩]))) (encV (ptC s cc) s) sl z (nl (kidT s n 13)) n (kidT s n 13).length (fun _ _ _=>False) (fun v H=>v=.slice true (.rw 18) 0 (kidT s n 13).length∧H=vHp G (HJd (.var 1 (encV (ptC s cc) s)) (.var 2 sl) (.var 5 z) (.var 3 n) (.var 4 (kidT s n 13).length) (.var 22 (nl (kidT s n 13)))))
  exact Eq.mpr this ⟨F5,rfl,rfl⟩)
 rw [show vHp G (hp3 [some ⟨1,.var 1 (encV (ptC s cc) s)⟩] (.var 2 sl) [some ⟨1,.var 5 z⟩])=Cw s cc sl z from rfl] at h;refine h.view fun v H' ⟨e1,e2⟩=>⟨_,_,⟨rfl,rfl⟩,?_⟩;subst e1;rw [hJ] at e2;have e3:H'=(Cw s cc sl z++[some (⟨1,[.int .i64 n]⟩:Blk),some ⟨1,[.slice true (.rw 18) 0 (kidT s n 13).length]⟩,some ⟨1,[.ptr (.rw 0) 0]⟩,some ⟨1,nl (kidT s n 13)⟩])++H'.drop 19:=by rw [←e2,List.take_append_drop]
 have hl:(Cw s cc sl z++[some (⟨1,nl (kidT s n 13)⟩:Blk)]).length=16:=by simp [R2]
 rw [R2];refine C8.renM (θ:=[0,1,2,3,4,5,6,7,8,9,10,11,12,13,14]++[18]) (by rw [hl];omega) (fun j hj=>?_) (by decide) ?_ ?_ ?_
 ·exact (by decide:∀ i,i<15→([0,1,2,3,4,5,6,7,8,9,10,11,12,13,14]++[18]:List Nat).getD i 0=i) j hj
 ·rw [hl];refine Vi hfl (by omega) gK ?_ ⟨⟨bm (L3 0 _),?_⟩,trivial⟩
  ·rw [e3,List.append_assoc,List.take_left' R2]
  ·rw [Oi,e3,List.append_assoc,List.getElem?_append_right (by rw [R2];omega),R2];rfl
 ·rw [hl];rfl
 ·exact ⟨rfl,trivial⟩
end Go.Am
namespace Go.Am
open Go.Proofs Crc
set_option maxRecDepth 100000
theorem ACalls.pad {C:A3} {f:FuncId} {args:List AV} {H:Hp} {K:AV→Hp→Prop} (e:Nat) (h:ACalls C f args (H++[some ⟨e,[]⟩]) K):ACalls C f args H K:=by
 refine ⟨h.1,fun ρ w cargs hH hv=>(h.2 (ρ.push none) w cargs (fV e (Fq H) hH) (VRs.mono (Env.le_push ρ none) _ _ hv)).mono ?_⟩;rintro ex w' ⟨v,cv,ρ',H',rfl,h2,h3,h4,h5,h6⟩;have hl:=Env.le_push ρ none;exact ⟨v,cv,ρ',H',rfl,h2,⟨fun i x hx=>h3.1 i x (hl.1 i x hx),fun i b d h=>h3.2 i b d (hl.2 i b d h),fun D hD=>h3.3 D (hl.3 D hD)⟩,h4,h5,fW.trans h6⟩
def Nc (s:Ptb) (cc:Nat) (sl:List AV):Hp:=some ⟨1,encV (ptC s cc) s⟩::(List.range 13).map (fun n=>some ⟨1,A1 sl n⟩)
theorem Cx {s:Ptb} {cc:Nat} {sl:List AV}:(Nc s cc sl).length=14:=by simp [Nc]
theorem pM (s:Ptb) (cc:Nat) (sl z:List AV):Cw s cc sl z=Nc s cc sl++[some ⟨1,z⟩]:=by simp [Cw,Nc]
theorem zC {s:Ptb} {cc:Nat} {sl:List AV} (hc:13≤cc) (hf:∀ n,n<13→A8 0 (A1 sl n)=true) {i:Nat} {b:Blk} (hb:(Nc s cc sl)[i]?=some (some b)):A8 14 b.cells=true:=by
 have hi:=(List.getElem?_eq_some_iff.1 hb).1;rw [Cx] at hi;unfold Nc at hb;by_cases h0:i=0
 ·subst h0;simp only [List.getElem?_cons_zero,Option.some.injEq] at hb;subst hb;refine tsP_ok.bnd 14 (ptC s cc) s fun n hn=>?_;unfold ptC;split
  ·rfl
  ·have:(if n=cc then 14 else 1+n)<14:=by rw [if_neg (by omega)];omega
   simpa [bnd] using this
 ·obtain ⟨n,rfl⟩:∃ n,i=n+1:=⟨i - 1,by omega⟩;rw [List.getElem?_cons_succ,List.getElem?_map,List.getElem?_range (by omega)] at hb;simp only [Option.map_some,Option.some.injEq] at hb;subst hb;exact C6 (Nat.zero_le _) _ (hf n (by omega))
section
variable {G:Nat→List AV} {B:Nat}
theorem mQ {s:Ptb} {cc:Nat} {sl:List AV} (hc:13≤cc) (hf:∀ n,n<13→A8 0 (A1 sl n)=true) (hw:Wf s) (n:Int) :
  ACalls (⟨Try.prog,G,B⟩:A3) 31 [.ptr (.rw 0) 0,.int .i64 n] (Nc s cc sl) fun v H'=>v=.slice true (.rw 14) 0 (kidT s n 13).length∧H'=Nc s cc sl++[some ⟨1,nl (kidT s n 13)⟩]:=by
 have h:=wZ G B (s:=s) (cc:=cc) (sl:=sl) (z:=[]) ⟨hf,rfl⟩ hw n;rw [pM] at h;have h:=ACalls.pad 1 h;refine h.view fun v H' ⟨e1,e2⟩=>⟨_,_,⟨rfl,rfl⟩,?_⟩;subst e1 e2;have hl:(Nc s cc sl++[some (⟨1,nl (kidT s n 13)⟩:Blk)]).length=15:=by simp [Cx]
 rw [Cx]
 let θ:List Nat:=[0,1,2,3,4,5,6,7,8,9,10,11,12,13,15]
 have fx:∀ i,i<14→θ.getD i 0=i:=(by decide:∀ i,i<14→([0,1,2,3,4,5,6,7,8,9,10,11,12,13,15]:List Nat).getD i 0=i);refine ⟨θ,by rw [hl];rfl,by rw [hl];omega,fx,fun i hi=>?_,fun i j b b' h1 h2 he=>?_,fun i b hb=>?_,rfl,fun k w hk=>?_⟩
 ·have hi:i<15:=hi
  have:∀ i,i<15→([0,1,2,3,4,5,6,7,8,9,10,11,12,13,15]:List Nat).getD i 0<16:=by decide
  have:=this i hi
  simp only [List.length_append,Cx,List.length_cons,List.length_nil];exact this
 ·have hi:=(List.getElem?_eq_some_iff.1 h1).1;have hj:=(List.getElem?_eq_some_iff.1 h2).1;rw [hl] at hi hj
  have:∀ i,i<15→∀ j,j<15→([0,1,2,3,4,5,6,7,8,9,10,11,12,13,15]:List Nat).getD i 0=([0,1,2,3,4,5,6,7,8,9,10,11,12,13,15]:List Nat).getD j 0→i=j:=by decide
  exact this i hi j hj he
 ·have hi:=(List.getElem?_eq_some_iff.1 hb).1;rw [hl] at hi;by_cases h14:i<14
  ·rw [List.getElem?_append_left (by rw [Cx];exact h14)] at hb;rw [fx i h14];have hbn:=zC hc hf hb;refine ⟨b,by rw [List.append_assoc,List.getElem?_append_left (by rw [Cx];exact h14)];exact hb,Nat.le_refl _,rfl,fun k w hk=>?_,fun _=>⟨rfl,?_⟩⟩
   ·rw [I1,List.all_eq_true] at hbn
    have:=hbn w (List.mem_of_getElem? hk)
    exact ⟨O0 (by show 14≤15;omega) _ this,.inr (by rw [fS fx w this];exact hk)⟩
   ·cases hc:b.cells with
    | nil=>rfl
    | cons x l=>
     rw [hc] at hbn;simp only [A8,Bool.and_eq_true] at hbn;simp only [List.head?_cons,Option.map_some,fS fx x hbn.1]
  ·have:i=14:=by omega
   subst this;rw [List.getElem?_append_right (by rw [Cx];omega),Cx] at hb;simp only [Nat.sub_self,List.getElem?_cons_zero,Option.some.injEq] at hb;subst hb;refine ⟨⟨1,nl (kidT s n 13)⟩,?_,Nat.le_refl _,Cv rfl rfl fun k w hk=>?_⟩
   ·show (Nc s cc sl++[some ⟨1,[]⟩]++[some ⟨1,nl (kidT s n 13)⟩])[15]?=_;rw [List.append_assoc,List.getElem?_append_right (by rw [Cx];omega),Cx];rfl
   ·obtain ⟨a1,a2⟩:=Nv (L3 0 (kidT s n 13)) θ hk;exact ⟨a1,by rw [a2];exact hk⟩
 ·cases k with
  | zero=>simp at hk;subst hk;exact ⟨rfl,.inr rfl⟩
  | succ k=>simp at hk
end
theorem Kx {s:Ptb} {n:Int} {i c:Nat} (h:c∈kidT s n i):c<i∧0<(s.at_ c).num∧1≤n∧(s.at_ c).par=n:=by
 unfold kidT at h;rw [List.mem_filter] at h;obtain ⟨h1,h2⟩:=h;unfold S5 Bd at h2;simp only [Bool.and_eq_true,decide_eq_true_eq,beq_iff_eq] at h2;exact ⟨List.mem_range.1 h1,h2.1,h2.2.1,h2.2.2⟩
theorem Ul {s:Ptb} (hw:Wf s) {n:Int} {i c:Nat} (h:c∈kidT s n i):c≠1:=by
 obtain ⟨_,_,h3,h4⟩:=Kx h;intro e;subst e
 have:=hw.one.2
 omega
def I6 (s:Ptb) (n w:Int):(Int×Int×Bool×Int)×Ptb:=
 if live s n=true then
  if w≠-1∧(w<1∨12<w) then ((0,0,false,2),s)
  else match (kidT s n 13).find? (E4 s w) with
   | some c=>(((c:Int),(s.at_ c).st,false,0),J2 s c)
   | none=>if (kidT s n 13).any (L0 w)=true then ((0,0,true,0),s) else ((0,0,false,6),s)
 else ((0,0,false,6),s)
theorem Wf.waitX {s:Ptb} (h:Wf s) (n w:Int):Wf (I6 s n w).2:=by
 unfold I6;split
 ·split
  ·exact h
  ·split
   ·rename_i c e;exact h.free (Ul h (List.mem_of_find?_eq_some e))
   ·split<;>exact h
 ·exact h
def kidBC (z:Nat) (l:List AV) (n:Int) (c:Nat):Bool:=decide (0<A0 l (c*z+1))&&Bd n (A0 l (c*z+2))
def Za (l:List AV) (n:Int):List Nat:=(List.range 13).filter (kidBC 7 l n)
theorem Ky {p:Nat→AV} {s:Ptb} {n:Int}:Za (encV p s) n=kidT s n 13:=by
 unfold Za kidT;refine List.filter_congr fun c hc=>?_;have hc:=List.mem_range.1 hc
 have g:∀ k,k<7→(encV p s)[c*7+(k+1)]?=some (fcell (s.at_ c) (p c) k):=fun k hk=>by
  unfold encV;rw [show c*7+(k+1)=(c*7+k)+1 by omega,List.getElem?_cons_succ,R8 hc hk]
 unfold kidBC S5;have g0:=g 0 (by omega);have g1:=g 1 (by omega);simp only [Nat.zero_add,Nat.reduceAdd] at g0 g1;simp only [A0,g0,g1,fcell]
def X6:List AV→Nat:=fun vs=>match vs with
 | [.agg l,.int _ n]=>(Za l n).length
 | _=>0
def En:List AV→List AV:=fun vs=>match vs with
 | [.agg l,.int _ n]=>nl (Za l n)
 | _=>[]
open Classical in
noncomputable def Nq:List AV→Bool:=fun vs=>match vs with
 | [.agg l,.agg L,.agg z]=>decide (∃ s cc,Wf s∧l=encV (ptC s cc) s∧Ti L z)
 | _=>false
open Classical in
noncomputable def Ua:List AV→Bool:=fun vs=>match vs with
 | [.agg l,.agg L]=>decide (∃ s,Wf s∧l=encV (ptC s 13) s∧∀ n,n<13→A8 0 (A1 L n)=true)
 | _=>false
def kP (k15 k14:List AV→Bool):DSum:=fun (args:List EV) (H:List (Option DBlk))=>match args with
 | [.ptr (.rw 0) (.lit 0),.int .i64 n]=>match H[(0:Nat)]? with
  | some (some ⟨1,l⟩)=>match Gu H 1 13 with
   | some (z1,L,ls)=>match Nat.beq z1 1 with
    | true=>match H[(14:Nat)]? with
     | some (some ⟨1,z⟩)=>some (.chk (.rows L ls) (.chk (.uf 2310 k15 [.agg l,.agg L,.agg z]) (.one (.slice true (.rw H.length) (.lit 0) (.uf 2311 X6 [.agg l,.int .i64 n])) [.new ⟨1,.uf 2312 En [.agg l,.int .i64 n]⟩])))
     | none=>some (.chk (.rows L ls) (.chk (.uf 2313 k14 [.agg l,.agg L]) (.one (.slice true (.rw H.length) (.lit 0) (.uf 2311 X6 [.agg l,.int .i64 n])) [.new ⟨1,.uf 2312 En [.agg l,.int .i64 n]⟩])))
     | _=>none
    | false=>none
   | none=>none
  | _=>none
 | _=>none
noncomputable def kidsS:DSum:=kP Nq Ua
theorem iS {l L z:List AV}:Nq [.agg l,.agg L,.agg z]=true↔∃ s cc,Wf s∧l=encV (ptC s cc) s∧Ti L z:=by
 unfold Nq;simp only [decide_eq_true_eq]
theorem iT {l L:List AV}:Ua [.agg l,.agg L]=true↔∃ s,Wf s∧l=encV (ptC s 13) s∧∀ n,n<13→A8 0 (A1 L n)=true:=by
 unfold Ua;simp only [decide_eq_true_eq]
theorem tB {n i:Nat} (h:i<n):(List.range n).getD i 0=i:=by simp [List.getD,h]
theorem E1.readN {C:A3} {f:FuncId} {args0:List AV} {args:List EV} {H:DHp} {k:Nat} {H0:Hp} {v0:AV} {v:EV} {b:DBlk} (hk:H0.length=k) (hH:(vHp C.G H).take k=H0) (hlv:∀ (i:Nat) b,H0[i]?=some b→∃ b0,b=some b0∧A8 k b0.cells=true)
  (ha:A8 k args0=true) (he:vVs C.G args=args0) (h:ACalls C f args0 H0 fun v' H'=>v'=v0∧H'=H0++[some (C9 C.G b)]) (hb0:A8 0 (C9 C.G b).cells=true) (hv0:bnd (k+1) v0=true) (hv:vV C.G v=ren (J0 (List.range k) H.length 1) v0):E1 C f args H v [.new b]:=by
 have fx:∀ i,i<k→(List.range k).getD i 0=i:=fun i hi=>tB hi
 have at0:∀ (i:Nat) b,H0[i]?=some b→(vHp C.G H)[i]?=some b:=fun i b hb=>by
  rw [←hH,List.getElem?_take] at hb;split at hb
  ·exact hb
  ·cases hb
 refine E1.fr (θ:=List.range k) (H0:=H0) (H1:=H0++[some (C9 C.G b)]) List.nodup_range (by simp [hk]) (fun i b hb=>?_) (by simpa using ha) (by rw [he,Aj fx _ ha]) h (by simp) (by simpa [hk] using hv0) ?_ (by rw [hv];simp [hk]) ?_
 ·obtain ⟨b0,rfl,h1⟩:=hlv i b hb;have hi:=(List.getElem?_eq_some_iff.1 hb).1;refine ⟨b0,rfl,by simpa using h1,?_⟩;rw [fx i (by omega),at0 i _ hb];simp only [F9,Aj fx _ h1]
 ·refine hpB_app ?_ (by simp only [D7,C6 (Nat.zero_le _) _ hb0,Bool.and_self])
  have:∀ {H:Hp} {m:Nat},(∀ (i:Nat) b,H[i]?=some b→∃ b0,b=some b0∧A8 m b0.cells=true)→D7 m H=true:=by
   intro H m h
   induction H with
   | nil=>rfl
   | cons b H ih=>
    obtain ⟨b0,rfl,h1⟩:=h 0 b rfl;simp only [D7,h1,Bool.true_and];exact ih fun i b hb=>h (i+1) b hb
  refine this fun i b hb=>?_;obtain ⟨b0,e,h1⟩:=hlv i b hb;exact ⟨b0,e,C6 (by simp [hk]) _ h1⟩
 ·unfold L4;have e1:(H0++[some (C9 C.G b)]).length - (List.range k).length=1:=by simp [hk]
  have e2:(H0++[some (C9 C.G b)]).drop (List.range k).length=[some (C9 C.G b)]:=by rw [List.length_range,←hk,List.drop_left' rfl]
  rw [e1,e2]
  have fw:∀ i,i<k→(J0 (List.range k) (vHp C.G H).length 1).getD i 0=i:=fun i hi=>by
   unfold J0;simp only [List.getD];rw [List.getElem?_append_left (by simpa using hi)];simp [hi]
  have e3:lay (J0 (List.range k) (vHp C.G H).length 1) (List.range k) (H0++[some (C9 C.G b)]) (vHp C.G H)=vHp C.G H:=by
   refine lay_self _ _ _ _ fun i b hb hi=>?_;have hi:i<k:=by simpa using hi
   rw [List.getElem?_append_left (by omega)] at hb;obtain ⟨b0,rfl,h1⟩:=hlv i b hb;rw [fx i hi,at0 i _ hb];simp only [K7,Option.map_some,F9,Aj fw _ h1]
  rw [e3];simp only [List.map_cons,List.map_nil,acts,G2,Hop.act,K7,Option.map_some,F9];rw [E0 _ _ hb0]
where
 lay_self (θ':List Nat):∀ (js:List Nat) (bs:List (Option Blk)) (H:Hp),(∀ (k:Nat) b,bs[k]?=some b→k<js.length→H[js.getD k 0]?=some (K7 θ' b))→lay θ' js bs H=H
  | [],bs,H,h=>by cases bs<;>simp [lay]
  | j::js,[],H,h=>by simp [lay]
  | j::js,b::bs,H,h=>by
   simp only [lay];have h0:=h 0 b rfl (by simp)
   have e:H.set j (K7 θ' b)=H:=by
    have hj:H[j]?=some (K7 θ' b):=h0;obtain ⟨hlt,e⟩:=List.getElem?_eq_some_iff.1 hj;rw [←e];exact List.set_getElem_self hlt
   rw [e];exact lay_self θ' js bs H fun k b hk hl=>h (k+1) b hk (by simpa using hl)
theorem fam14 {G:Nat→List AV} {H:DHp} {l L:EL} {ls:List EV} (h0:H[0]?=some (some ⟨1,l⟩)) (hf:Gu H 1 13=some (1,L,ls)) (hr:rowsA (vL G L) (vVs G ls)=true):(vHp G H).take 14=some ⟨1,vL G l⟩::(List.range 13).map fun n=>some ⟨1,A1 (vL G L) n⟩:=by
 have a0:=M0 (G:=G) h0;refine List.ext_getElem? fun i=>?_;by_cases hi:i<14
 ·rw [List.getElem?_take,if_pos hi];cases i with
  | zero=>rw [a0];rfl
  | succ n=>
   have:=Mu hf hr (i:=n) (by omega)
   rw [Nat.add_comm 1 n] at this;rw [this,List.getElem?_cons_succ,List.getElem?_map,List.getElem?_range (by omega)];rfl
 ·rw [List.getElem?_eq_none (by rw [List.length_take];omega),List.getElem?_eq_none (by simp;omega)]
theorem nL (G:Nat→List AV) (B:Nat):G0 (⟨Try.prog,G,B⟩:A3) 31 kidsS:=by
  intro args H o ho;unfold kidsS kP at ho;split at ho
  · rename_i n;split at ho
    · rename_i l h0;split at ho
      · rename_i z1 L ls hf;split at ho
        · rename_i hz;have hz:=Nat.eq_of_beq_eq_true hz;subst hz;split at ho
          · rename_i z h14;simp only [Option.some.injEq] at ho;subst ho;intro hr h1;have hr:rowsA (vL G L) (vVs G ls)=true:=hr;have h1:Nq [.agg (vL G l),.agg (vL G L),.agg (vL G z)]=true:=h1;obtain ⟨s,cc,hw,e,hfl⟩:=iS.1 h1;have t14:=fam14 (G:=G) h0 hf hr
            have t15:(vHp G H).take 15=Cw s cc (vL G L) (vL G z):=by
              have a14:=M0 (G:=G) h14;rw [List.take_add_one,t14,a14,pM];unfold Nc;rw [e];rfl
            have key:=wZ G B (s:=s) (cc:=cc) hfl hw (vI G n);rw [← Ky (p := ptC s cc), ← e] at key
            exact E1.readN (C:=⟨Try.prog,G,B⟩) (b:=⟨1,.uf 2312 En [.agg l,.int .i64 n]⟩) (v0:=.slice true (.rw 15) 0 (Za (vL G l) (vI G n)).length) R2 t15 (fun i b hb=>by
              have hi:=(List.getElem?_eq_some_iff.1 hb).1
              obtain ⟨b0,rfl⟩:∃ b0,b=some b0:=by
                rw [pM] at hb;unfold Nc at hb;cases i with
                | zero=>simp at hb;exact ⟨_,hb.symm⟩
                | succ i=>
                  rw [List.cons_append,List.getElem?_cons_succ] at hb;rcases List.mem_append.1 (List.mem_of_getElem? hb) with h | h
                  · obtain ⟨j,_,rfl⟩:=List.mem_map.1 h;exact ⟨_,rfl⟩
                  · simp at h;exact ⟨_,h⟩
              exact ⟨b0,rfl,fG hfl hb⟩) rfl rfl key (L3 0 _) (by simp [bnd]) (by simp [vV,vR,vN,ren,J0,List.getD,X6,vVs])
          · rename_i h14;simp only [Option.some.injEq] at ho;subst ho;intro hr h1;have hr:rowsA (vL G L) (vVs G ls)=true:=hr;have h1:Ua [.agg (vL G l),.agg (vL G L)]=true:=h1;obtain ⟨s,hw,e,hfl⟩:=iT.1 h1;have t14:=fam14 (G:=G) h0 hf hr;have t15:(vHp G H).take 14=Nc s 13 (vL G L):=by rw [t14];unfold Nc;rw [e]
            have key:=mQ (G:=G) (B:=B) (s:=s) (cc:=13) (Nat.le_refl 13) hfl hw (vI G n);rw [← Ky (p := ptC s 13), ← e] at key
            exact E1.readN (C:=⟨Try.prog,G,B⟩) (b:=⟨1,.uf 2312 En [.agg l,.int .i64 n]⟩) (v0:=.slice true (.rw 14) 0 (Za (vL G l) (vI G n)).length) Cx t15 (fun i b hb=>by
              obtain ⟨b0,rfl⟩:∃ b0,b=some b0:=by
                unfold Nc at hb;cases i with
                | zero=>simp at hb;exact ⟨_,hb.symm⟩
                | succ i=>
                  rw [List.getElem?_cons_succ] at hb;obtain ⟨j,_,rfl⟩:=List.mem_map.1 (List.mem_of_getElem? hb);exact ⟨_,rfl⟩
              exact ⟨b0,rfl,zC (Nat.le_refl 13) hfl hb⟩) rfl rfl key (L3 0 _) (by simp [bnd]) (by simp [vV,vR,vN,ren,J0,List.getD,X6,vVs])
          · simp at ho
        · simp at ho
      · simp at ho
    · simp at ho
  · simp at ho
end Go.Am
