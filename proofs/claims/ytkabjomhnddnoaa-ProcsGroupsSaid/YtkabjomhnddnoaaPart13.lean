/-
  Processes: the program's Children: the call. Processes: the program's Children, as it is told in its other calls.
-/
import Derived.Test.YtkabjomhnddnoaaPart12
namespace Go.Am
open Go.Proofs Crc
set_option maxRecDepth 100000
def HJd (T S Z:EL) (n:EI) (c:EN) (ys:EL):DHp:=[some ⟨1,T⟩,some ⟨1,.row S (.lit 0)⟩,some ⟨1,.row S (.lit 1)⟩,some ⟨1,.row S (.lit 2)⟩,some ⟨1,.row S (.lit 3)⟩,some ⟨1,.row S (.lit 4)⟩,some ⟨1,.row S (.lit 5)⟩,some ⟨1,.row S (.lit 6)⟩,some ⟨1,.row S (.lit 7)⟩,some ⟨1,.row S (.lit 8)⟩,some ⟨1,.row S (.lit 9)⟩,some ⟨1,.row S (.lit 10)⟩,some ⟨1,.row S (.lit 11)⟩,some ⟨1,.row S (.lit 12)⟩,some ⟨1,Z⟩,some ⟨1,.of [.int .i64 n]⟩,some ⟨1,.of [.slice true (.rw 18) (.lit 0) c]⟩,some ⟨1,.of [.ptr (.rw 0) (.lit 0)]⟩,some ⟨1,ys⟩]
theorem c76 (G:Nat→List AV) (rl:List AV→Bool) (tb sl z rc ys:List AV) (n:Int) (c:Nat) (Q:Ex→List AV→Hp→Prop) (R:AV→Hp→Prop):vT G Q R (dcall (Dr Try.prog [36] [] [DLat 2301 (rl) 0 27 [0,11,12] (.one (.exit 0) [.undef,.undef,.undef] (HKd (.var 1 tb) (.var 2 sl) (.var 5 z) (.var 3 n) (.var 4 c) (.var 24 rc) (.var 22 ys)))] [] noY 19) 300 60 Try.f76 [.yld 18,.ptr (.rw 17) (.lit 0)] (hp3 [some ⟨1,.var 1 tb⟩] (.var 2 sl) [some ⟨1,.var 5 z⟩,some ⟨1,.of [.int .i64 (.var 3 n)]⟩,some ⟨1,.of [.nils]⟩,some ⟨1,.of [.ptr (.rw 0) (.lit 0)]⟩,some ⟨4294967291,.var 24 rc⟩]) 20)=(
  isB tb (0)=true∧
 (getB tb (0)=true→
 leB (92) (List.length tb)=true∧
 (rl) [.agg ([.yld 18,.agg (subL tb (1) (91)),.int .i64 (0)]:List AV),.agg ((tp3 [.tup [.int .i64 (1),.agg tb]] sl [.tup [.int .i64 (1),.agg z],.tup [.int .i64 (1),.agg ([.int .i64 (n)]:List AV)],.tup [.int .i64 (1),.agg ([.nils]:List AV)],.tup [.int .i64 (1),.agg ([.ptr (.rw 0) (0)]:List AV)],.tup [.int .i64 (4294967291),.agg rc]]):List AV)]=true∧
 R (.tup []) ([some ⟨1,tb⟩]++(rows13 sl++[some ⟨1,z⟩,some ⟨1,([.int .i64 (n)]:List AV)⟩,some ⟨1,([.slice true (.rw 19) (0) (c)]:List AV)⟩,some ⟨1,([.ptr (.rw 0) (0)]:List AV)⟩,some ⟨4294967291,rc⟩,some ⟨1,ys⟩])))∧
 (getB tb (0)=false→
 R (.tup []) ([some ⟨1,tb⟩]++(rows13 sl++[some ⟨1,z⟩,some ⟨1,([.int .i64 (n)]:List AV)⟩,some ⟨1,([.nils]:List AV)⟩,some ⟨1,([.ptr (.rw 0) (0)]:List AV)⟩,some ⟨4294967291,rc⟩])))):=by kernel_rfl
theorem t31 (G:Nat→List AV) (rr:List AV→Bool) (tb sl z ys:List AV) (n:Int) (c:Nat) (Q:Ex→List AV→Hp→Prop) (R:AV→Hp→Prop):vT G Q R (dcall (Dr Try.prog [54] [] [] [DLat 2302 (rr) 9 24 [3,5,8] (.one .normal [.ptr (.rw 15) (.lit 0),.ptr (.rw 16) (.lit 0),.func 76 [.ptr (.rw 17) (.lit 0)]] (HJd (.var 1 tb) (.var 2 sl) (.var 5 z) (.var 3 n) (.var 4 c) (.var 22 ys)))] noY 18) 300 60 Try.f31 [.ptr (.rw 0) (.lit 0),.int .i64 (.var 3 n)] (hp3 [some ⟨1,.var 1 tb⟩] (.var 2 sl) [some ⟨1,.var 5 z⟩]) 19)=(
  (rr) [.agg ([.ptr (.rw 15) (0),.ptr (.rw 16) (0),.func 76 [.ptr (.rw 17) (0)]]:List AV),.agg ((tp3 [.tup [.int .i64 (1),.agg tb]] sl [.tup [.int .i64 (1),.agg z],.tup [.int .i64 (1),.agg ([.int .i64 (n)]:List AV)],.tup [.int .i64 (1),.agg ([.nils]:List AV)],.tup [.int .i64 (1),.agg ([.ptr (.rw 0) (0)]:List AV)]]):List AV)]=true∧
 R (.slice true (.rw 18) (0) (c)) ([some ⟨1,tb⟩]++(rows13 sl++[some ⟨1,z⟩,some ⟨1,([.int .i64 (n)]:List AV)⟩,some ⟨1,([.slice true (.rw 18) (0) (c)]:List AV)⟩,some ⟨1,([.ptr (.rw 0) (0)]:List AV)⟩,some ⟨1,ys⟩]))):=by kernel_rfl
theorem encV_len (p:Nat→AV) (s:Ptb):(encV p s).length=92:=by simp [encV,tabL_len]
theorem nilH_app {k:Nat}:∀ {A A' B B':Hp},nilH k A A'→nilH k B B'→nilH k (A++B) (A'++B')
 | [],[],B,B',_,h=>h
 | none::A,none::A',B,B',h1,h2=>nilH_app (A:=A) (A':=A') h1 h2
 | some b::A,some b'::A',B,B',h1,h2=>⟨h1.1,nilH_app (A:=A) (A':=A') h1.2 h2⟩
 | [],_::_,_,_,h,_=>by simp [nilH] at h
 | _::_,[],_,_,h,_=>by simp [nilH] at h
 | none::_,some _::_,_,_,h,_=>by simp [nilH] at h
 | some _::_,none::_,_,_,h,_=>by simp [nilH] at h
theorem hBr (G:Nat→List AV) (s:Ptb) (cc:Nat) (sl z:List AV) (n:Int):vHp G (hp3 [some ⟨1,.var 1 (encV (ptC s cc) s)⟩] (.var 2 sl) [some ⟨1,.var 5 z⟩,some ⟨1,.of [.int .i64 (.var 3 n)]⟩,some ⟨1,.of [.nils]⟩,some ⟨1,.of [.ptr (.rw 0) (.lit 0)]⟩,some ⟨4294967291,.var 24 (rcK 0)⟩])=B15 s cc sl z++[some ⟨1,[.int .i64 n]⟩,some ⟨1,[.nils]⟩,some ⟨1,[.ptr (.rw 0) 0]⟩,some ⟨4294967291,rcK 0⟩]:=rfl
theorem k_loop0 (G:Nat→List AV) (B:Nat) {s:Ptb} {cc:Nat} {sl z:List AV} (hfl:Flt sl z) (hw:Wf s) (n:Int):AWp (⟨Try.prog,G,B⟩:Ctx) 19 (.loop (loopN Try.f76 0)) (fl 27 [0,11,12] [.yld 18,.agg (arT s cc),.int .i64 0]) (vHp G (hp3 [some ⟨1,.var 1 (encV (ptC s cc) s)⟩] (.var 2 sl) [some ⟨1,.var 5 z⟩,some ⟨1,.of [.int .i64 (.var 3 n)]⟩,some ⟨1,.of [.nils]⟩,some ⟨1,.of [.ptr (.rw 0) (.lit 0)]⟩,some ⟨4294967291,.var 24 (rcK 0)⟩])) (lv 27 [0,11,12] (LOut.post G 19 (.one (.exit 0) [.undef,.undef,.undef] (HKd (.var 1 (encV (ptC s cc) s)) (.var 2 sl) (.var 5 z) (.var 3 n) (.var 4 (kidT s n 13).length) (.var 24 (rcK 0)) (.var 22 (nl (kidT s n 13))))))):=by
 rw [hBr]
 have hn:nilH (B15 s cc sl z++[some (⟨1,[.int .i64 n]⟩:Blk),some ⟨1,[.nils]⟩,some ⟨1,[.ptr (.rw 0) 0]⟩,some ⟨4294967291,rcK 0⟩]).length (B15 s cc sl z++[some ⟨1,[.int .i64 n]⟩,some ⟨1,[.slice true (.rw 19) 0 0]⟩,some ⟨1,[.ptr (.rw 0) 0]⟩,some ⟨4294967291,rcK 0⟩]) (B15 s cc sl z++[some ⟨1,[.int .i64 n]⟩,some ⟨1,[.nils]⟩,some ⟨1,[.ptr (.rw 0) 0]⟩,some ⟨4294967291,rcK 0⟩]):=by
  have hl:(B15 s cc sl z++[some (⟨1,[.int .i64 n]⟩:Blk),some ⟨1,[.nils]⟩,some ⟨1,[.ptr (.rw 0) 0]⟩,some ⟨4294967291,rcK 0⟩]).length=19:=by simp [B15_len]
  rw [hl]
  exact nilH_app (nilH_refl _) ⟨⟨rfl,nilrs_refl _⟩,⟨rfl,.inr ⟨rfl,rfl⟩,trivial⟩,⟨rfl,nilrs_refl _⟩,⟨rfl,nilrs_refl _⟩,trivial⟩
 refine AWp.nil 1 (by simp [B15_len]) (nilrs_refl _) hn ?_
 ·have key:=k_loop G B (cc:=cc) hfl hw n
  have e:hpI s cc sl z n 0=B15 s cc sl z++[some ⟨1,[.int .i64 n]⟩,some ⟨1,[.slice true (.rw 19) 0 0]⟩,some ⟨1,[.ptr (.rw 0) 0]⟩,some ⟨4294967291,rcK 0⟩]++[some ⟨1,[]⟩]:=by
   unfold hpI hpK0 hpK
   rw [List.append_assoc];rfl
  rw [←e]
  refine key.lmono ?_
  rintro ex vs H ⟨rfl,h1,rfl⟩
  refine ⟨rfl,.inl ⟨h1,?_⟩⟩
  rw [hK];rfl
theorem c76_call (G:Nat→List AV) (B:Nat) {s:Ptb} {cc:Nat} {sl z:List AV} (hfl:Flt sl z) (hw:Wf s) (n:Int):ACalls (⟨Try.prog,G,B⟩:Ctx) 76 [.yld 18,.ptr (.rw 17) 0] (vHp G (hp3 [some ⟨1,.var 1 (encV (ptC s cc) s)⟩] (.var 2 sl) [some ⟨1,.var 5 z⟩,some ⟨1,.of [.int .i64 (.var 3 n)]⟩,some ⟨1,.of [.nils]⟩,some ⟨1,.of [.ptr (.rw 0) (.lit 0)]⟩,some ⟨4294967291,.var 24 (rcK 0)⟩])) fun v H=>v=.tup []∧H=hpI s cc sl z n 13:=by
 have h:=dcall_ok (C:=(⟨Try.prog,G,B⟩:Ctx)) (K:=Dr Try.prog [36] [] [DLat 0x8FD (isSt [.yld 18,.agg (arT s cc),.int .i64 0] (vHp G (hp3 [some ⟨1,.var 1 (encV (ptC s cc) s)⟩] (.var 2 sl) [some ⟨1,.var 5 z⟩,some ⟨1,.of [.int .i64 (.var 3 n)]⟩,some ⟨1,.of [.nils]⟩,some ⟨1,.of [.ptr (.rw 0) (.lit 0)]⟩,some ⟨4294967291,.var 24 (rcK 0)⟩]))) 0 27 [0,11,12] (.one (.exit 0) [.undef,.undef,.undef] (HKd (.var 1 (encV (ptC s cc) s)) (.var 2 sl) (.var 5 z) (.var 3 n) (.var 4 (kidT s n 13).length) (.var 24 (rcK 0)) (.var 22 (nl (kidT s n 13)))))] [] noY 19) (fuel:=300) (n0:=60) (f:=76) (fn:=Try.f76) (args:=[.yld 18,.ptr (.rw 17) (.lit 0)]) (H:=(hp3 [some ⟨1,.var 1 (encV (ptC s cc) s)⟩] (.var 2 sl) [some ⟨1,.var 5 z⟩,some ⟨1,.of [.int .i64 (.var 3 n)]⟩,some ⟨1,.of [.nils]⟩,some ⟨1,.of [.ptr (.rw 0) (.lit 0)]⟩,some ⟨4294967291,.var 24 (rcK 0)⟩])) (keep:=20)
  (R:=fun v H=>v=.tup []∧H=hpI s cc sl z n 13) (dgoodr (mix G B) (by kernel_rfl) .nil (.cast (.cons (i:=0) (by kernel_rfl) rfl (DLat_okC rfl (k_loop0 G B hfl hw n)) .nil) (by kernel_rfl)) .none noY_ok) (by kernel_rfl) (by kernel_rfl) (by kernel_rfl) (by
  have:=c76 G (isSt [.yld 18,.agg (arT s cc),.int .i64 0] (vHp G (hp3 [some ⟨1,.var 1 (encV (ptC s cc) s)⟩] (.var 2 sl) [some ⟨1,.var 5 z⟩,some ⟨1,.of [.int .i64 (.var 3 n)]⟩,some ⟨1,.of [.nils]⟩,some ⟨1,.of [.ptr (.rw 0) (.lit 0)]⟩,some ⟨4294967291,.var 24 (rcK 0)⟩]))) (encV (ptC s cc) s) sl z (rcK 0) (nl (kidT s n 13)) n (kidT s n 13).length (fun _ _ _=>False) (fun v H=>v=.tup []∧H=hpI s cc sl z n 13)
  refine Eq.mpr this ⟨rfl,fun _=>⟨leB_iff.2 (by show 92≤(encV (ptC s cc) s).length;rw [encV_len];omega),isSt_refl,rfl,?_⟩,fun h=>by cases h⟩
  have:=hK G s cc sl z n (kidT s n 13).length (rcK 0) (nl (kidT s n 13))
  exact this)
 have hl:(hpI s cc sl z n 13).length=20:=by simp [hpI,hpK0,hpK,B15_len]
 refine ACalls.keep (k:=20) h ?_ ?_ rfl (by simp)
 ·rw [hl,vHp_length];exact Nat.le_succ 19
 ·rw [hl]
  unfold hpI hpK0 hpK
  refine hpB_app (B15_bnd hfl (by omega)) ?_
  simp only [hpB,bm (nl_flat 0 (kidT s n 13)),rc_mK (show 18≤20 by omega),bnds,bnd,Bool.and_self,Bool.and_true];rfl
theorem hJ (G:Nat→List AV) (s:Ptb) (cc:Nat) (sl z:List AV) (n:Int) (c:Nat) (ys:List AV):vHp G (HJd (.var 1 (encV (ptC s cc) s)) (.var 2 sl) (.var 5 z) (.var 3 n) (.var 4 c) (.var 22 ys))=B15 s cc sl z++[some ⟨1,[.int .i64 n]⟩,some ⟨1,[.slice true (.rw 18) 0 c]⟩,some ⟨1,[.ptr (.rw 0) 0]⟩,some ⟨1,ys⟩]:=rfl
theorem k_rng (G:Nat→List AV) (B:Nat) {s:Ptb} {cc:Nat} {sl z:List AV} (hfl:Flt sl z) (hw:Wf s) (n:Int):AWp (⟨Try.prog,G,B⟩:Ctx) 18 (loopN Try.f31 0) F0k (vHp G (hp3 [some ⟨1,.var 1 (encV (ptC s cc) s)⟩] (.var 2 sl) [some ⟨1,.var 5 z⟩,some ⟨1,.of [.int .i64 (.var 3 n)]⟩,some ⟨1,.of [.nils]⟩,some ⟨1,.of [.ptr (.rw 0) (.lit 0)]⟩])) (lv 24 [3,5,8] (LOut.post G 18 (.one .normal [.ptr (.rw 15) (.lit 0),.ptr (.rw 16) (.lit 0),.func 76 [.ptr (.rw 17) (.lit 0)]] (HJd (.var 1 (encV (ptC s cc) s)) (.var 2 sl) (.var 5 z) (.var 3 n) (.var 4 (kidT s n 13).length) (.var 22 (nl (kidT s n 13))))))):=by
 rw [N31_eq]
 refine AWp.rng (f:=76) (cap:=[.ptr (.rw 17) 0]) (by rw [vHp_length];exact Nat.le_refl 18) (by kernel_rfl) ?_
 refine (c76_call G B (cc:=cc) hfl hw n).monoK ?_
 rintro v H ⟨rfl,rfl⟩
 refine ⟨rfl,.inr ?_⟩
 rw [hJ]
 have hl:(B15 s cc sl z++[some (⟨1,[.int .i64 n]⟩:Blk),some ⟨1,[.slice true (.rw 18) 0 (kidT s n 13).length]⟩,some ⟨1,[.ptr (.rw 0) 0]⟩,some ⟨1,nl (kidT s n 13)⟩]).length=19:=by simp [B15_len]
 refine View.renM (θ:=[0,1,2,3,4,5,6,7,8,9,10,11,12,13,14]++[15,16,17,19]) (by rw [hl];omega) (fun j hj=>?_) (by decide) ?_ ?_ ?_
 ·exact (by decide:∀ i,i<18→([0,1,2,3,4,5,6,7,8,9,10,11,12,13,14]++[15,16,17,19]:List Nat).getD i 0=i) j hj
 ·rw [hl]
  refine blks_b15 hfl (by omega) fixK rfl ?_
  exact ⟨⟨rfl,rfl⟩,⟨rfl,rfl⟩,⟨rfl,rfl⟩,⟨bm (nl_flat 0 _),by rw [nl_rens];rfl⟩,trivial⟩
 ·rw [hl];rfl
 ·exact ⟨rfl,rfl,rfl,trivial⟩
theorem dg31 (G:Nat→List AV) (B:Nat) {s:Ptb} {cc:Nat} {sl z:List AV} (hfl:Flt sl z) (hw:Wf s) (n:Int):DGood (⟨Try.prog,G,B⟩:Ctx) (Dr Try.prog [54] [] [] [DLat 0x8FE (isSt [.ptr (.rw 15) 0,.ptr (.rw 16) 0,.func 76 [.ptr (.rw 17) 0]] (vHp G (hp3 [some ⟨1,.var 1 (encV (ptC s cc) s)⟩] (.var 2 sl) [some ⟨1,.var 5 z⟩,some ⟨1,.of [.int .i64 (.var 3 n)]⟩,some ⟨1,.of [.nils]⟩,some ⟨1,.of [.ptr (.rw 0) (.lit 0)]⟩]))) 9 24 [3,5,8] (.one .normal [.ptr (.rw 15) (.lit 0),.ptr (.rw 16) (.lit 0),.func 76 [.ptr (.rw 17) (.lit 0)]] (HJd (.var 1 (encV (ptC s cc) s)) (.var 2 sl) (.var 5 z) (.var 3 n) (.var 4 (kidT s n 13).length) (.var 22 (nl (kidT s n 13)))))] noY 18) (loopsOf (bodyOf Try.f31)):=by
 rw [show loopsOf (bodyOf Try.f31)=[loopN Try.f31 0] by kernel_rfl]
 exact dgoodr (mix G B) (by kernel_rfl) .nil (.skip (by kernel_rfl) .nil) (.cons (i:=9) (by kernel_rfl) rfl (DCode_okC rfl (k_rng G B hfl hw n)) .nil) noY_ok
theorem p_kids (G:Nat→List AV) (B:Nat) {s:Ptb} {cc:Nat} {sl z:List AV} (hfl:Flt sl z) (hw:Wf s) (n:Int):ACalls (⟨Try.prog,G,B⟩:Ctx) 31 [.ptr (.rw 0) 0,.int .i64 n] (B15 s cc sl z) fun v H'=>v=.slice true (.rw 15) 0 (kidT s n 13).length∧H'=B15 s cc sl z++[some ⟨1,nl (kidT s n 13)⟩]:=by
 have h:=dcall_ok (C:=(⟨Try.prog,G,B⟩:Ctx)) (K:=Dr Try.prog [54] [] [] [DLat 0x8FE (isSt [.ptr (.rw 15) 0,.ptr (.rw 16) 0,.func 76 [.ptr (.rw 17) 0]] (vHp G (hp3 [some ⟨1,.var 1 (encV (ptC s cc) s)⟩] (.var 2 sl) [some ⟨1,.var 5 z⟩,some ⟨1,.of [.int .i64 (.var 3 n)]⟩,some ⟨1,.of [.nils]⟩,some ⟨1,.of [.ptr (.rw 0) (.lit 0)]⟩]))) 9 24 [3,5,8] (.one .normal [.ptr (.rw 15) (.lit 0),.ptr (.rw 16) (.lit 0),.func 76 [.ptr (.rw 17) (.lit 0)]] (HJd (.var 1 (encV (ptC s cc) s)) (.var 2 sl) (.var 5 z) (.var 3 n) (.var 4 (kidT s n 13).length) (.var 22 (nl (kidT s n 13)))))] noY 18) (fuel:=300) (n0:=60) (f:=31) (fn:=Try.f31) (args:=[.ptr (.rw 0) (.lit 0),.int .i64 (.var 3 n)]) (H:=(hp3 [some ⟨1,.var 1 (encV (ptC s cc) s)⟩] (.var 2 sl) [some ⟨1,.var 5 z⟩])) (keep:=19)
  (R:=fun v H=>v=.slice true (.rw 18) 0 (kidT s n 13).length∧H=vHp G (HJd (.var 1 (encV (ptC s cc) s)) (.var 2 sl) (.var 5 z) (.var 3 n) (.var 4 (kidT s n 13).length) (.var 22 (nl (kidT s n 13))))) (dg31 G B hfl hw n) (by kernel_rfl) (by kernel_rfl) (by kernel_rfl) (by
  have:=t31 G (isSt [.ptr (.rw 15) 0,.ptr (.rw 16) 0,.func 76 [.ptr (.rw 17) 0]] (vHp G (hp3 [some ⟨1,.var 1 (encV (ptC s cc) s)⟩] (.var 2 sl) [some ⟨1,.var 5 z⟩,some ⟨1,.of [.int .i64 (.var 3 n)]⟩,some ⟨1,.of [.nils]⟩,some ⟨1,.of [.ptr (.rw 0) (.lit 0)]⟩]))) (encV (ptC s cc) s) sl z (nl (kidT s n 13)) n (kidT s n 13).length (fun _ _ _=>False) (fun v H=>v=.slice true (.rw 18) 0 (kidT s n 13).length∧H=vHp G (HJd (.var 1 (encV (ptC s cc) s)) (.var 2 sl) (.var 5 z) (.var 3 n) (.var 4 (kidT s n 13).length) (.var 22 (nl (kidT s n 13)))))
  exact Eq.mpr this ⟨isSt_refl,rfl,rfl⟩)
 rw [show vHp G (hp3 [some ⟨1,.var 1 (encV (ptC s cc) s)⟩] (.var 2 sl) [some ⟨1,.var 5 z⟩])=B15 s cc sl z from rfl] at h
 refine h.view fun v H' ⟨e1,e2⟩=>⟨_,_,⟨rfl,rfl⟩,?_⟩
 subst e1
 rw [hJ] at e2
 have e3:H'=(B15 s cc sl z++[some (⟨1,[.int .i64 n]⟩:Blk),some ⟨1,[.slice true (.rw 18) 0 (kidT s n 13).length]⟩,some ⟨1,[.ptr (.rw 0) 0]⟩,some ⟨1,nl (kidT s n 13)⟩])++H'.drop 19:=by rw [←e2,List.take_append_drop]
 have hl:(B15 s cc sl z++[some (⟨1,nl (kidT s n 13)⟩:Blk)]).length=16:=by simp [B15_len]
 rw [B15_len]
 refine View.renM (θ:=[0,1,2,3,4,5,6,7,8,9,10,11,12,13,14]++[18]) (by rw [hl];omega) (fun j hj=>?_) (by decide) ?_ ?_ ?_
 ·exact (by decide:∀ i,i<15→([0,1,2,3,4,5,6,7,8,9,10,11,12,13,14]++[18]:List Nat).getD i 0=i) j hj
 ·rw [hl]
  refine blks_b15 hfl (by omega) fixK ?_ ⟨⟨bm (nl_flat 0 _),?_⟩,trivial⟩
  ·rw [e3,List.append_assoc,List.take_left' B15_len]
  ·rw [nl_rens,e3,List.append_assoc,List.getElem?_append_right (by rw [B15_len];omega),B15_len];rfl
 ·rw [hl];rfl
 ·exact ⟨rfl,trivial⟩
end Go.Am
namespace Go.Am
open Go.Proofs Crc
set_option maxRecDepth 100000
theorem ACalls.pad {C:Ctx} {f:FuncId} {args:List AV} {H:Hp} {K:AV→Hp→Prop} (e:Nat) (h:ACalls C f args (H++[some ⟨e,[]⟩]) K):ACalls C f args H K:=by
 refine ⟨h.1,fun ρ w cargs hH hv=>(h.2 (ρ.push none) w cargs (nil_rel e (nilH_refl H) hH) (VRs.mono (Env.le_push ρ none) _ _ hv)).mono ?_⟩
 rintro ex w' ⟨v,cv,ρ',H',rfl,h2,h3,h4,h5,h6⟩
 have hl:=Env.le_push ρ none
 exact ⟨v,cv,ρ',H',rfl,h2,⟨fun i x hx=>h3.1 i x (hl.1 i x hx),fun i b d h=>h3.2 i b d (hl.2 i b d h),fun D hD=>h3.3 D (hl.3 D hD)⟩,h4,h5,nil_frm.trans h6⟩
def B14 (s:Ptb) (cc:Nat) (sl:List AV):Hp:=some ⟨1,encV (ptC s cc) s⟩::(List.range 13).map (fun n=>some ⟨1,rowA sl n⟩)
theorem B14_len {s:Ptb} {cc:Nat} {sl:List AV}:(B14 s cc sl).length=14:=by simp [B14]
theorem B15_eq (s:Ptb) (cc:Nat) (sl z:List AV):B15 s cc sl z=B14 s cc sl++[some ⟨1,z⟩]:=by simp [B15,B14]
theorem B14_at {s:Ptb} {cc:Nat} {sl:List AV} (hc:13≤cc) (hf:∀ n,n<13→bnds 0 (rowA sl n)=true) {i:Nat} {b:Blk} (hb:(B14 s cc sl)[i]?=some (some b)):bnds 14 b.cells=true:=by
 have hi:=(List.getElem?_eq_some_iff.1 hb).1
 rw [B14_len] at hi
 unfold B14 at hb
 by_cases h0:i=0
 ·subst h0
  simp only [List.getElem?_cons_zero,Option.some.injEq] at hb
  subst hb
  refine tsP_ok.bnd 14 (ptC s cc) s fun n hn=>?_
  unfold ptC
  split
  ·rfl
  ·have:(if n=cc then 14 else 1+n)<14:=by rw [if_neg (by omega)];omega
   simpa [bnd] using this
 ·obtain ⟨n,rfl⟩:∃ n,i=n+1:=⟨i - 1,by omega⟩
  rw [List.getElem?_cons_succ,List.getElem?_map,List.getElem?_range (by omega)] at hb
  simp only [Option.map_some,Option.some.injEq] at hb
  subst hb
  exact bnds_mono (Nat.zero_le _) _ (hf n (by omega))
section
variable {G:Nat→List AV} {B:Nat}
theorem p_kids14 {s:Ptb} {cc:Nat} {sl:List AV} (hc:13≤cc) (hf:∀ n,n<13→bnds 0 (rowA sl n)=true) (hw:Wf s) (n:Int) :
  ACalls (⟨Try.prog,G,B⟩:Ctx) 31 [.ptr (.rw 0) 0,.int .i64 n] (B14 s cc sl) fun v H'=>v=.slice true (.rw 14) 0 (kidT s n 13).length∧H'=B14 s cc sl++[some ⟨1,nl (kidT s n 13)⟩]:=by
 have h:=p_kids G B (s:=s) (cc:=cc) (sl:=sl) (z:=[]) ⟨hf,rfl⟩ hw n
 rw [B15_eq] at h
 have h:=ACalls.pad 1 h
 refine h.view fun v H' ⟨e1,e2⟩=>⟨_,_,⟨rfl,rfl⟩,?_⟩
 subst e1 e2
 have hl:(B14 s cc sl++[some (⟨1,nl (kidT s n 13)⟩:Blk)]).length=15:=by simp [B14_len]
 rw [B14_len]
 let θ:List Nat:=[0,1,2,3,4,5,6,7,8,9,10,11,12,13,15]
 have fx:∀ i,i<14→θ.getD i 0=i:=(by decide:∀ i,i<14→([0,1,2,3,4,5,6,7,8,9,10,11,12,13,15]:List Nat).getD i 0=i)
 refine ⟨θ,by rw [hl];rfl,by rw [hl];omega,fx,fun i hi=>?_,fun i j b b' h1 h2 he=>?_,fun i b hb=>?_,rfl,fun k w hk=>?_⟩
 ·have hi:i<15:=hi
  have:∀ i,i<15→([0,1,2,3,4,5,6,7,8,9,10,11,12,13,15]:List Nat).getD i 0<16:=by decide
  have:=this i hi
  simp only [List.length_append,B14_len,List.length_cons,List.length_nil]
  exact this
 ·have hi:=(List.getElem?_eq_some_iff.1 h1).1
  have hj:=(List.getElem?_eq_some_iff.1 h2).1
  rw [hl] at hi hj
  have:∀ i,i<15→∀ j,j<15→([0,1,2,3,4,5,6,7,8,9,10,11,12,13,15]:List Nat).getD i 0=([0,1,2,3,4,5,6,7,8,9,10,11,12,13,15]:List Nat).getD j 0→i=j:=by decide
  exact this i hi j hj he
 ·have hi:=(List.getElem?_eq_some_iff.1 hb).1
  rw [hl] at hi
  by_cases h14:i<14
  ·rw [List.getElem?_append_left (by rw [B14_len];exact h14)] at hb
   rw [fx i h14]
   have hbn:=B14_at hc hf hb
   refine ⟨b,by rw [List.append_assoc,List.getElem?_append_left (by rw [B14_len];exact h14)];exact hb,Nat.le_refl _,rfl,fun k w hk=>?_,fun _=>⟨rfl,?_⟩⟩
   ·rw [bnds_eq,List.all_eq_true] at hbn
    have:=hbn w (List.mem_of_getElem? hk)
    exact ⟨bnd_mono (by show 14≤15;omega) _ this,.inr (by rw [ren_fix fx w this];exact hk)⟩
   ·cases hc:b.cells with
    | nil=>rfl
    | cons x l=>
     rw [hc] at hbn
     simp only [bnds,Bool.and_eq_true] at hbn
     simp only [List.head?_cons,Option.map_some,ren_fix fx x hbn.1]
  ·have:i=14:=by omega
   subst this
   rw [List.getElem?_append_right (by rw [B14_len];omega),B14_len] at hb
   simp only [Nat.sub_self,List.getElem?_cons_zero,Option.some.injEq] at hb
   subst hb
   refine ⟨⟨1,nl (kidT s n 13)⟩,?_,Nat.le_refl _,BlkV_of rfl rfl fun k w hk=>?_⟩
   ·show (B14 s cc sl++[some ⟨1,[]⟩]++[some ⟨1,nl (kidT s n 13)⟩])[15]?=_
    rw [List.append_assoc,List.getElem?_append_right (by rw [B14_len];omega),B14_len];rfl
   ·obtain ⟨a1,a2⟩:=flat_cells (nl_flat 0 (kidT s n 13)) θ hk
    exact ⟨a1,by rw [a2];exact hk⟩
 ·cases k with
  | zero=>simp at hk;subst hk;exact ⟨rfl,.inr rfl⟩
  | succ k=>simp at hk
end
theorem kidT_mem {s:Ptb} {n:Int} {i c:Nat} (h:c∈kidT s n i):c<i∧0<(s.at_ c).num∧1≤n∧(s.at_ c).par=n:=by
 unfold kidT at h
 rw [List.mem_filter] at h
 obtain ⟨h1,h2⟩:=h
 unfold kidB kidC at h2
 simp only [Bool.and_eq_true,decide_eq_true_eq,beq_iff_eq] at h2
 exact ⟨List.mem_range.1 h1,h2.1,h2.2.1,h2.2.2⟩
theorem kidT_ne1 {s:Ptb} (hw:Wf s) {n:Int} {i c:Nat} (h:c∈kidT s n i):c≠1:=by
 obtain ⟨_,_,h3,h4⟩:=kidT_mem h
 intro e
 subst e
 have:=hw.one.2
 omega
def waitR (s:Ptb) (n w:Int):(Int×Int×Bool×Int)×Ptb:=
 if live s n=true then
  if w≠-1∧(w<1∨12<w) then ((0,0,false,2),s)
  else match (kidT s n 13).find? (wHit s w) with
   | some c=>(((c:Int),(s.at_ c).st,false,0),freeX s c)
   | none=>if (kidT s n 13).any (wMat w)=true then ((0,0,true,0),s) else ((0,0,false,6),s)
 else ((0,0,false,6),s)
theorem Wf.waitX {s:Ptb} (h:Wf s) (n w:Int):Wf (waitR s n w).2:=by
 unfold waitR
 split
 ·split
  ·exact h
  ·split
   ·rename_i c e
    exact h.free (kidT_ne1 h (List.mem_of_find?_eq_some e))
   ·split<;>exact h
 ·exact h
def kidBC (z:Nat) (l:List AV) (n:Int) (c:Nat):Bool:=decide (0<getI l (c*z+1))&&kidC n (getI l (c*z+2))
def kidLC (l:List AV) (n:Int):List Nat:=(List.range 13).filter (kidBC 7 l n)
theorem kidLC_eq {p:Nat→AV} {s:Ptb} {n:Int}:kidLC (encV p s) n=kidT s n 13:=by
 unfold kidLC kidT
 refine List.filter_congr fun c hc=>?_
 have hc:=List.mem_range.1 hc
 have g:∀ k,k<7→(encV p s)[c*7+(k+1)]?=some (fcell (s.at_ c) (p c) k):=fun k hk=>by
  unfold encV
  rw [show c*7+(k+1)=(c*7+k)+1 by omega,List.getElem?_cons_succ,tabL_get hc hk]
 unfold kidBC kidB
 have g0:=g 0 (by omega)
 have g1:=g 1 (by omega)
 simp only [Nat.zero_add,Nat.reduceAdd] at g0 g1
 simp only [getI,g0,g1,fcell]
def kidNU:List AV→Nat:=fun vs=>match vs with
 | [.agg l,.int _ n]=>(kidLC l n).length
 | _=>0
def kidLU:List AV→List AV:=fun vs=>match vs with
 | [.agg l,.int _ n]=>nl (kidLC l n)
 | _=>[]
open Classical in
noncomputable def okK15:List AV→Bool:=fun vs=>match vs with
 | [.agg l,.agg L,.agg z]=>decide (∃ s cc,Wf s∧l=encV (ptC s cc) s∧Flt L z)
 | _=>false
open Classical in
noncomputable def okK14:List AV→Bool:=fun vs=>match vs with
 | [.agg l,.agg L]=>decide (∃ s,Wf s∧l=encV (ptC s 13) s∧∀ n,n<13→bnds 0 (rowA L n)=true)
 | _=>false
def kidsQ (k15 k14:List AV→Bool):DSum:=fun (args:List EV) (H:List (Option DBlk))=>match args with
 | [.ptr (.rw 0) (.lit 0),.int .i64 n]=>match H[(0:Nat)]? with
  | some (some ⟨1,l⟩)=>match famAt H 1 13 with
   | some (z1,L,ls)=>match Nat.beq z1 1 with
    | true=>match H[(14:Nat)]? with
     | some (some ⟨1,z⟩)=>some (.chk (.rows L ls) (.chk (.uf 2310 k15 [.agg l,.agg L,.agg z]) (.one (.slice true (.rw H.length) (.lit 0) (.uf 2311 kidNU [.agg l,.int .i64 n])) [.new ⟨1,.uf 2312 kidLU [.agg l,.int .i64 n]⟩])))
     | none=>some (.chk (.rows L ls) (.chk (.uf 2313 k14 [.agg l,.agg L]) (.one (.slice true (.rw H.length) (.lit 0) (.uf 2311 kidNU [.agg l,.int .i64 n])) [.new ⟨1,.uf 2312 kidLU [.agg l,.int .i64 n]⟩])))
     | _=>none
    | false=>none
   | none=>none
  | _=>none
 | _=>none
noncomputable def kidsS:DSum:=kidsQ okK15 okK14
theorem okK15_iff {l L z:List AV}:okK15 [.agg l,.agg L,.agg z]=true↔∃ s cc,Wf s∧l=encV (ptC s cc) s∧Flt L z:=by
 unfold okK15;simp only [decide_eq_true_eq]
theorem okK14_iff {l L:List AV}:okK14 [.agg l,.agg L]=true↔∃ s,Wf s∧l=encV (ptC s 13) s∧∀ n,n<13→bnds 0 (rowA L n)=true:=by
 unfold okK14;simp only [decide_eq_true_eq]
theorem range_getD {n i:Nat} (h:i<n):(List.range n).getD i 0=i:=by simp [List.getD,h]
theorem DOut.readN {C:Ctx} {f:FuncId} {args0:List AV} {args:List EV} {H:DHp} {k:Nat} {H0:Hp} {v0:AV} {v:EV} {b:DBlk} (hk:H0.length=k) (hH:(vHp C.G H).take k=H0) (hlv:∀ (i:Nat) b,H0[i]?=some b→∃ b0,b=some b0∧bnds k b0.cells=true)
  (ha:bnds k args0=true) (he:vVs C.G args=args0) (h:ACalls C f args0 H0 fun v' H'=>v'=v0∧H'=H0++[some (vBlk C.G b)]) (hb0:bnds 0 (vBlk C.G b).cells=true) (hv0:bnd (k+1) v0=true) (hv:vV C.G v=ren (wide (List.range k) H.length 1) v0):DOut C f args H v [.new b]:=by
 have fx:∀ i,i<k→(List.range k).getD i 0=i:=fun i hi=>range_getD hi
 have at0:∀ (i:Nat) b,H0[i]?=some b→(vHp C.G H)[i]?=some b:=fun i b hb=>by
  rw [←hH,List.getElem?_take] at hb
  split at hb
  ·exact hb
  ·cases hb
 refine DOut.fr (θ:=List.range k) (H0:=H0) (H1:=H0++[some (vBlk C.G b)]) List.nodup_range (by simp [hk]) (fun i b hb=>?_) (by simpa using ha) (by rw [he,rens_fix fx _ ha]) h (by simp) (by simpa [hk] using hv0) ?_ (by rw [hv];simp [hk]) ?_
 ·obtain ⟨b0,rfl,h1⟩:=hlv i b hb
  have hi:=(List.getElem?_eq_some_iff.1 hb).1
  refine ⟨b0,rfl,by simpa using h1,?_⟩
  rw [fx i (by omega),at0 i _ hb]
  simp only [renB,rens_fix fx _ h1]
 ·refine hpB_app ?_ (by simp only [hpB,bnds_mono (Nat.zero_le _) _ hb0,Bool.and_self])
  have:∀ {H:Hp} {m:Nat},(∀ (i:Nat) b,H[i]?=some b→∃ b0,b=some b0∧bnds m b0.cells=true)→hpB m H=true:=by
   intro H m h
   induction H with
   | nil=>rfl
   | cons b H ih=>
    obtain ⟨b0,rfl,h1⟩:=h 0 b rfl
    simp only [hpB,h1,Bool.true_and]
    exact ih fun i b hb=>h (i+1) b hb
  refine this fun i b hb=>?_
  obtain ⟨b0,e,h1⟩:=hlv i b hb
  exact ⟨b0,e,bnds_mono (by simp [hk]) _ h1⟩
 ·unfold merge
  have e1:(H0++[some (vBlk C.G b)]).length - (List.range k).length=1:=by simp [hk]
  have e2:(H0++[some (vBlk C.G b)]).drop (List.range k).length=[some (vBlk C.G b)]:=by rw [List.length_range,←hk,List.drop_left' rfl]
  rw [e1,e2]
  have fw:∀ i,i<k→(wide (List.range k) (vHp C.G H).length 1).getD i 0=i:=fun i hi=>by
   unfold wide
   simp only [List.getD]
   rw [List.getElem?_append_left (by simpa using hi)]
   simp [hi]
  have e3:lay (wide (List.range k) (vHp C.G H).length 1) (List.range k) (H0++[some (vBlk C.G b)]) (vHp C.G H)=vHp C.G H:=by
   refine lay_self _ _ _ _ fun i b hb hi=>?_
   have hi:i<k:=by simpa using hi
   rw [List.getElem?_append_left (by omega)] at hb
   obtain ⟨b0,rfl,h1⟩:=hlv i b hb
   rw [fx i hi,at0 i _ hb]
   simp only [renO,Option.map_some,renB,rens_fix fw _ h1]
  rw [e3]
  simp only [List.map_cons,List.map_nil,acts,vHop,Hop.act,renO,Option.map_some,renB]
  rw [rens_flat _ _ hb0]
where
 lay_self (θ':List Nat):∀ (js:List Nat) (bs:List (Option Blk)) (H:Hp),(∀ (k:Nat) b,bs[k]?=some b→k<js.length→H[js.getD k 0]?=some (renO θ' b))→lay θ' js bs H=H
  | [],bs,H,h=>by cases bs<;>simp [lay]
  | j::js,[],H,h=>by simp [lay]
  | j::js,b::bs,H,h=>by
   simp only [lay]
   have h0:=h 0 b rfl (by simp)
   have e:H.set j (renO θ' b)=H:=by
    have hj:H[j]?=some (renO θ' b):=h0
    obtain ⟨hlt,e⟩:=List.getElem?_eq_some_iff.1 hj
    rw [←e];exact List.set_getElem_self hlt
   rw [e]
   exact lay_self θ' js bs H fun k b hk hl=>h (k+1) b hk (by simpa using hl)
theorem fam14 {G:Nat→List AV} {H:DHp} {l L:EL} {ls:List EV} (h0:H[0]?=some (some ⟨1,l⟩)) (hf:famAt H 1 13=some (1,L,ls)) (hr:rowsA (vL G L) (vVs G ls)=true):(vHp G H).take 14=some ⟨1,vL G l⟩::(List.range 13).map fun n=>some ⟨1,rowA (vL G L) n⟩:=by
 have a0:=vHp_some (G:=G) h0
 refine List.ext_getElem? fun i=>?_
 by_cases hi:i<14
 ·rw [List.getElem?_take,if_pos hi]
  cases i with
  | zero=>rw [a0];rfl
  | succ n=>
   have:=fam_at hf hr (i:=n) (by omega)
   rw [Nat.add_comm 1 n] at this
   rw [this,List.getElem?_cons_succ,List.getElem?_map,List.getElem?_range (by omega)];rfl
 ·rw [List.getElem?_eq_none (by rw [List.length_take];omega),List.getElem?_eq_none (by simp;omega)]
theorem kidsS_ok (G:Nat→List AV) (B:Nat):DSumOk (⟨Try.prog,G,B⟩:Ctx) 31 kidsS:=by
  intro args H o ho
  unfold kidsS kidsQ at ho
  split at ho
  · rename_i n
    split at ho
    · rename_i l h0
      split at ho
      · rename_i z1 L ls hf
        split at ho
        · rename_i hz
          have hz:=Nat.eq_of_beq_eq_true hz
          subst hz
          split at ho
          · rename_i z h14
            simp only [Option.some.injEq] at ho
            subst ho
            intro hr h1
            have hr:rowsA (vL G L) (vVs G ls)=true:=hr
            have h1:okK15 [.agg (vL G l),.agg (vL G L),.agg (vL G z)]=true:=h1
            obtain ⟨s,cc,hw,e,hfl⟩:=okK15_iff.1 h1
            have t14:=fam14 (G:=G) h0 hf hr
            have t15:(vHp G H).take 15=B15 s cc (vL G L) (vL G z):=by
              have a14:=vHp_some (G:=G) h14
              rw [List.take_add_one,t14,a14,B15_eq]
              unfold B14
              rw [e];rfl
            have key:=p_kids G B (s:=s) (cc:=cc) hfl hw (vI G n)
            rw [← kidLC_eq (p := ptC s cc), ← e] at key
            exact DOut.readN (C:=⟨Try.prog,G,B⟩) (b:=⟨1,.uf 2312 kidLU [.agg l,.int .i64 n]⟩) (v0:=.slice true (.rw 15) 0 (kidLC (vL G l) (vI G n)).length) B15_len t15 (fun i b hb=>by
              have hi:=(List.getElem?_eq_some_iff.1 hb).1
              obtain ⟨b0,rfl⟩:∃ b0,b=some b0:=by
                rw [B15_eq] at hb
                unfold B14 at hb
                cases i with
                | zero=>simp at hb;exact ⟨_,hb.symm⟩
                | succ i=>
                  rw [List.cons_append,List.getElem?_cons_succ] at hb
                  rcases List.mem_append.1 (List.mem_of_getElem? hb) with h | h
                  · obtain ⟨j,_,rfl⟩:=List.mem_map.1 h;exact ⟨_,rfl⟩
                  · simp at h;exact ⟨_,h⟩
              exact ⟨b0,rfl,B15_at hfl hb⟩) rfl rfl key (nl_flat 0 _) (by simp [bnd]) (by simp [vV,vR,vN,ren,wide,List.getD,kidNU,vVs])
          · rename_i h14
            simp only [Option.some.injEq] at ho
            subst ho
            intro hr h1
            have hr:rowsA (vL G L) (vVs G ls)=true:=hr
            have h1:okK14 [.agg (vL G l),.agg (vL G L)]=true:=h1
            obtain ⟨s,hw,e,hfl⟩:=okK14_iff.1 h1
            have t14:=fam14 (G:=G) h0 hf hr
            have t15:(vHp G H).take 14=B14 s 13 (vL G L):=by rw [t14];unfold B14;rw [e]
            have key:=p_kids14 (G:=G) (B:=B) (s:=s) (cc:=13) (Nat.le_refl 13) hfl hw (vI G n)
            rw [← kidLC_eq (p := ptC s 13), ← e] at key
            exact DOut.readN (C:=⟨Try.prog,G,B⟩) (b:=⟨1,.uf 2312 kidLU [.agg l,.int .i64 n]⟩) (v0:=.slice true (.rw 14) 0 (kidLC (vL G l) (vI G n)).length) B14_len t15 (fun i b hb=>by
              obtain ⟨b0,rfl⟩:∃ b0,b=some b0:=by
                unfold B14 at hb
                cases i with
                | zero=>simp at hb;exact ⟨_,hb.symm⟩
                | succ i=>
                  rw [List.getElem?_cons_succ] at hb
                  obtain ⟨j,_,rfl⟩:=List.mem_map.1 (List.mem_of_getElem? hb)
                  exact ⟨_,rfl⟩
              exact ⟨b0,rfl,B14_at (Nat.le_refl 13) hfl hb⟩) rfl rfl key (nl_flat 0 _) (by simp [bnd]) (by simp [vV,vR,vN,ren,wide,List.getD,kidNU,vVs])
          · simp at ho
        · simp at ho
      · simp at ho
    · simp at ho
  · simp at ho
end Go.Am
