/-
  Images moved: by less than nothing; the law. Images moved: the law.
-/
import Derived.Test.YthejjolnlngahaaPart18
import Derived.Test.YthejjolnlngahaaBase5
namespace Go.Am
open Go.Proofs
set_option maxRecDepth 100000
theorem uG (G:Nat→List AV) (B:Nat) (ks kp n m:Nat) (s by_:Int) (hb:Bx G ks kp n m) (hn:n≤1000000) (hm:m≤1000000) (hy:by_<0):ACalls (⟨Try.prog,G,B⟩:A2) 13 [.agg [.int .i64 s,.slice true (.ro ks) 0 n,.slice true (.ro kp) 0 m],.int .i64 by_] [] fun v _=>v=.tup [.agg [.int .i64 0,.nils,.nils],.int .i64 2]:=by
 have u1:secsU [.agg (G ks),.int .i64 (n:Int)]=true:=I6.2 ⟨hb.sec,hn⟩;have u2:Dm [.agg (G kp),.int .i64 (m:Int)]=true:=W1.2 ⟨hb.pls,hm⟩
 have c20:ACalls (⟨Try.prog,G,B⟩:A2) 20 [.agg [.int .i64 s,.slice true (.ro ks) 0 n,.slice true (.ro kp) 0 m]] [some ⟨1,[.int .i64 s,.slice true (.ro ks) 0 n,.slice true (.ro kp) 0 m]⟩,some ⟨1,[.int .i64 0,.nils,.nils]⟩] (Dp G [some ⟨1,[.int .i64 s,.slice true (.ro ks) 0 n,.slice true (.ro kp) 0 m]⟩,some ⟨1,[.int .i64 0,.nils,.nils]⟩] (.one (.int .i64 (.var 28 (P0 s (G ks) n (G kp) m))) [])):=
  F7.ro0 (C:=(⟨Try.prog,G,B⟩:A2)) (args:=[.agg (.of [.int .i64 (.var 1 s),.slice true (.ro (.var 24 ks)) (.lit 0) (.var 3 n),.slice true (.ro (.var 25 kp)) (.lit 0) (.var 4 m)])]) (H:=[some ⟨1,.of [.int .i64 (.var 1 s),.slice true (.ro (.var 24 ks)) (.lit 0) (.var 3 n),.slice true (.ro (.var 25 kp)) (.lit 0) (.var 4 m)]⟩,some ⟨1,.of [.int .i64 (.lit 0),.nils,.nils]⟩]) (v:=.int .i64 (.var 28 (P0 s (G ks) n (G kp) m))) (ACalls.drop0 (v0:=.int .i64 (P0 s (G ks) n (G kp) m)) (Ld G B ks n kp m s u1 u2) rfl (by simp)) rfl rfl
 have good:O6 (⟨Try.prog,G,B⟩:A2) (Df Try.prog [] [] [(20,W8 1831 (G8 [.agg [.int .i64 s,.slice true (.ro ks) 0 n,.slice true (.ro kp) 0 m]] [some ⟨1,[.int .i64 s,.slice true (.ro ks) 0 n,.slice true (.ro kp) 0 m]⟩,some ⟨1,[.int .i64 0,.nils,.nils]⟩]) (.one (.int .i64 (.var 28 (P0 s (G ks) n (G kp) m))) [])),(33,W8 1832 (fun _=>false) (.one (.agg (.of [.int .i64 (.var 1 s),.slice true (.rw 2) (.lit 0) (.var 3 n),.slice true (.rw 3) (.lit 0) (.var 4 m)])) [.new ⟨4,.var 21 []⟩,.new ⟨2,.var 7 []⟩,.new ⟨1,.row (.var 22 []) (.lit 0)⟩,.new ⟨1,.row (.var 22 []) (.lit 1)⟩,.new ⟨1,.row (.var 22 []) (.lit 2)⟩,.new ⟨1,.row (.var 22 []) (.lit 3)⟩,.new ⟨1,.row (.var 22 []) (.lit 4)⟩,.new ⟨1,.row (.var 22 []) (.lit 5)⟩,.new ⟨1,.row (.var 22 []) (.lit 6)⟩,.new ⟨1,.row (.var 22 []) (.lit 7)⟩])),(36,W8 1834 (fun _=>false) (.tst (.var 11 false) (.one (.tup [(.agg (.of [.int .i64 (.var 14 0),.slice true (.ro (.var 26 0)) (.lit 0) (.var 3 n),.slice true (.ro (.var 27 0)) (.lit 0) (.var 4 m)])),.int .i64 (.lit 0)]) [.set 12 ⟨1,.of [.int .i64 (.var 1 s),.slice true (.ro (.var 26 0)) (.lit 0) (.var 3 n),.slice true (.ro (.var 27 0)) (.lit 0) (.var 4 m)]⟩,.app 2 ⟨1,.of []⟩,.app 3 ⟨1,.of []⟩]) (.one (.tup [(.agg (.of [.int .i64 (.lit 0),.nils,.nils])),.int .i64 (.lit 2)]) [.set 12 ⟨1,.of [.int .i64 (.var 1 s),.slice true (.ro (.var 26 0)) (.lit 0) (.var 3 n),.slice true (.ro (.var 27 0)) (.lit 0) (.var 4 m)]⟩,.app 2 ⟨1,.of []⟩,.app 3 ⟨1,.of []⟩])))] [C3 1833 (fun _=>false) 0 108 [1,4,5,7,36,37,38] (.tst (.var 10 false) (.one (.exit 0) [.int .i64 (.var 2 by_),.ptr (.rw 1) (.lit 0),.int .i64 (.lit 0),.ptr (.rw 12) (.lit 0),.undef,.undef,.undef] [some ⟨1,.of [.int .i64 (.var 1 s),.slice true (.ro (.var 24 ks)) (.lit 0) (.var 3 n),.slice true (.ro (.var 25 kp)) (.lit 0) (.var 4 m)]⟩,some ⟨1,.of [.int .i64 (.lit 0),.nils,.nils]⟩,some ⟨4,.var 23 []⟩,some ⟨2,.var 7 []⟩,none,none,none,none,none,none,none,none,some ⟨1,.of [.int .i64 (.var 1 s),.slice true (.rw 2) (.lit 0) (.var 3 n),.slice true (.rw 3) (.lit 0) (.var 4 m)]⟩]) (.one .ret [.undef,.ptr (.rw 1) (.lit 0),.int .i64 (.lit 2),.undef,.undef,.undef,.undef] [some ⟨1,.of [.int .i64 (.var 1 s),.slice true (.ro (.var 24 ks)) (.lit 0) (.var 3 n),.slice true (.ro (.var 25 kp)) (.lit 0) (.var 4 m)]⟩,some ⟨1,.of [.int .i64 (.lit 0),.nils,.nils]⟩]))] 0) (A8 (B8 Try.f13)):=by
  rw [show A8 (B8 Try.f13)=[A4 Try.f13 0,A4 Try.f13 1,A4 Try.f13 2] by kernel_rfl];exact K9 (E9 G B) (by kernel_rfl) (.cons (Et rfl c20) (.cons Gx (.cons Gx .nil))) (.cons (i:=0) (by kernel_rfl) rfl X9 (.miss (i:=2) (by kernel_rfl) rfl (.miss (i:=4) (by kernel_rfl) rfl .nil)))
 have key:=C9 (C:=(⟨Try.prog,G,B⟩:A2)) (R:=fun v _=>v=.tup [.agg [.int .i64 0,.nils,.nils],.int .i64 2]) good (fuel:=500) (n0:=20) (f:=13) (fn:=Try.f13) (args:=[.agg (.of [.int .i64 (.var 1 s),.slice true (.ro (.var 24 ks)) (.lit 0) (.var 3 n),.slice true (.ro (.var 25 kp)) (.lit 0) (.var 4 m)]),.int .i64 (.var 2 by_)]) (H:=[]) (keep:=0) (by kernel_rfl) (by kernel_rfl) (by kernel_rfl) (by
  rw [nO]
  exact ⟨D4,fun h=>⟨fun h1=>rfl,fun h1=>absurd (of_decide_eq_false h1) (by omega)⟩,fun h=>rfl⟩)
 exact key.monoK fun v H h=>h
theorem tG (G:Nat→List AV) (B:Nat) (ks kp n m:Nat) (s by_:Int) (hb:Bx G ks kp n m) (hn:n≤1000000) (hm:m≤1000000) (hy:by_<0):ACalls (⟨Try.prog,G,B⟩:A2) 14 [.agg [.int .i64 s,.slice true (.ro ks) 0 n,.slice true (.ro kp) 0 m],.int .i64 by_] [] fun v _=>v=.tup [.agg [.int .i64 0,.nils,.nils],.int .i64 2]:=by
 have u1:secsU [.agg (G ks),.int .i64 (n:Int)]=true:=I6.2 ⟨hb.sec,hn⟩;have u2:Dm [.agg (G kp),.int .i64 (m:Int)]=true:=W1.2 ⟨hb.pls,hm⟩
 have good:O6 (⟨Try.prog,G,B⟩:A2) (Df Try.prog [] [] [(21,mayrS),(12,W8 1836 (fun _=>false) (.one (.agg (.of [.int .i64 (.var 1 s),.slice true (.rw 2) (.lit 0) (.var 3 n),.slice true (.rw 3) (.lit 0) (.var 4 m)])) [.new ⟨4,.var 21 []⟩,.new ⟨2,.var 7 []⟩,.new ⟨1,.row (.var 22 []) (.lit 0)⟩,.new ⟨1,.row (.var 22 []) (.lit 1)⟩,.new ⟨1,.row (.var 22 []) (.lit 2)⟩,.new ⟨1,.row (.var 22 []) (.lit 3)⟩,.new ⟨1,.row (.var 22 []) (.lit 4)⟩,.new ⟨1,.row (.var 22 []) (.lit 5)⟩,.new ⟨1,.row (.var 22 []) (.lit 6)⟩,.new ⟨1,.row (.var 22 []) (.lit 7)⟩]))] [C3 1837 (fun _=>false) 0 150 [1,2,4,5,6,7] (.tst (.var 10 false) (.one (.exit 0) [.int .i64 (.var 2 by_),.ptr (.rw 0) (.lit 0),.ptr (.rw 1) (.lit 0),.int .i64 (.lit 0),.ptr (.rw 12) (.lit 0),.undef] [some ⟨1,.of [.int .i64 (.var 1 s),.slice true (.ro (.var 24 ks)) (.lit 0) (.var 3 n),.slice true (.ro (.var 25 kp)) (.lit 0) (.var 4 m)]⟩,some ⟨1,.of [.int .i64 (.lit 0),.nils,.nils]⟩,some ⟨4,.var 23 []⟩,some ⟨2,.var 8 []⟩,none,none,none,none,none,none,none,none,some ⟨1,.of [.int .i64 (.var 1 s),.slice true (.rw 2) (.lit 0) (.var 3 n),.slice true (.rw 3) (.lit 0) (.var 4 m)]⟩]) (.one .ret [.undef,.undef,.ptr (.rw 1) (.lit 0),.int .i64 (.lit 2),.undef,.undef] [some ⟨1,.of [.int .i64 (.var 1 s),.slice true (.ro (.var 24 ks)) (.lit 0) (.var 3 n),.slice true (.ro (.var 25 kp)) (.lit 0) (.var 4 m)]⟩,some ⟨1,.of [.int .i64 (.lit 0),.nils,.nils]⟩])),C3 1838 (fun _=>false) 6 150 [1,4,5,6,14] (.one (.exit 6) [.int .i64 (.var 2 by_),.ptr (.rw 1) (.lit 0),.int .i64 (.lit 0),.ptr (.rw 12) (.lit 0),.undef] [some ⟨1,.of [.int .i64 (.var 1 s),.slice true (.ro (.var 24 ks)) (.lit 0) (.var 3 n),.slice true (.ro (.var 25 kp)) (.lit 0) (.var 4 m)]⟩,some ⟨1,.of [.int .i64 (.lit 0),.nils,.nils]⟩,none,none,none,none,none,none,none,none,none,none,some ⟨1,.of [.int .i64 (.var 14 0),.slice true (.ro (.var 26 0)) (.lit 0) (.var 3 n),.slice true (.ro (.var 27 0)) (.lit 0) (.var 4 m)]⟩])] 0) (A8 (B8 Try.f14)):=by
  rw [show A8 (B8 Try.f14)=[A4 Try.f14 0,A4 Try.f14 1,A4 Try.f14 2,A4 Try.f14 3] by kernel_rfl];exact K9 (E9 G B) (by kernel_rfl) (.cons (Qf G B) (.cons Gx .nil)) (.cons (i:=0) (by kernel_rfl) rfl X9 (.miss (i:=2) (by kernel_rfl) rfl (.miss (i:=4) (by kernel_rfl) rfl (.cons (i:=6) (by kernel_rfl) rfl X9 .nil))))
 have key:=C9 (C:=(⟨Try.prog,G,B⟩:A2)) (R:=fun v _=>v=.tup [.agg [.int .i64 0,.nils,.nils],.int .i64 2]) good (fuel:=500) (n0:=20) (f:=14) (fn:=Try.f14) (args:=[.agg (.of [.int .i64 (.var 1 s),.slice true (.ro (.var 24 ks)) (.lit 0) (.var 3 n),.slice true (.ro (.var 25 kp)) (.lit 0) (.var 4 m)]),.int .i64 (.var 2 by_)]) (H:=[]) (keep:=0) (by kernel_rfl) (by kernel_rfl) (by kernel_rfl) (by
  rw [mZ (q5:=fun _=>false)]
  exact ⟨u1,u2,fun h=>⟨fun h1=>rfl,fun h1=>absurd (of_decide_eq_false h1) (by omega)⟩,fun h=>rfl⟩)
 exact key.monoK fun v H h=>h
theorem Wa {G:Nat→List AV} {s:Int} {cs ps:List AV} {n m:Nat}:Ce G s cs n ps m s cs n ps m=true:=by
 unfold Ce gQ gG;rw [Nat.beq_refl,Nat.beq_refl];have e1:F9 (Ar ps ps) m=true:=H4.2 fun j _=>by unfold Ar;simp
 have e2:F9 (R6 G cs cs) n=true:=H4.2 fun j _=>by unfold R6;simp
 rw [e1,e2];simp
theorem cF {b:List Nat}:u8s (K5 b)=true:=by
 unfold u8s;rw [List.all_eq_true];intro v hv;obtain ⟨x,_,rfl⟩:=List.mem_map.1 hv;rfl
theorem vW {G:Nat→List AV} {ks kp n m:Nat} (hb:Bx G ks kp n m):Cs G (G ks) n=true:=H4.2 fun j hj=>by
 obtain ⟨_,_,hd⟩:=U8.1 hb.cp;have hc:=(J0.1 (hd j hj)).1.1;rw [Nat.mul_one] at hc;obtain ⟨b,_,b2⟩:=hb.dat j hj;unfold Y4;rw [b2,cF,Bool.and_true];exact hc
end Go.Am
namespace Go.Am
open Go.Proofs
set_option maxRecDepth 100000
theorem Zl {C:A2} {f j:Nat} {o:Outs}:G5 C f (Cy j (fun _=>false) o):=by
 intro args H o' ho;simp only [Cy,Option.some.injEq] at ho;subst ho;intro h;exact absurd h (by simp [vB])
theorem qZ (G:Nat→List AV) (B:Nat) (ks kp kS kP n m:Nat) (s by_:Int) (kd:Nat→Nat) (hb:Bx G ks kp n m) (hn:n≤1000000) (hm:m≤1000000) (hD:∀ q,q<8→G (kd q)=K5 (M1 (dB0 G (G ks) n) (G ks) n (Int.toNat by_) (G kp) m q)) (hS:G kS=J3 (shS (G ks) (Int.toNat by_) n) (G ks) n (dK kd (G ks))) (hP:G kP=(B1 (shF (G kp) (Int.toNat by_) m) (G kp) m)):ACalls (⟨Try.prog,G,B⟩:A2) 13 [.agg [.int .i64 s,.slice true (.ro ks) 0 n,.slice true (.ro kp) 0 m],.int .i64 by_] [] (fun v _=>v=(AV.tup (if (decide (0≤by_)&&((C1 s (G ks) n (G kp) m&&(decide ((Int.toNat by_)≤8192)&&decide ((Int.toNat by_) % 256=0)))&&((decide (E3 (dB0 G (G ks) n) (G ks) n (Int.toNat by_) (G kp) m=m))&&(C1 (IntKind.wrap .i64 (s+((Int.toNat by_):Int))) (G kS) n (G kP) m))))=true then [.agg [.int .i64 (IntKind.wrap .i64 (s+((Int.toNat by_):Int))),.slice true (.ro kS) 0 n,.slice true (.ro kP) 0 m],.int .i64 0] else [.agg [.int .i64 0,.nils,.nils],.int .i64 2])))∧ACalls (⟨Try.prog,G,B⟩:A2) 14 [.agg [.int .i64 s,.slice true (.ro ks) 0 n,.slice true (.ro kp) 0 m],.int .i64 by_] [] fun v _=>v=(AV.tup (if (decide (0≤by_)&&((C1 s (G ks) n (G kp) m&&(decide ((Int.toNat by_)≤8192)&&decide ((Int.toNat by_) % 256=0)))&&((decide (E3 (dB0 G (G ks) n) (G ks) n (Int.toNat by_) (G kp) m=m))&&(C1 (IntKind.wrap .i64 (s+((Int.toNat by_):Int))) (G kS) n (G kP) m))))=true then [.agg [.int .i64 (IntKind.wrap .i64 (s+((Int.toNat by_):Int))),.slice true (.ro kS) 0 n,.slice true (.ro kP) 0 m],.int .i64 0] else [.agg [.int .i64 0,.nils,.nils],.int .i64 2])):=by
 by_cases h0:0≤by_
 ·have e:((Int.toNat by_):Int)=by_:=Int.toNat_of_nonneg h0;have c13:=rB G B ks kp kS kP n m (Int.toNat by_) s kd hb hn hm hD hS hP;have c14:=qP G B ks kp kS kP n m (Int.toNat by_) s kd hb hn hm hD hS hP fun h8=>vX G B ks kp n m s hb h8 hm;rw [decide_eq_true h0,Bool.true_and];rw [e] at c13 c14 ⊢;exact ⟨c13,c14⟩
 ·rw [decide_eq_false h0,Bool.false_and];exact ⟨uG G B ks kp n m s by_ hb hn hm (by omega),tG G B ks kp n m s by_ hb hn hm (by omega)⟩
theorem gT (G:Nat→List AV) (B:Nat) (ks kp kS kP n m:Nat) (s by_:Int) (kd:Nat→Nat) (hs:I4 (G ks) n=true) (hqw:Y3 (G ks) n m=false→Bx G ks kp n m∧Tk G ks kp n m) (hD:∀ q,q<8→G (kd q)=K5 (M1 (dB0 G (G ks) n) (G ks) n (Int.toNat by_) (G kp) m q)) (hS:G kS=J3 (shS (G ks) (Int.toNat by_) n) (G ks) n (dK kd (G ks))) (hP:G kP=(B1 (shF (G kp) (Int.toNat by_) m) (G kp) m)):ACalls (⟨Try.prog,G,B⟩:A2) 3 [.agg [.int .i64 s,.slice true (.ro ks) 0 n,.slice true (.ro kp) 0 m],.int .i64 by_] [] fun v _=>v=.bool true:=by
 have hsU:secOkU [.agg (G ks),.int .i64 (n:Int)]=true:=by simpa only [secOkU,C4] using hs
 have l3:A8 (B8 Try.f3)=[]:=by kernel_rfl
 cases hmu:Y3 (G ks) n m with
 | true=>
  have key:=C9 (C:=(⟨Try.prog,G,B⟩:A2)) (K:=(Dc Try.prog [16] [(10,muchS),(11,trueS),(12,Cy 1861 (fun _=>false) (.one (.agg (.of [.int .i64 (.var 1 s),.slice true (.ro (.var 24 ks)) (.lit 0) (.var 3 n),.slice true (.ro (.var 25 kp)) (.lit 0) (.var 4 m)])) [])),(13,Cy 1862 (fun _=>false) (.tst (.var 10 false) (.one (.tup [(.agg (.of [.int .i64 (.var 14 0),.slice true (.ro (.var 26 0)) (.lit 0) (.var 3 n),.slice true (.ro (.var 27 0)) (.lit 0) (.var 4 m)])),.int .i64 (.lit 0)]) []) (.one (.tup [(.agg (.of [.int .i64 (.lit 0),.nils,.nils])),.int .i64 (.lit 2)]) []))),(14,Cy 1863 (fun _=>false) (.tst (.var 10 false) (.one (.tup [(.agg (.of [.int .i64 (.var 14 0),.slice true (.ro (.var 26 0)) (.lit 0) (.var 3 n),.slice true (.ro (.var 27 0)) (.lit 0) (.var 4 m)])),.int .i64 (.lit 0)]) []) (.one (.tup [(.agg (.of [.int .i64 (.lit 0),.nils,.nils])),.int .i64 (.lit 2)]) []))),(15,Rq G)] [] 0)) (R:=fun v _=>v=.bool true) (by rw [l3];exact I0 (E9 G B) (by kernel_rfl) (.cons (aI G B) (.cons (Yy G B) (.cons Zl (.cons Zl (.cons Zl (.cons (Wb G B) .nil)))))) .nil) (fuel:=400) (n0:=20) (f:=3) (fn:=Try.f3) (args:=[.agg (.of [.int .i64 (.var 1 s),.slice true (.ro (.var 24 ks)) (.lit 0) (.var 3 n),.slice true (.ro (.var 25 kp)) (.lit 0) (.var 4 m)]),.int .i64 (.var 2 by_)]) (H:=[]) (keep:=0) (by kernel_rfl) (by kernel_rfl) (by kernel_rfl) (by
   rw [kL,Qd,hmu]
   exact ⟨hsU,fun _=>rfl,fun h=>absurd h (by decide)⟩)
  exact key.monoK fun v H h=>h
 | false=>
  obtain ⟨hq,hw⟩:=hqw hmu;obtain ⟨hn,hm⟩:=Um hmu;obtain ⟨c13,c14⟩:=qZ G B ks kp kS kP n m s by_ kd hq (by omega) (by omega) hD hS hP;have c12:=vY G B ks kp n m s hq hw hn (by omega)
  have s12:G5 (⟨Try.prog,G,B⟩:A2) 12 (Cy 1861 (G8 [.agg [.int .i64 s,.slice true (.ro ks) 0 n,.slice true (.ro kp) 0 m]] []) (.one (.agg (.of [.int .i64 (.var 1 s),.slice true (.ro (.var 24 ks)) (.lit 0) (.var 3 n),.slice true (.ro (.var 25 kp)) (.lit 0) (.var 4 m)])) [])):=qO (v0:=.agg [.int .i64 s,.slice true (.ro ks) 0 n,.slice true (.ro kp) 0 m]) rfl (c12.monoK fun v H h=>h.1) rfl rfl (by simp) rfl
  have nb:B0 0 (AV.tup (if (decide (0≤by_)&&((C1 s (G ks) n (G kp) m&&(decide ((Int.toNat by_)≤8192)&&decide ((Int.toNat by_) % 256=0)))&&((decide (E3 (dB0 G (G ks) n) (G ks) n (Int.toNat by_) (G kp) m=m))&&(C1 (IntKind.wrap .i64 (s+((Int.toNat by_):Int))) (G kS) n (G kP) m))))=true then [.agg [.int .i64 (IntKind.wrap .i64 (s+((Int.toNat by_):Int))),.slice true (.ro kS) 0 n,.slice true (.ro kP) 0 m],.int .i64 0] else [.agg [.int .i64 0,.nils,.nils],.int .i64 2]))=true:=by split<;>rfl
  have e1:∀ b:Bool,b=true→(AV.tup [.agg [.int .i64 (IntKind.wrap .i64 (s+((Int.toNat by_):Int))),.slice true (.ro kS) 0 n,.slice true (.ro kP) 0 m],.int .i64 0]:AV)=.tup (if b=true then [.agg [.int .i64 (IntKind.wrap .i64 (s+((Int.toNat by_):Int))),.slice true (.ro kS) 0 n,.slice true (.ro kP) 0 m],.int .i64 0] else [.agg [.int .i64 0,.nils,.nils],.int .i64 2]):=fun b hb=>by rw [hb];rfl
  have e2:∀ b:Bool,b=false→(AV.tup [.agg [.int .i64 0,.nils,.nils],.int .i64 2]:AV)=.tup (if b=true then [.agg [.int .i64 (IntKind.wrap .i64 (s+((Int.toNat by_):Int))),.slice true (.ro kS) 0 n,.slice true (.ro kP) 0 m],.int .i64 0] else [.agg [.int .i64 0,.nils,.nils],.int .i64 2]):=fun b hb=>by rw [hb];rfl
  have s13:G5 (⟨Try.prog,G,B⟩:A2) 13 (Cy 1862 (G8 [.agg [.int .i64 s,.slice true (.ro ks) 0 n,.slice true (.ro kp) 0 m],.int .i64 by_] []) (.tst (.var 10 (decide (0≤by_)&&((C1 s (G ks) n (G kp) m&&(decide ((Int.toNat by_)≤8192)&&decide ((Int.toNat by_) % 256=0)))&&((decide (E3 (dB0 G (G ks) n) (G ks) n (Int.toNat by_) (G kp) m=m))&&(C1 (IntKind.wrap .i64 (s+((Int.toNat by_):Int))) (G kS) n (G kP) m))))) (.one (.tup [(.agg (.of [.int .i64 (.var 14 (IntKind.wrap .i64 (s+((Int.toNat by_):Int)))),.slice true (.ro (.var 26 kS)) (.lit 0) (.var 3 n),.slice true (.ro (.var 27 kP)) (.lit 0) (.var 4 m)])),.int .i64 (.lit 0)]) []) (.one (.tup [(.agg (.of [.int .i64 (.lit 0),.nils,.nils])),.int .i64 (.lit 2)]) []))):=dY (v0:=(AV.tup (if (decide (0≤by_)&&((C1 s (G ks) n (G kp) m&&(decide ((Int.toNat by_)≤8192)&&decide ((Int.toNat by_) % 256=0)))&&((decide (E3 (dB0 G (G ks) n) (G ks) n (Int.toNat by_) (G kp) m=m))&&(C1 (IntKind.wrap .i64 (s+((Int.toNat by_):Int))) (G kS) n (G kP) m))))=true then [.agg [.int .i64 (IntKind.wrap .i64 (s+((Int.toNat by_):Int))),.slice true (.ro kS) 0 n,.slice true (.ro kP) 0 m],.int .i64 0] else [.agg [.int .i64 0,.nils,.nils],.int .i64 2]))) rfl c13 rfl nb (by simp) (fun h=>e1 _ h) (fun h=>e2 _ h)
  have s14:G5 (⟨Try.prog,G,B⟩:A2) 14 (Cy 1863 (G8 [.agg [.int .i64 s,.slice true (.ro ks) 0 n,.slice true (.ro kp) 0 m],.int .i64 by_] []) (.tst (.var 10 (decide (0≤by_)&&((C1 s (G ks) n (G kp) m&&(decide ((Int.toNat by_)≤8192)&&decide ((Int.toNat by_) % 256=0)))&&((decide (E3 (dB0 G (G ks) n) (G ks) n (Int.toNat by_) (G kp) m=m))&&(C1 (IntKind.wrap .i64 (s+((Int.toNat by_):Int))) (G kS) n (G kP) m))))) (.one (.tup [(.agg (.of [.int .i64 (.var 14 (IntKind.wrap .i64 (s+((Int.toNat by_):Int)))),.slice true (.ro (.var 26 kS)) (.lit 0) (.var 3 n),.slice true (.ro (.var 27 kP)) (.lit 0) (.var 4 m)])),.int .i64 (.lit 0)]) []) (.one (.tup [(.agg (.of [.int .i64 (.lit 0),.nils,.nils])),.int .i64 (.lit 2)]) []))):=dY (v0:=(AV.tup (if (decide (0≤by_)&&((C1 s (G ks) n (G kp) m&&(decide ((Int.toNat by_)≤8192)&&decide ((Int.toNat by_) % 256=0)))&&((decide (E3 (dB0 G (G ks) n) (G ks) n (Int.toNat by_) (G kp) m=m))&&(C1 (IntKind.wrap .i64 (s+((Int.toNat by_):Int))) (G kS) n (G kP) m))))=true then [.agg [.int .i64 (IntKind.wrap .i64 (s+((Int.toNat by_):Int))),.slice true (.ro kS) 0 n,.slice true (.ro kP) 0 m],.int .i64 0] else [.agg [.int .i64 0,.nils,.nils],.int .i64 2]))) rfl c14 rfl nb (by simp) (fun h=>e1 _ h) (fun h=>e2 _ h)
  have w1:S6 G (G ks) n=true∧U4 (G kp) m=true:=by
   unfold S6 U4;rw [hq.sec,vW hq,hq.pls,Nat.ble_eq_true_of_le (by omega),Nat.ble_eq_true_of_le (by omega)];exact ⟨rfl,rfl⟩
  have k1:=Kg (G:=G) (s:=s) (sv:=s).2 ⟨⟨w1.1,w1.1⟩,w1.2,w1.2⟩
  have k2:(decide (0≤by_)&&((C1 s (G ks) n (G kp) m&&(decide ((Int.toNat by_)≤8192)&&decide ((Int.toNat by_) % 256=0)))&&((decide (E3 (dB0 G (G ks) n) (G ks) n (Int.toNat by_) (G kp) m=m))&&(C1 (IntKind.wrap .i64 (s+((Int.toNat by_):Int))) (G kS) n (G kP) m))))=true→Gw G [.int .i64 (IntKind.wrap .i64 (s+((Int.toNat by_):Int))),.agg (G kS),.int .i64 (n:Int),.agg (G kP),.int .i64 (m:Int),.int .i64 (IntKind.wrap .i64 (s+((Int.toNat by_):Int))),.agg (G kS),.int .i64 (n:Int),.agg (G kP),.int .i64 (m:Int)]=true:=fun hok=>by
   simp only [Bool.and_eq_true,decide_eq_true_eq] at hok;obtain ⟨_,⟨go,hz,_⟩,_⟩:=hok;obtain ⟨⟨h8,_⟩,_⟩:=Gh go;have sec:=Kp go;have hx:=Yd go hq.pls;obtain ⟨o1,o2⟩:=aB (G:=G) (kd:=kd) h8 (by omega) (fun j hj=>⟨(sec j hj).1,(sec j hj).2.1⟩) hx hz hS hP;have o1:=(I6.1 o1).1;have o2:=(W1.1 o2).1
   have o3:Cs G (G kS) n=true:=H4.2 fun j hj=>by
    have e3:(G kS)[j*4+2]?=some (dK kd (G ks) j):=by rw [hS];exact O7 (f:=Ua (shS (G ks) (Int.toNat by_) n) (G ks) (dK kd (G ks))) hj (by omega)
    have a0:G1 (G kS) (j*4+2)=0:=by unfold G1;rw [e3];rfl
    have a1:C2 (G kS) (j*4+2)=sN (G ks) j:=by unfold C2;rw [e3];rfl
    have a2:E7 (G kS) (j*4+2)=kd j:=by unfold E7;rw [e3];rfl
    unfold Y4 N8;rw [a0,a1,a2,hD j (by omega),Nat.zero_add];have len:(K5 (M1 (dB0 G (G ks) n) (G ks) n (Int.toNat by_) (G kp) m j)).length=sN (G ks) j:=by rw [Jr,Oe,Vh hq j hj]
    rw [Bool.and_eq_true];refine ⟨C6.2 (by rw [len];exact Nat.le_refl _),?_⟩;rw [←len,V6 rfl];exact cF
   refine Kg.2 ⟨⟨?_,?_⟩,?_,?_⟩
   all_goals first | unfold S6 | unfold U4
   ·rw [o1,o3,Nat.ble_eq_true_of_le (by omega)];rfl
   ·rw [o1,o3,Nat.ble_eq_true_of_le (by omega)];rfl
   ·rw [o2,Nat.ble_eq_true_of_le (by omega)];rfl
   ·rw [o2,Nat.ble_eq_true_of_le (by omega)];rfl
  have key:=C9 (C:=(⟨Try.prog,G,B⟩:A2)) (K:=(Dc Try.prog [16] [(10,muchS),(11,trueS),(12,Cy 1861 (G8 [.agg [.int .i64 s,.slice true (.ro ks) 0 n,.slice true (.ro kp) 0 m]] []) (.one (.agg (.of [.int .i64 (.var 1 s),.slice true (.ro (.var 24 ks)) (.lit 0) (.var 3 n),.slice true (.ro (.var 25 kp)) (.lit 0) (.var 4 m)])) [])),(13,Cy 1862 (G8 [.agg [.int .i64 s,.slice true (.ro ks) 0 n,.slice true (.ro kp) 0 m],.int .i64 by_] []) (.tst (.var 10 (decide (0≤by_)&&((C1 s (G ks) n (G kp) m&&(decide ((Int.toNat by_)≤8192)&&decide ((Int.toNat by_) % 256=0)))&&((decide (E3 (dB0 G (G ks) n) (G ks) n (Int.toNat by_) (G kp) m=m))&&(C1 (IntKind.wrap .i64 (s+((Int.toNat by_):Int))) (G kS) n (G kP) m))))) (.one (.tup [(.agg (.of [.int .i64 (.var 14 (IntKind.wrap .i64 (s+((Int.toNat by_):Int)))),.slice true (.ro (.var 26 kS)) (.lit 0) (.var 3 n),.slice true (.ro (.var 27 kP)) (.lit 0) (.var 4 m)])),.int .i64 (.lit 0)]) []) (.one (.tup [(.agg (.of [.int .i64 (.lit 0),.nils,.nils])),.int .i64 (.lit 2)]) []))),(14,Cy 1863 (G8 [.agg [.int .i64 s,.slice true (.ro ks) 0 n,.slice true (.ro kp) 0 m],.int .i64 by_] []) (.tst (.var 10 (decide (0≤by_)&&((C1 s (G ks) n (G kp) m&&(decide ((Int.toNat by_)≤8192)&&decide ((Int.toNat by_) % 256=0)))&&((decide (E3 (dB0 G (G ks) n) (G ks) n (Int.toNat by_) (G kp) m=m))&&(C1 (IntKind.wrap .i64 (s+((Int.toNat by_):Int))) (G kS) n (G kP) m))))) (.one (.tup [(.agg (.of [.int .i64 (.var 14 (IntKind.wrap .i64 (s+((Int.toNat by_):Int)))),.slice true (.ro (.var 26 kS)) (.lit 0) (.var 3 n),.slice true (.ro (.var 27 kP)) (.lit 0) (.var 4 m)])),.int .i64 (.lit 0)]) []) (.one (.tup [(.agg (.of [.int .i64 (.lit 0),.nils,.nils])),.int .i64 (.lit 2)]) []))),(15,Rq G)] [] 0)) (R:=fun v _=>v=.bool true) (by rw [l3];exact I0 (E9 G B) (by kernel_rfl) (.cons (aI G B) (.cons (Yy G B) (.cons s12 (.cons s13 (.cons s14 (.cons (Wb G B) .nil)))))) .nil) (fuel:=400) (n0:=20) (f:=3) (fn:=Try.f3) (args:=[.agg (.of [.int .i64 (.var 1 s),.slice true (.ro (.var 24 ks)) (.lit 0) (.var 3 n),.slice true (.ro (.var 25 kp)) (.lit 0) (.var 4 m)]),.int .i64 (.var 2 by_)]) (H:=[]) (keep:=0) (by kernel_rfl) (by kernel_rfl) (by kernel_rfl) (by
   rw [kL,Qd,hmu,Pv,Pv,Wa,Wa];have no:∀ {P:Prop},true=false→P:=fun h=>by cases h
   refine ⟨hsU,fun h=>(by cases h),fun _=>⟨D4,D4,fun ok=>⟨D4,ok,k1,fun _=>⟨k2 ok,fun _=>rfl,fun h=>no h⟩,fun h=>no h⟩,fun ok=>⟨D4,by rw [ok];rfl,k1,fun _=>⟨rfl,rfl⟩,fun h=>no h⟩⟩⟩)
  exact key.monoK fun v H h=>h
end Go.Am
namespace Go.Am
open Go.Proofs
set_option maxRecDepth 100000
end Go.Am
namespace Go.Am
open Go.Proofs
set_option maxRecDepth 100000
end Go.Am
namespace Go.Am
open Go.Proofs
set_option maxRecDepth 100000
end Go.Am
namespace Go.Am
open Go.ChangeShapes Go.WideShapes Go.ChangeAt Go.RowKit Go.Proofs
set_option maxRecDepth 100000
section
variable {H:Type} {P:Program} {L:List RoE} {n:Nat} {t e:TypeId} {cs:List AV} {d:DataW H} {a:AV}
def On (P:Program) (e:TypeId) (i o:Nat) (t:TypeId):Bool:=
 match P.underlying e with
 | some (.struct fs)=>match fs[i]? with
  | some f=>Nat.beq f.offset o&&Nat.beq f.type t
  | none=>false
 | _=>false
theorem E5.fld {i o:Nat} (hf:On P e i o t=true) (h:E5 P L (n+1) e cs d):∃ x:DataW H,E5 P L n t ((cs.drop o).take (P.cellsOf t)) x:=by
 unfold On at hf;split at hf
 ·rename_i fs hu;split at hf
  ·rename_i f hi;simp only [Bool.and_eq_true] at hf;obtain ⟨g1,ds,g2,g3,g4⟩:=E5.asStruct hu h;have hl:i<ds.length:=by rw [g3];exact (Array.getElem?_eq_some_iff.1 hi).1
   have:=g4 i f ds[i] hi (List.getElem?_eq_getElem hl)
   rw [Nat.eq_of_beq_eq_true hf.1,Nat.eq_of_beq_eq_true hf.2] at this;exact ⟨_,this⟩
  ·simp at hf
 ·simp at hf
theorem E5.flen {i o:Nat} (hf:On P e i o t=true) (h:E5 P L (n+1) e cs d):cs.length=P.cellsOf e:=by
 unfold On at hf;split at hf
 ·rename_i fs hu;exact (E5.asStruct hu h).1
 ·simp at hf
theorem aA {l:List AV} {o:Nat} {v:AV} (h:(l.drop o).take 1=[v]):l[o]?=some v:=by
 have:=congrArg (fun l:List AV=>l[0]?) h
 simpa only [List.getElem?_take,List.getElem?_drop,List.getElem?_cons_zero,Nat.add_zero,Nat.lt_one_iff,if_true] using this
theorem E5.fldInt {i o:Nat} {k:IntKind} (hf:On P e i o t=true) (ht:P.underlying t=some (.int k)) (hc:P.cellsOf t=1) (h:E5 P L (n+2) e cs d):∃ x,cs[o]?=some (.int k x)∧(Lit.int k x).wf=true:=by
 obtain ⟨_,h1⟩:=E5.fld hf h;rw [hc] at h1;obtain ⟨x,e1,e2,_⟩:=E5.asInt ht h1;exact ⟨x,aA e1,e2⟩
theorem E5.fldBool {i o:Nat} (hf:On P e i o t=true) (ht:P.underlying t=some .bool) (hc:P.cellsOf t=1) (h:E5 P L (n+2) e cs d):∃ x,cs[o]?=some (.bool x):=by
 obtain ⟨_,h1⟩:=E5.fld hf h;rw [hc] at h1;obtain ⟨x,e1,_⟩:=E5.asBool ht h1;exact ⟨x,aA e1⟩
theorem eQ {l:List AV} {o z j:Nat} (hj:j<z):((l.drop o).take z)[j]?=l[o+j]?:=by
 rw [List.getElem?_take,if_pos hj,List.getElem?_drop]
end
section
variable {H:Type} {L:List RoE} {a:AV} {d:DataW H} {cs:List AV}
theorem vA {n:Nat} (h:E5 Try.prog L (n+3) 23 [a] d):∃ k m,(∀ (ρ:Env) v,VR ρ a v→VR ρ (.slice true (.ro k) 0 m) v)∧(GL L k).length=m*2∧R7 (GL L k) m=true∧(GL L k).all plA=true:=by
 rcases E5.asSlice (e:=40) (by kernel_rfl) h with ⟨h1,_⟩ | ⟨k,ds,sp,en,h1,h2,h3,h4,h5,h6⟩
 ·simp only [List.cons.injEq,and_true] at h1;subst h1;exact ⟨L.length,0,fun ρ v hv=>Ec _ _ hv,by rw [cN (Nat.le_refl _)];rfl,rfl,by rw [cN (Nat.le_refl _)];rfl⟩
 ·simp only [List.cons.injEq,and_true] at h1;subst h1;have hz:Try.prog.cellsOf 40=2:=by kernel_rfl
  rw [hz] at h4 h6
  have key:∀ j,j<ds.length→(∃ x,en.cells[j*2]?=some (.int .i64 x)∧(Lit.int .i64 x).wf=true)∧∃ b,en.cells[j*2+1]?=some (.bool b):=fun j hj=>by
   have h7:=h6 j ds[j] (List.getElem?_eq_getElem hj);obtain ⟨x,e1,e2⟩:=E5.fldInt (i:=0) (o:=0) (t:=3) (k:=.i64) (by kernel_rfl) (by kernel_rfl) (by kernel_rfl) h7;obtain ⟨b,e3⟩:=E5.fldBool (i:=1) (o:=1) (t:=4) (by kernel_rfl) (by kernel_rfl) (by kernel_rfl) h7;rw [eQ (by omega)] at e1 e3;exact ⟨⟨x,e1,e2⟩,b,e3⟩
  refine ⟨k,ds.length,fun ρ v hv=>P3 hv,by rw [Tn h3,h4],H4.2 fun j hj=>?_,?_⟩
  ·obtain ⟨⟨x,e1,e2⟩,b,e3⟩:=key j hj;have w:=sO e2;unfold gR xP;rw [Tn h3];have g:A3 en.cells (j*2)=x:=by simp [A3,e1]
   rw [g];simp only [D5,X0,isI,isB,e1,e3,Bool.and_eq_true,decide_eq_true_eq];exact ⟨by simp,w.1,w.2⟩
  ·rw [Tn h3,List.all_eq_true];intro v hv;obtain ⟨j,hj⟩:=List.getElem?_of_mem hv;have hlt:j<ds.length*2:=by rw [←h4];exact (List.getElem?_eq_some_iff.1 hj).1
   obtain ⟨⟨x,e1,_⟩,b,e3⟩:=key (j / 2) (by omega);by_cases hp:j % 2=0
   ·rw [show j / 2*2=j by omega,hj] at e1;simp only [Option.some.injEq] at e1;subst e1;rfl
   ·rw [show j / 2*2+1=j by omega,hj] at e3;simp only [Option.some.injEq] at e3;subst e3;rfl
end
end Go.Am
namespace Go.Am
open Go.ChangeShapes Go.WideShapes Go.ChangeAt Go.RowKit Go.Proofs
set_option maxRecDepth 100000
def iT (L:List RoE) (cs:List AV) (j:Nat):Prop:=cs[j*4+2]?=some .nils∨∃ k b,k<L.length∧cs[j*4+2]?=some (.slice false (.ro k) 0 b.length)∧GL L k=K5 b∧V3 b
structure Vp (L:List RoE) (ks c kp q:Nat):Prop where
 sec:∀ j,j<c→(∃ x,(GL L ks)[j*4]?=some (.int .i64 x))∧(∃ x,(GL L ks)[j*4+1]?=some (.int .i64 x))∧iT L (GL L ks) j∧∃ x,(GL L ks)[j*4+3]?=some (.int .i64 x)
 pls:R7 (GL L kp) q=true
 len:(GL L kp).length=q*2
 flat:(GL L kp).all plA=true
section
variable {H:Type} {L:List RoE} {a:AV} {d:DataW H} {cs:List AV}
theorem vC {n:Nat} (h:E5 Try.prog L (n+2) 37 [a] d):a=.nils∨∃ k b,k<L.length∧a=.slice false (.ro k) 0 (List.length b)∧GL L k=K5 b∧V3 b:=by
 rcases E5.asSlice (e:=5) (by kernel_rfl) h with ⟨h1,_⟩ | ⟨k,ds,sp,en,h1,h2,h3,h4,h5,h6⟩
 ·simp only [List.cons.injEq,and_true] at h1;exact .inl h1
 ·simp only [List.cons.injEq,and_true] at h1;subst h1;rw [show Try.prog.cellsOf 5=1 by kernel_rfl,Nat.mul_one] at h4
  have key:∀ j,j<en.cells.length→∃ i:Nat,en.cells[j]?=some (.int .u8 (i:Int))∧i<256:=fun j hj=>by
   have h7:=h6 j ds[j] (List.getElem?_eq_getElem (by omega));rw [show Try.prog.cellsOf 5=1 by kernel_rfl,Nat.mul_one] at h7;obtain ⟨i,g1,g2,_⟩:=E5.asInt (k:=.u8) (by kernel_rfl) h7;have w:=wf_u8 g2;refine ⟨i.toNat,?_,by omega⟩;rw [Int.toNat_of_nonneg w.1];exact aA g1
  refine .inr ⟨k,en.cells.map fun v=>match v with | .int _ x=>x.toNat | _=>0,(List.getElem?_eq_some_iff.1 h3).1,by rw [List.length_map,h4],?_,?_⟩
  ·rw [Tn h3];unfold K5;rw [List.map_map];refine List.ext_getElem? fun j=>?_;rw [List.getElem?_map];by_cases hj:j<en.cells.length
   ·obtain ⟨i,e1,_⟩:=key j hj;rw [e1];show _=some (AV.int .u8 (((i:Int).toNat:Nat):Int));rw [Int.toNat_natCast]
   ·rw [List.getElem?_eq_none (by omega)];rfl
  ·intro x hx;obtain ⟨v,hv,rfl⟩:=List.mem_map.1 hx;obtain ⟨j,hj⟩:=List.getElem?_of_mem hv;obtain ⟨i,e1,e2⟩:=key j (List.getElem?_eq_some_iff.1 hj).1;rw [hj] at e1;obtain rfl:=Option.some.inj e1;show (i:Int).toNat<256;rw [Int.toNat_natCast];exact e2
theorem nZ {n:Nat} (h:E5 Try.prog L (n+4) 22 [a] d):∃ k c,(∀ (ρ:Env) v,VR ρ a v→VR ρ (.slice true (.ro k) 0 c) v)∧∀ j,j<c→(∃ x,(GL L k)[j*4]?=some (.int .i64 x))∧(∃ x,(GL L k)[j*4+1]?=some (.int .i64 x))∧iT L (GL L k) j∧∃ x,(GL L k)[j*4+3]?=some (.int .i64 x):=by
 rcases E5.asSlice (e:=45) (by kernel_rfl) h with ⟨h1,_⟩ | ⟨k,ds,sp,en,h1,h2,h3,h4,h5,h6⟩
 ·simp only [List.cons.injEq,and_true] at h1;subst h1;exact ⟨L.length,0,fun ρ v hv=>Ec _ _ hv,fun j hj=>absurd hj (Nat.not_lt_zero j)⟩
 ·simp only [List.cons.injEq,and_true] at h1;subst h1;have hz:Try.prog.cellsOf 45=4:=by kernel_rfl
  rw [hz] at h4 h6;refine ⟨k,ds.length,fun ρ v hv=>P3 hv,fun j hj=>?_⟩;have h7:=h6 j ds[j] (List.getElem?_eq_getElem hj);obtain ⟨x,e1,_⟩:=E5.fldInt (i:=0) (o:=0) (t:=3) (k:=.i64) (by kernel_rfl) (by kernel_rfl) (by kernel_rfl) h7;obtain ⟨r,e2,_⟩:=E5.fldInt (i:=1) (o:=1) (t:=3) (k:=.i64) (by kernel_rfl) (by kernel_rfl) (by kernel_rfl) h7;obtain ⟨_,e3⟩:=E5.fld (i:=2) (o:=2) (t:=37) (by kernel_rfl) h7;obtain ⟨z,e4,_⟩:=E5.fldInt (i:=3) (o:=3) (t:=3) (k:=.i64) (by kernel_rfl) (by kernel_rfl) (by kernel_rfl) h7;rw [eQ (by omega)] at e1 e2 e4
  rw [show Try.prog.cellsOf 37=1 by kernel_rfl] at e3;rw [Tn h3];have hlt:j*4+2<en.cells.length:=by rw [h4];omega
  have e5:((((en.cells.drop (j*4)).take 4).drop 2).take 1)=[en.cells[j*4+2]]:=by
   refine List.ext_getElem? fun i=>?_
   match i with
   | 0=>rw [List.getElem?_take,if_pos (by omega),List.getElem?_drop,List.getElem?_take,if_pos (by omega),List.getElem?_drop,List.getElem?_eq_getElem (by omega)];rfl
   | i+1=>rw [List.getElem?_take,if_neg (by omega)];rfl
  rw [e5] at e3;refine ⟨⟨x,e1⟩,⟨r,e2⟩,?_,z,e4⟩;unfold iT;rw [List.getElem?_eq_getElem hlt];rcases vC (n:=n) e3 with g | ⟨k',b,g1,g2,g3,g4⟩
  ·exact .inl (by rw [g])
  ·exact .inr ⟨k',b,g1,by rw [g2],g3,g4⟩
theorem im_in {n:Nat} (h:E5 Try.prog L (n+5) 25 cs d):∃ s k c kp q,(∀ (ρ:Env) vs,VRs ρ cs vs→VRs ρ [.int .i64 s,.slice true (.ro k) 0 c,.slice true (.ro kp) 0 q] vs)∧Vp L k c kp q:=by
 obtain ⟨s,e1,_⟩:=E5.fldInt (i:=0) (o:=0) (t:=3) (k:=.i64) (by kernel_rfl) (by kernel_rfl) (by kernel_rfl) h;obtain ⟨_,e2⟩:=E5.fld (i:=1) (o:=1) (t:=22) (by kernel_rfl) h;obtain ⟨_,e3⟩:=E5.fld (i:=2) (o:=2) (t:=23) (by kernel_rfl) h
 have hl:cs.length=3:=by
  have:=E5.flen (i:=0) (o:=0) (t:=3) (by kernel_rfl) h
  rwa [show Try.prog.cellsOf 25=3 by kernel_rfl] at this
 rw [show Try.prog.cellsOf 22=1 by kernel_rfl] at e2;rw [show Try.prog.cellsOf 23=1 by kernel_rfl] at e3
 match cs,hl with
 | [x,y,z],_=>
  simp at e1;subst e1;obtain ⟨kp,q,v2,o3,o4,o5⟩:=vA (n:=n+1) (by simpa using e3);obtain ⟨k,c,v1,o1⟩:=nZ (n:=n) (by simpa using e2);refine ⟨s,k,c,kp,q,fun ρ vs hv=>?_,⟨o1,o4,o3,o5⟩⟩;simp only [VRs] at hv ⊢;obtain ⟨w1,t1,r1,q1,w2,t2,r2,q2,w3,t3,r3,q3,q4⟩:=hv;exact ⟨w1,t1,r1,q1,w2,t2,r2,v1 ρ w2 q2,w3,t3,r3,v2 ρ w3 q3,q4⟩
end
end Go.Am
namespace Go.Am
open Go.RowKit Go.Proofs
set_option maxRecDepth 100000
theorem kN {cs:List AV}:∀ i,i≤20→(0≤Hv cs i∧Hv cs i≤99999*(i:Int))∧∀ j,j<i→((sN cs j:Int)≤Hv cs i∨99999≤Hv cs i)
 | 0,_=>⟨⟨Int.le_refl _,by show (0:Int)≤_;omega⟩,fun j hj=>absurd hj (Nat.not_lt_zero j)⟩
 | i+1,h=>by
  obtain ⟨⟨h1,h2⟩,h3⟩:=kN (cs:=cs) i (by omega)
  have e:Hv cs (i+1)=Hv cs i+(if 99999<(sN cs i:Int) then 99999 else (sN cs i:Int)):=by
   show IntKind.wrap .i64 (Hv cs i+(if 99999<(sN cs i:Int) then 99999 else (sN cs i:Int)))=_;refine B6 ?_
   split<;>omega
  rw [e];refine ⟨⟨?_,?_⟩,fun j hj=>?_⟩
  ·split<;>omega
  ·split<;>omega
  ·by_cases hji:j<i
   ·have:=h3 j hji
    split<;>omega
   ·have:j=i:=by omega
    subst this
    split<;>omega
theorem nP {cs:List AV} {n m:Nat} (h:Y3 cs n m=false):∀ j,j<n→sN cs j≤60000:=fun j hj=>by
 obtain ⟨h20,_⟩:=Um h;unfold Y3 at h;simp only [Bool.or_eq_false_iff,decide_eq_false_iff_not] at h;have h3:=h.2.2;rw [Nat.min_eq_left h20] at h3
 have:=(kN (cs:=cs) n h20).2 j hj
 omega
section
variable (L:List RoE) (ks c kp q z:Nat)
def Ev (cs:List AV) (e j:Nat):Nat:=match cs[j*4+2]? with
 | some (.slice _ (.ro k) _ _)=>k
 | _=>e
def K2:List AV:=A7 (GL L ks) c (dK (Ev (GL L ks) L.length) (GL L ks))
def GN (k:Nat):List AV:=
 if k<L.length then (if (GL L k).all Qi=true then GL L k else [])
 else if k=L.length+1 then K2 L ks c
 else if k=L.length+2 then GL L kp
 else if k=L.length+3 then J3 (shS (K2 L ks c) z c) (K2 L ks c) c (dK (L.length+5+·) (K2 L ks c))
 else if k=L.length+4 then B1 (shF (GL L kp) z q) (GL L kp) q
 else if L.length+5≤k∧k<L.length+13 then K5 (M1 (dB0 (GL L) (K2 L ks c) c) (K2 L ks c) c z (GL L kp) q (k - (L.length+5)))
 else []
def Lz (k:Nat):Option Nat:=if k≤L.length then some k else if k=L.length+1 then some ks else if k=L.length+2 then some kp else none
end
section
variable {L:List RoE} {ks c kp q z:Nat}
theorem GN_lo {k:Nat} (h:k<L.length) (hu:(GL L k).all Qi=true):GN L ks c kp q z k=GL L k:=by unfold GN;rw [if_pos h,if_pos hu]
theorem GN_0:GN L ks c kp q z L.length=[]:=by
 unfold GN;rw [if_neg (by omega),if_neg (by omega),if_neg (by omega),if_neg (by omega),if_neg (by omega),if_neg (by omega)]
theorem Ed:GN L ks c kp q z (L.length+1)=K2 L ks c:=by unfold GN;rw [if_neg (by omega),if_pos rfl]
theorem Vq:GN L ks c kp q z (L.length+2)=GL L kp:=by unfold GN;rw [if_neg (by omega),if_neg (by omega),if_pos rfl]
theorem GN_3:GN L ks c kp q z (L.length+3)=J3 (shS (K2 L ks c) z c) (K2 L ks c) c (dK (L.length+5+·) (K2 L ks c)):=by
 unfold GN;rw [if_neg (by omega),if_neg (by omega),if_neg (by omega),if_pos rfl]
theorem GN_4:GN L ks c kp q z (L.length+4)=B1 (shF (GL L kp) z q) (GL L kp) q:=by
 unfold GN;rw [if_neg (by omega),if_neg (by omega),if_neg (by omega),if_neg (by omega),if_pos rfl]
theorem GN_5 {j:Nat} (h:j<8):GN L ks c kp q z (L.length+5+j)=K5 (M1 (dB0 (GL L) (K2 L ks c) c) (K2 L ks c) c z (GL L kp) q j):=by
 unfold GN;rw [if_neg (by omega),if_neg (by omega),if_neg (by omega),if_neg (by omega),if_neg (by omega),if_pos (by omega),show L.length+5+j - (L.length+5)=j by omega]
theorem Nj {j b:Nat} (hj:j<c) (hb:b<4):(K2 L ks c)[j*4+b]?=some (Pu (GL L ks) (dK (Ev (GL L ks) L.length) (GL L ks)) j b):=O7 (f:=Pu (GL L ks) (dK (Ev (GL L ks) L.length) (GL L ks))) hj hb
theorem Th {j:Nat} (hj:j<c):sA (K2 L ks c) j=sA (GL L ks) j∧sR (K2 L ks c) j=sR (GL L ks) j∧sZ (K2 L ks c) j=sZ (GL L ks) j∧E7 (K2 L ks c) (j*4+2)=Ev (GL L ks) L.length j∧G1 (K2 L ks c) (j*4+2)=0∧sN (K2 L ks c) j=sN (GL L ks) j:=by
 have e0:=Nj (L:=L) (ks:=ks) hj (b:=0) (by omega);have e1:=Nj (L:=L) (ks:=ks) hj (b:=1) (by omega);have e2:=Nj (L:=L) (ks:=ks) hj (b:=2) (by omega);have e3:=Nj (L:=L) (ks:=ks) hj (b:=3) (by omega);rw [Nat.add_zero] at e0;refine ⟨?_,?_,?_,?_,?_,?_⟩
 ·show A3 (K2 L ks c) (j*4)=_;unfold A3;rw [e0];rfl
 ·show A3 (K2 L ks c) (j*4+1)=_;unfold A3;rw [e1];rfl
 ·show A3 (K2 L ks c) (j*4+3)=_;unfold A3;rw [e3];rfl
 ·unfold E7;rw [e2];rfl
 ·unfold G1;rw [e2];rfl
 ·show C2 (K2 L ks c) (j*4+2)=_;unfold C2;rw [e2];rfl
theorem rS (h:Vp L ks c kp q) {j:Nat} (hj:j<c):∃ b,V3 b∧b.length=sN (GL L ks) j∧GN L ks c kp q z (Ev (GL L ks) L.length j)=K5 b∧GL L (Ev (GL L ks) L.length j)=K5 b:=by
 obtain ⟨_,_,hd,_⟩:=h.sec j hj;rcases hd with e | ⟨k,b,g1,g2,g3,g4⟩
 ·have e1:Ev (GL L ks) L.length j=L.length:=by unfold Ev;rw [e]
  have e2:sN (GL L ks) j=0:=by
   show C2 (GL L ks) (j*4+2)=0;unfold C2;rw [e]
  refine ⟨[],fun x hx=>by simp at hx,e2.symm,?_,?_⟩
  ·rw [e1,GN_0];rfl
  ·rw [e1,cN (Nat.le_refl _)];rfl
 ·have e1:Ev (GL L ks) L.length j=k:=by unfold Ev;rw [g2]
  have e2:sN (GL L ks) j=b.length:=by
   show C2 (GL L ks) (j*4+2)=_;unfold C2;rw [g2]
  refine ⟨b,g4,e2.symm,?_,by rw [e1,g3]⟩;rw [e1,GN_lo g1 (by rw [g3];exact cF),g3]
theorem bY (h:Vp L ks c kp q) {j:Nat} (hj:j<c):∃ b,V3 b∧b.length=sN (GL L ks) j∧GN L ks c kp q z (E7 (K2 L ks c) (j*4+2))=K5 b∧N8 (GN L ks c kp q z) (K2 L ks c) j=K5 b∧N8 (GL L) (K2 L ks c) j=K5 b:=by
 obtain ⟨b,h1,h2,h3,h4⟩:=rS (z:=z) h hj;obtain ⟨_,_,_,a1,a2,a3⟩:=Th (L:=L) (ks:=ks) hj;have a3:C2 (K2 L ks c) (j*4+2)=sN (GL L ks) j:=a3;have e:B9 (K5 b) 0 (sN (GL L ks) j)=K5 b:=V6 (by rw [Jr,h2]);refine ⟨b,h1,h2,by rw [a1];exact h3,?_,?_⟩
 ·unfold N8;rw [a1,a2,a3,h3,e]
 ·unfold N8;rw [a1,a2,a3,h4,e]
theorem rV (h:Vp L ks c kp q):dB0 (GN L ks c kp q z) (K2 L ks c) c=dB0 (GL L) (K2 L ks c) c:=by
 funext j;unfold dB0;split
 ·rename_i hj;obtain ⟨b,_,_,_,e1,e2⟩:=bY (z:=z) h hj;rw [Tg e1,Tg e2]
 ·rfl
theorem Zv {l:List AV} (h:l.all plA=true):N9 l=true∧A5 0 l=true∧∀ v∈l,E6 v=true∧∀ σ,sb σ 0 v=v:=by
 rw [List.all_eq_true] at h;refine ⟨?_,?_,fun v hv=>?_⟩
 ·unfold N9;rw [List.all_eq_true];intro v hv
  have:=h v hv
  unfold plA at this;split at this<;>first | rfl | cases this
 ·rw [J5,List.all_eq_true];intro v hv
  have:=h v hv
  unfold plA at this;split at this<;>first | rfl | cases this
 ·have:=h v hv
  unfold plA at this;split at this<;>first | exact ⟨rfl,fun σ=>by simp [sb]⟩ | cases this
theorem rI (h:Vp L ks c kp q) (hm:Y3 (K2 L ks c) c q=false):Bx (GN L ks c kp q z) (L.length+1) (L.length+2) c q∧Tk (GN L ks c kp q z) (L.length+1) (L.length+2) c q:=by
 obtain ⟨h20,h1000⟩:=Um hm;have hlen:=nP hm;have hsec:I4 (K2 L ks c) c=true:=by unfold K2;rw [Rn];exact Zg
 have dt:=fun j hj=>bY (z:=z) h (j:=j) hj;have flatS:A5 0 (K2 L ks c)=true:=Bo fun j hj=>rfl
 have hcl:N9 (K2 L ks c)=true:=by
  unfold N9;rw [List.all_eq_true];intro v hv;unfold K2 A7 M9 at hv;obtain ⟨j,hj,rfl⟩:=List.mem_map.1 hv;have hb:j % 4<4:=Nat.mod_lt _ (by omega);generalize j % 4=b at hb
  match b,hb with
  | 0,_=>rfl
  | 1,_=>rfl
  | 2,_=>rfl
  | 3,_=>rfl
 have hl:(K2 L ks c).length=c*4:=Dk;obtain ⟨p1,p2,_⟩:=Zv h.flat;refine ⟨⟨by rw [Ed];exact hsec,by rw [Vq];exact h.pls,U8.2 ⟨⟨by rw [Ed];exact hsec,?_⟩,?_,?_⟩,fun j hj=>?_⟩,⟨?_,fun j hj=>?_,fun j hj=>?_,?_⟩⟩
 ·rw [Ed];refine J0.2 ⟨⟨C6.2 (by omega),?_⟩,by omega,?_⟩
  ·rw [V6 hl];exact hcl
  ·rw [V6 hl];exact flatS
 ·rw [Vq];refine J0.2 ⟨⟨C6.2 (by rw [h.len];omega),?_⟩,by omega,?_⟩
  ·rw [V6 h.len];exact p1
  ·rw [V6 h.len];exact p2
 ·intro j hj;rw [Ed];obtain ⟨b,_,b2,b3,b4,_⟩:=dt j hj;obtain ⟨_,_,_,_,a2,a3⟩:=Th (L:=L) (ks:=ks) hj;have hn:=hlen j hj;rw [b3,a2];have e:(K5 b).length=sN (K2 L ks c) j:=by rw [Jr,b2,a3]
  refine J0.2 ⟨⟨C6.2 (by rw [e];omega),?_⟩,by omega,?_⟩
  ·rw [Nat.mul_one,V6 e];unfold N9;rw [List.all_eq_true];intro v hv;obtain ⟨x,_,rfl⟩:=List.mem_map.1 hv;rfl
  ·rw [Nat.mul_one,V6 e];exact Le
 ·rw [Ed];obtain ⟨b,b1,_,_,b4,_⟩:=dt j hj;exact ⟨b,b1,b4⟩
 ·rw [Ed];refine N4 fun a b ha hb=>?_;obtain ⟨a1,a2,a3,a4,a5,a6⟩:=Th (L:=L) (ks:=ks) ha
  match b,hb with
  | 0,_=>show AV.int .i64 (sA (GL L ks) a)=.int .i64 (sA (K2 L ks c) a);rw [a1]
  | 1,_=>show AV.int .i64 (sR (GL L ks) a)=.int .i64 (sR (K2 L ks c) a);rw [a2]
  | 2,_=>
   show dK (Ev (GL L ks) L.length) (GL L ks) a=dR (K2 L ks c) a;unfold dK dR;rw [a4,a5,a6]
  | 3,_=>show AV.int .i64 (sZ (GL L ks) a)=.int .i64 (sZ (K2 L ks c) a);rw [a3]
 ·rw [Ed];exact (Th (L:=L) (ks:=ks) hj).2.2.2.2.1
 ·rw [Ed];obtain ⟨b,_,_,b3,b4,_⟩:=dt j hj;rw [b3,b4]
 ·rw [Vq]
  have:=kB h.pls (Nat.le_of_eq h.len.symm)
  rwa [V6 h.len] at this
theorem mN (h:Vp L ks c kp q):oX (Lz L ks kp) (GL L) (GN L ks c kp q z):=by
  have σk:∀ k,k≤L.length→σS (Lz L ks kp) k=(.ro k,0):=fun k hk=>by unfold σS Lz;rw [if_pos hk]
  intro k k1 hs j v hv;unfold Lz at hs;by_cases h1:k≤L.length
  · rw [if_pos h1] at hs;obtain rfl:=Option.some.inj hs;by_cases h2:k<L.length
    · unfold GN at hv;rw [if_pos h2] at hv;split at hv
      · rename_i hu;have hm:=List.mem_of_getElem? hv;rw [List.all_eq_true] at hu
        have:=hu v hm
        unfold Qi at this;split at this
        · exact ⟨_,hv,rfl,fun ρ cv h=>by simpa [sb] using h⟩
        · cases this
      · simp at hv
    · have:k=L.length:=by omega
      subst this;rw [GN_0] at hv;simp at hv
  · rw [if_neg h1] at hs;by_cases h2:k=L.length+1
    · rw [if_pos h2] at hs;obtain rfl:=Option.some.inj hs;subst h2;rw [Ed] at hv;have hl:(K2 L ks c).length=c*4:=Dk;have hj:j<c*4:=by rw [←hl];exact (List.getElem?_eq_some_iff.1 hv).1
      obtain ⟨g1,g2,g3⟩:=Oy hj;have e:=Nj (L:=L) (ks:=ks) g1 g2;rw [← g3, hv] at e;obtain rfl:=Option.some.inj e;obtain ⟨⟨x,q0⟩,⟨r,q1⟩,q2,y,q3⟩:=h.sec _ g1;generalize j / 4=a at *;generalize j % 4=b at *;subst g3
      match b,g2 with
      | 0,_=>
        have e:A3 (GL L ks) (a*4)=x:=by unfold A3;rw [q0]
        refine ⟨_,q0,rfl,fun ρ cv h=>?_⟩;show VR ρ (sb _ 0 (.int .i64 (A3 (GL L ks) (a*4)))) cv;rw [e];simpa [sb] using h
      | 1,_=>
        have e:A3 (GL L ks) (a*4+1)=r:=by unfold A3;rw [q1]
        refine ⟨_,q1,rfl,fun ρ cv h=>?_⟩;show VR ρ (sb _ 0 (.int .i64 (A3 (GL L ks) (a*4+1)))) cv;rw [e];simpa [sb] using h
      | 2,_=>
        rcases q2 with e | ⟨k',b,w1,w2,w3,w4⟩
        · refine ⟨_,e,rfl,fun ρ cv h=>?_⟩;show VR ρ (sb _ 0 (dK (Ev (GL L ks) L.length) (GL L ks) a)) cv;have e1:Ev (GL L ks) L.length a=L.length:=by unfold Ev;rw [e]
          have e2:sN (GL L ks) a=0:=by
            show C2 (GL L ks) (a*4+2)=0;unfold C2;rw [e]
          unfold dK;rw [e1,e2];simp only [sb,σk _ (Nat.le_refl _),Nat.zero_add];exact Ec _ _ h
        · refine ⟨_,w2,rfl,fun ρ cv h=>?_⟩;show VR ρ (sb _ 0 (dK (Ev (GL L ks) L.length) (GL L ks) a)) cv;have e1:Ev (GL L ks) L.length a=k':=by unfold Ev;rw [w2]
          have e2:sN (GL L ks) a=b.length:=by
            show C2 (GL L ks) (a*4+2)=_;unfold C2;rw [w2]
          unfold dK;rw [e1,e2];simp only [sb,σk _ (Nat.le_of_lt w1),Nat.zero_add];exact P3 h
      | 3,_=>
        have e:A3 (GL L ks) (a*4+3)=y:=by unfold A3;rw [q3]
        refine ⟨_,q3,rfl,fun ρ cv h=>?_⟩;show VR ρ (sb _ 0 (.int .i64 (A3 (GL L ks) (a*4+3)))) cv;rw [e];simpa [sb] using h
    · rw [if_neg h2] at hs;by_cases h3:k=L.length+2
      · rw [if_pos h3] at hs;obtain rfl:=Option.some.inj hs;subst h3;rw [Vq] at hv;obtain ⟨_,_,p3⟩:=Zv h.flat;obtain ⟨n1,n2⟩:=p3 v (List.mem_of_getElem? hv);exact ⟨v,hv,n1,fun ρ cv h=>by rw [n2];exact h⟩
      · rw [if_neg h3] at hs;cases hs
end
end Go.Am
