/-
  ImageReads: the law, where the bytes are refused and where they are re ImageReads: the law, where the bytes are read.
-/
import Derived.Test.YthejjolnlngahaaPart26
import Derived.Test.YthejjolnlngahaaPart12
import Derived.Test.YthejjolnlngahaaBase5
namespace Go.Am
open Go.Proofs
set_option maxRecDepth 100000
theorem str_w {l:List AV}:F8 (l++[AV.int .u8 119])=F8 l++[119]:=by rw [aG6];rfl
theorem yC (G:Nat→List AV) (B:Nat):ACalls (za G B) 15 [.agg [.int .i64 0,.nils,.nils],.agg [.int .i64 0,.nils,.nils]] [] fun v _=>v=.bool true:=by
 have h2:=aL G B 0 0 0 0 0 0 0 0 0 0 (by rfl) (by rfl) (by rfl) (by rfl);refine (ACalls.weaken h2 fun ρ vs hv=>?_).monoK fun v H e=>by rw [e,tV]
 simp only [VRs,VR] at hv ⊢;obtain ⟨v1,s1,r1,⟨us,r2,x1,t1,r3,q1,x2,t2,r4,q2,x3,t3,r5,q3,q4⟩,v2,s2,p1,⟨us',p2,y1,u1,p3,o1,y2,u2,p4,o2,y3,u3,p5,o3,o4⟩,p6⟩:=hv;exact ⟨v1,s1,r1,⟨us,r2,x1,t1,r3,q1,x2,t2,r4,Is 0 0 (by simpa only [VR] using q2),x3,t3,r5,Is 0 0 (by simpa only [VR] using q3),q4⟩,v2,s2,p1,⟨us',p2,y1,u1,p3,o1,y2,u2,p4,Is 0 0 (by simpa only [VR] using o2),y3,u3,p5,Is 0 0 (by simpa only [VR] using o3),o4⟩,p6⟩
theorem ir_no (G:Nat→List AV) (B:Nat) (kb L ks kp:Nat) (kd:Nat→Nat) (hA:Zw G kb) (h8:E4 (G kb)=true) (hl:(G kb).length=L) (hL:L≤20000) (g:Yh G ks kp kd (G kb)) (ho:Y1 G ks kp (G kb)=false) (h31:ACalls (za G B) 31 [.slice true (.ro kb) 0 L] [] fun v _=>v=.tup [.agg [.int .i64 0,.nils,.nils],.int .i64 4]) :
  ACalls (za G B) 8 [.slice true (.ro kb) 0 L] [] fun v _=>v=.bool true:=by
 have r29:∀ {H:Hp},H[2]?=some (some ⟨1,((G kb)++[AV.int .u8 119])⟩)→ACalls (za G B) 29 [.slice true (.rw 2) 0 L] H fun v H'=>v=.tup [.agg [.int .i64 0,.nils,.nils],.int .i64 4]∧H'=H:=fun {H} hi=>by
  have:=rd_inN G B kb ks kp 2 kd hA h8 (by omega) g ho hi
  rwa [hl] at this
 have l8:loopsOf (C3 Try.f8)=[A5 Try.f8 0,A5 Try.f8 1,A5 Try.f8 2]:=by kernel_rfl
 have d1:F5 (za G B) 0 (A5 Try.f8 0) (D4 2573 (D9 [.slice true (.rw 2) 0 (L+1),.ptr (.rw 3) 0,.ptr (.rw 4) 0,.ptr (.rw 5) 0,.int .i64 0] (Yd ((G kb)++[AV.int .u8 119]))) 0 106 [3,4,6,8,10] (.one (.exit 0) [.undef,.ptr (.rw 3) (.lit 0),.ptr (.rw 4) (.lit 0),.ptr (.rw 5) (.lit 0),.undef] [none,some ⟨1,.of [.int .u8 (.lit 119)]⟩,some ⟨1,.var 12 (Dw ((G kb)++[AV.int .u8 119]) (L+1))⟩,some ⟨1,.of [.int .i64 (.lit 0),.nils,.nils]⟩,some ⟨1,.of [.int .i64 (.lit 0),.nils,.nils]⟩,some ⟨1,.of [.int .i64 (.lit 0),.nils,.nils]⟩])):=by
  refine N7 rfl (((rn_lp0 G B ((G kb)++[AV.int .u8 119]) (L+1) (by simp [hl]) (by omega)).pin (zA8 _)).lmono ?_);rintro e vs H ⟨rfl,hw,rfl⟩;exact ⟨rfl,.inl ⟨hw,rfl⟩⟩
 have d2:F5 (za G B) 0 (A5 Try.f8 1) (D4 2574 (D9 [.ptr (.rw 3) 0,.ptr (.rw 4) 0,.ptr (.rw 5) 0,.int .i64 0] (Yd (Dw ((G kb)++[AV.int .u8 119]) (L+1)))) 2 106 [4,6,8,11] (.one (.exit 2) [.undef,.ptr (.rw 4) (.lit 0),.ptr (.rw 5) (.lit 0),.undef] [none,some ⟨1,.of [.int .u8 (.lit 119)]⟩,some ⟨1,.var 12 (Dw ((G kb)++[AV.int .u8 119]) (L+1))⟩,some ⟨1,.of [.int .i64 (.lit 0),.nils,.nils]⟩,some ⟨1,.of [.int .i64 (.lit 0),.nils,.nils]⟩,some ⟨1,.of [.int .i64 (.lit 0),.nils,.nils]⟩])):=by
  refine N7 rfl (((rn_lp2 G B (Dw ((G kb)++[AV.int .u8 119]) (L+1))).pin (zA8 _)).lmono ?_);rintro e vs H ⟨rfl,hw,rfl⟩;exact ⟨rfl,.inl ⟨hw,rfl⟩⟩
 have key:=C8 (C:=(za G B)) (K:=(Dc Try.prog [16] [(11,trueS),(29,sLen 3 (Bl 2570 (D9 [.slice true (.rw 2) 0 L] ([none,some ⟨1,[.int .u8 119]⟩,some ⟨1,((G kb)++[AV.int .u8 119])⟩])) (.one (.tup [(.agg (.of [.int .i64 (.lit 0),.nils,.nils])),.int .i64 (.lit 4)]) [])) (Bl 2576 (D9 [.slice true (.rw 2) 0 L] ([none,some ⟨1,[.int .u8 119]⟩,some ⟨1,((G kb)++[AV.int .u8 119])⟩,some ⟨1,[.int .i64 0,.nils,.nils]⟩])) (.one (.tup [(.agg (.of [.int .i64 (.lit 0),.nils,.nils])),.int .i64 (.lit 4)]) []))),(31,Fs 2571 (D9 [.slice true (.ro kb) 0 L] []) (.one (.tup [(.agg (.of [.int .i64 (.lit 0),.nils,.nils])),.int .i64 (.lit 4)]) [])),(15,Fs 2572 (D9 [.agg [.int .i64 0,.nils,.nils],.agg [.int .i64 0,.nils,.nils]] []) (.one (.bool (.lit true)) []))] [D4 2573 (D9 [.slice true (.rw 2) 0 (L+1),.ptr (.rw 3) 0,.ptr (.rw 4) 0,.ptr (.rw 5) 0,.int .i64 0] (Yd ((G kb)++[AV.int .u8 119]))) 0 106 [3,4,6,8,10] (.one (.exit 0) [.undef,.ptr (.rw 3) (.lit 0),.ptr (.rw 4) (.lit 0),.ptr (.rw 5) (.lit 0),.undef] [none,some ⟨1,.of [.int .u8 (.lit 119)]⟩,some ⟨1,.var 12 (Dw ((G kb)++[AV.int .u8 119]) (L+1))⟩,some ⟨1,.of [.int .i64 (.lit 0),.nils,.nils]⟩,some ⟨1,.of [.int .i64 (.lit 0),.nils,.nils]⟩,some ⟨1,.of [.int .i64 (.lit 0),.nils,.nils]⟩]),D4 2574 (D9 [.ptr (.rw 3) 0,.ptr (.rw 4) 0,.ptr (.rw 5) 0,.int .i64 0] (Yd (Dw ((G kb)++[AV.int .u8 119]) (L+1)))) 2 106 [4,6,8,11] (.one (.exit 2) [.undef,.ptr (.rw 4) (.lit 0),.ptr (.rw 5) (.lit 0),.undef] [none,some ⟨1,.of [.int .u8 (.lit 119)]⟩,some ⟨1,.var 12 (Dw ((G kb)++[AV.int .u8 119]) (L+1))⟩,some ⟨1,.of [.int .i64 (.lit 0),.nils,.nils]⟩,some ⟨1,.of [.int .i64 (.lit 0),.nils,.nils]⟩,some ⟨1,.of [.int .i64 (.lit 0),.nils,.nils]⟩])] 0)) (R:=fun v _=>v=.bool true) (by rw [l8];exact C7 (mix G B) (by kernel_rfl) (.cons (Yn G B) (.cons (cZ (Mb rfl ((r29 rfl).monoK fun v H e=>e)) (Mb rfl ((r29 rfl).monoK fun v H e=>e))) (.cons (Lc (v0:=.tup [.agg [.int .i64 0,.nils,.nils],.int .i64 4]) rfl h31 rfl rfl (by simp) rfl) (.cons (Lc (v0:=.bool true) rfl (yC G B) rfl rfl (by simp) rfl) .nil)))) (.cons (i:=0) (by kernel_rfl) rfl d1 (.cons (i:=2) (by kernel_rfl) rfl d2 (.miss (i:=4) (by kernel_rfl) rfl .nil)))) (fuel:=500) (n0:=20) (f:=8) (fn:=Try.f8) (args:=[.slice true (.ro (.var 26 kb)) (.lit 0) (.var 5 L)]) (H:=[]) (keep:=0) (by kernel_rfl) (by kernel_rfl) (by kernel_rfl) (by
  rw [yT,L3 hl];have hw:(((G kb)++[AV.int .u8 119])).length=L+1:=by simp [hl]
  rw [L3 hw,str_w];refine ⟨fun h=>rfl,fun _=>⟨A8.2 (Nat.le_of_eq hl.symm),F9 (G9 h8),A8.2 (by omega),A8.2 (by omega),by rw [hl,zA9],yI (by omega),yI (by omega),D2,yI (by omega),yI (by omega),D2,D2,A8.2 (by omega),?_,A8.2 (Nat.le_of_eq hl.symm),G9 h8,A8.2 (by unfold F8;rw [List.length_map];omega),fun _=>⟨D2,D2,D2,D2,rfl⟩,fun h=>by rw [beq_self_eq_true] at h;cases h⟩⟩
  exact qF (G9 h8) rfl)
 exact key.monoK fun v H h=>h
theorem rB {G:Nat→List AV} {cs:List AV} {n b:Nat} {H:Hp} (h:∀ q,q<8→H[b+q]?=some (some ⟨1,B1 (K8 G cs n) q⟩)) (h8:n≤8) {j:Nat} (hj:j<n):H[b+j]?=some (some ⟨1,F7 G cs j⟩):=by
 rw [h j (by omega),Jr (by omega),if_pos hj]
theorem ir_yes (G:Nat→List AV) (B:Nat) (kb L ks kp kd0 n m:Nat) (s:Int) (hA:Zw G kb) (h8:E4 (G kb)=true) (hl:(G kb).length=L) (hL:L≤20000) (hk:(G kb)=E3 G s (G ks) n (G kp) m) (O:Qi G ks kp kd0 n) (hb:Ad G ks kp n m) (hw:Z4 G ks kp n m) (hy:K1 s (G ks) n (G kp) m=true)
  (h31:ACalls (za G B) 31 [.slice true (.ro kb) 0 L] [] fun v _=>v=.tup [.agg [.int .i64 s,.slice true (.ro ks) 0 n,.slice true (.ro kp) 0 m],.int .i64 0]) :
  ACalls (za G B) 8 [.slice true (.ro kb) 0 L] [] fun v _=>v=.bool true:=by
 obtain ⟨⟨n8,m512⟩,_⟩:=Fw hy;have hn:n≤1000000:=by omega
 have hm:m≤1000000:=by omega
 have r29:∀ {H:Hp},H[2]?=some (some ⟨1,((G kb)++[AV.int .u8 119])⟩)→ACalls (za G B) 29 [.slice true (.rw 2) 0 L] H fun v H'=>v=.tup [.agg [.int .i64 s,.slice true (.rw H.length) 0 n,.slice true (.rw (H.length+1)) 0 m],.int .i64 0]∧H'=H++Ul G ks kp n m (H.length+2):=fun {H} hi=>by
  have:=rd_in G B kb ks kp kd0 n m 2 s hA hk O hb hw hn hm hy hi
  rwa [hl] at this
 have c1:DSumOk (za G B) 29 (Bl 2570 (D9 [.slice true (.rw 2) 0 L] ([none,some ⟨1,[.int .u8 119]⟩,some ⟨1,((G kb)++[AV.int .u8 119])⟩])) (.one (.tup [.agg (.of [.int .i64 (.var 1 s),.slice true (.rw 3) (.lit 0) (.var 3 n),.slice true (.rw 4) (.lit 0) (.var 4 m)]),.int .i64 (.lit 0)]) (.new ⟨4,.var 21 (G7 (G ks) n (dW 5 (G ks)))⟩ :: .new ⟨2,.var 7 (I8 (xP (G kp)) (G kp) m)⟩ :: rN8 (.var 22 (K8 G (G ks) n)) []))):=Mb rfl ((r29 rfl).monoK fun v H ⟨e1,e2⟩=>⟨e1,e2⟩)
 have c2:DSumOk (za G B) 29 (Bl 2576 (D9 [.slice true (.rw 2) 0 L] ([none,some ⟨1,[.int .u8 119]⟩,some ⟨1,((G kb)++[AV.int .u8 119])⟩]++Ul G ks kp n m 5++[some ⟨1,(J3 s (.rw 3) (.rw 4) n m)⟩])) (.one (.tup [.agg (.of [.int .i64 (.var 1 s),.slice true (.rw 14) (.lit 0) (.var 3 n),.slice true (.rw 15) (.lit 0) (.var 4 m)]),.int .i64 (.lit 0)]) (.new ⟨4,.var 31 (G7 (G ks) n (dW 16 (G ks)))⟩ :: .new ⟨2,.var 7 (I8 (xP (G kp)) (G kp) m)⟩ :: rN8 (.var 22 (K8 G (G ks) n)) []))):=Mb rfl ((r29 (H:=([none,some ⟨1,[.int .u8 119]⟩,some ⟨1,((G kb)++[AV.int .u8 119])⟩]++Ul G ks kp n m 5++[some ⟨1,(J3 s (.rw 3) (.rw 4) n m)⟩])) rfl).monoK fun v H ⟨e1,e2⟩=>⟨e1,e2⟩)
 have c3:DSumOk (za G B) 15 (Bl 2572 (D9 [.agg (J3 s (.rw 3) (.rw 4) n m),.agg (J3 s (.ro ks) (.ro kp) n m)] (Gy ((G kb)++[AV.int .u8 119]) (G7 (G ks) n (dW 5 (G ks))) (I8 (xP (G kp)) (G kp) m) (K8 G (G ks) n) (J3 s (.rw 3) (.rw 4) n m) (G7 (G ks) n (dW 16 (G ks))) (K8 G (G ks) n) (J3 s (.rw 14) (.rw 15) n m) (J3 s (.ro ks) (.ro kp) n m))) (.one (.bool (.lit true)) [])):=Mb rfl (lO G B ks kp n m 3 4 5 s hb hw hn hm (H:=(Gy ((G kb)++[AV.int .u8 119]) (G7 (G ks) n (dW 5 (G ks))) (I8 (xP (G kp)) (G kp) m) (K8 G (G ks) n) (J3 s (.rw 3) (.rw 4) n m) (G7 (G ks) n (dW 16 (G ks))) (K8 G (G ks) n) (J3 s (.rw 14) (.rw 15) n m) (J3 s (.ro ks) (.ro kp) n m))) rfl rfl fun j hj=>rB (fun q hq=>by
  match q,hq with
  | 0,_=>rfl
  | 1,_=>rfl
  | 2,_=>rfl
  | 3,_=>rfl
  | 4,_=>rfl
  | 5,_=>rfl
  | 6,_=>rfl
  | 7,_=>rfl) n8 hj)
 have c4:DSumOk (za G B) 15 (Bl 2575 (D9 [.agg (J3 s (.rw 14) (.rw 15) n m),.agg (J3 s (.ro ks) (.ro kp) n m)] (Gy (Dw ((G kb)++[AV.int .u8 119]) (L+1)) (Lz (G7 (G ks) n (dW 5 (G ks))) n) (I8 (xP (G kp)) (G kp) m) (J6 (Vi (cA G (G ks) n) (sN (G ks)) n)) (J3 s (.rw 3) (.rw 4) n m) (G7 (G ks) n (dW 16 (G ks))) (K8 G (G ks) n) (J3 s (.rw 14) (.rw 15) n m) (J3 s (.ro ks) (.ro kp) n m))) (.one (.bool (.lit true)) [])):=Mb rfl (lO G B ks kp n m 14 15 16 s hb hw hn hm (H:=(Gy (Dw ((G kb)++[AV.int .u8 119]) (L+1)) (Lz (G7 (G ks) n (dW 5 (G ks))) n) (I8 (xP (G kp)) (G kp) m) (J6 (Vi (cA G (G ks) n) (sN (G ks)) n)) (J3 s (.rw 3) (.rw 4) n m) (G7 (G ks) n (dW 16 (G ks))) (K8 G (G ks) n) (J3 s (.rw 14) (.rw 15) n m) (J3 s (.ro ks) (.ro kp) n m))) rfl rfl fun j hj=>rB (fun q hq=>by
  match q,hq with
  | 0,_=>rfl
  | 1,_=>rfl
  | 2,_=>rfl
  | 3,_=>rfl
  | 4,_=>rfl
  | 5,_=>rfl
  | 6,_=>rfl
  | 7,_=>rfl) n8 hj)
 have l8:loopsOf (C3 Try.f8)=[A5 Try.f8 0,A5 Try.f8 1,A5 Try.f8 2]:=by kernel_rfl
 have d1:F5 (za G B) 0 (A5 Try.f8 0) (D4 2573 (D9 [.slice true (.rw 2) 0 (L+1),.ptr (.rw 13) 0,.ptr (.rw 24) 0,.ptr (.rw 25) 0,.int .i64 0] (Gy ((G kb)++[AV.int .u8 119]) (G7 (G ks) n (dW 5 (G ks))) (I8 (xP (G kp)) (G kp) m) (K8 G (G ks) n) (J3 s (.rw 3) (.rw 4) n m) (G7 (G ks) n (dW 16 (G ks))) (K8 G (G ks) n) (J3 s (.rw 14) (.rw 15) n m) (J3 s (.ro ks) (.ro kp) n m))) 0 106 [3,4,6,8,10] (.one (.exit 0) [.undef,.ptr (.rw 13) (.lit 0),.ptr (.rw 24) (.lit 0),.ptr (.rw 25) (.lit 0),.undef] (none :: some ⟨1,.of [.int .u8 (.lit 119)]⟩ :: some ⟨1,.var 12 (Dw ((G kb)++[AV.int .u8 119]) (L+1))⟩ :: some ⟨4,.var 21 (G7 (G ks) n (dW 5 (G ks)))⟩ :: some ⟨2,.var 7 (I8 (xP (G kp)) (G kp) m)⟩ :: U7 (.var 22 (K8 G (G ks) n)) (some ⟨1,.of [.int .i64 (.var 1 s),.slice true (.rw 3) (.lit 0) (.var 3 n),.slice true (.rw 4) (.lit 0) (.var 4 m)]⟩ :: some ⟨4,.var 31 (G7 (G ks) n (dW 16 (G ks)))⟩ :: some ⟨2,.var 7 (I8 (xP (G kp)) (G kp) m)⟩ :: U7 (.var 22 (K8 G (G ks) n)) [some ⟨1,.of [.int .i64 (.var 1 s),.slice true (.rw 14) (.lit 0) (.var 3 n),.slice true (.rw 15) (.lit 0) (.var 4 m)]⟩, some ⟨1,.of [.int .i64 (.var 1 s),.slice true (.ro (.var 24 ks)) (.lit 0) (.var 3 n),.slice true (.ro (.var 25 kp)) (.lit 0) (.var 4 m)]⟩])))):=by
  refine N7 rfl (((ry_lp0 G B ks kp n m s (G7 (G ks) n (dW 5 (G ks))) (G7 (G ks) n (dW 16 (G ks))) (I8 (xP (G kp)) (G kp) m) (K8 G (G ks) n) (K8 G (G ks) n) ((G kb)++[AV.int .u8 119]) (L+1) (by simp [hl]) (by omega)).pin (zA8 _)).lmono ?_);rintro e vs H ⟨rfl,hw,rfl⟩;exact ⟨rfl,.inl ⟨hw,rfl⟩⟩
 have d2:F5 (za G B) 0 (A5 Try.f8 1) (D4 2574 (D9 [.ptr (.rw 13) 0,.ptr (.rw 24) 0,.ptr (.rw 25) 0,.int .i64 0] (Gy (Dw ((G kb)++[AV.int .u8 119]) (L+1)) (G7 (G ks) n (dW 5 (G ks))) (I8 (xP (G kp)) (G kp) m) (K8 G (G ks) n) (J3 s (.rw 3) (.rw 4) n m) (G7 (G ks) n (dW 16 (G ks))) (K8 G (G ks) n) (J3 s (.rw 14) (.rw 15) n m) (J3 s (.ro ks) (.ro kp) n m))) 2 106 [4,6,8,11] (.one (.exit 2) [.undef,.ptr (.rw 24) (.lit 0),.ptr (.rw 25) (.lit 0),.undef] (none :: some ⟨1,.of [.int .u8 (.lit 119)]⟩ :: some ⟨1,.var 12 (Dw ((G kb)++[AV.int .u8 119]) (L+1))⟩ :: some ⟨4,.var 41 (Lz (G7 (G ks) n (dW 5 (G ks))) n)⟩ :: some ⟨2,.var 7 (I8 (xP (G kp)) (G kp) m)⟩ :: U7 (.var 43 (J6 (Vi (cA G (G ks) n) (sN (G ks)) n))) (some ⟨1,.of [.int .i64 (.var 1 s),.slice true (.rw 3) (.lit 0) (.var 3 n),.slice true (.rw 4) (.lit 0) (.var 4 m)]⟩ :: some ⟨4,.var 31 (G7 (G ks) n (dW 16 (G ks)))⟩ :: some ⟨2,.var 7 (I8 (xP (G kp)) (G kp) m)⟩ :: U7 (.var 22 (K8 G (G ks) n)) [some ⟨1,.of [.int .i64 (.var 1 s),.slice true (.rw 14) (.lit 0) (.var 3 n),.slice true (.rw 15) (.lit 0) (.var 4 m)]⟩, some ⟨1,.of [.int .i64 (.var 1 s),.slice true (.ro (.var 24 ks)) (.lit 0) (.var 3 n),.slice true (.ro (.var 25 kp)) (.lit 0) (.var 4 m)]⟩])))):=by
  have key:=ry_lp2 G B ks kp n m s (G7 (G ks) n (dW 5 (G ks))) (G7 (G ks) n (dW 16 (G ks))) (I8 (xP (G kp)) (G kp) m) (K8 G (G ks) n) (Dw ((G kb)++[AV.int .u8 119]) (L+1)) (cA G (G ks) n) (sN (G ks)) n8 Wh fun i hi=>⟨aX7 hi,sQ hb i hi,by have:=(Ie hy i hi).2.2.1;omega⟩;rw [←aP2 hb] at key;refine N7 rfl ((key.pin (zA8 _)).lmono ?_);rintro e vs H ⟨rfl,hw,rfl⟩;exact ⟨rfl,.inl ⟨hw,rfl⟩⟩
 have key:=C8 (C:=(za G B)) (K:=(Dc Try.prog [16] [(11,trueS),(29,sLen 3 (Bl 2570 _ _) (Bl 2576 _ _)),(31,Fs 2571 _ (.one (.tup [.agg (.of [.int .i64 (.var 1 s),.slice true (.ro (.var 24 ks)) (.lit 0) (.var 3 n),.slice true (.ro (.var 25 kp)) (.lit 0) (.var 4 m)]),.int .i64 (.lit 0)]) [])),(15,tY 3 (Bl 2572 _ _) (Bl 2575 _ _))] [D4 2573 _ 0 106 [3,4,6,8,10] _,D4 2574 _ 2 106 [4,6,8,11] _] 0)) (R:=fun v _=>v=.bool true) (by rw [l8];exact C7 (mix G B) (by kernel_rfl) (.cons (Yn G B) (.cons (cZ c1 c2) (.cons (Lc (v0:=.tup [.agg [.int .i64 s,.slice true (.ro ks) 0 n,.slice true (.ro kp) 0 m],.int .i64 0]) rfl h31 rfl rfl (by simp) rfl) (.cons (aX9 c3 c4) .nil)))) (.cons (i:=0) (by kernel_rfl) rfl d1 (.cons (i:=2) (by kernel_rfl) rfl d2 (.miss (i:=4) (by kernel_rfl) rfl .nil)))) (fuel:=500) (n0:=20) (f:=8) (fn:=Try.f8) (args:=[.slice true (.ro (.var 26 kb)) (.lit 0) (.var 5 L)]) (H:=[]) (keep:=0) (by kernel_rfl) (by kernel_rfl) (by kernel_rfl) (by
  rw [ry_law,L3 hl];have hw:(((G kb)++[AV.int .u8 119])).length=L+1:=by simp [hl]
  rw [L3 hw,str_w];refine ⟨fun h=>rfl,fun _=>⟨A8.2 (Nat.le_of_eq hl.symm),F9 (G9 h8),A8.2 (by omega),A8.2 (by omega),by rw [hl,zA9],yI (by omega),yI (by omega),D2,yI (by omega),yI (by omega),D2,D2,A8.2 (by omega),?_,A8.2 (Nat.le_of_eq hl.symm),G9 h8,A8.2 (by unfold F8;rw [List.length_map];omega),fun _=>⟨D2,D2,D2,D2,rfl⟩,fun h=>by rw [beq_self_eq_true] at h;cases h⟩⟩
  exact qF (G9 h8) rfl)
 exact key.monoK fun v H h=>h
theorem ir_big (G:Nat→List AV) (B:Nat) (kb L:Nat) (hL:20000<L):ACalls (za G B) 8 [.slice true (.ro kb) 0 L] [] fun v _=>v=.bool true:=by
 have l8:loopsOf (C3 Try.f8)=[A5 Try.f8 0,A5 Try.f8 1,A5 Try.f8 2]:=by kernel_rfl
 have key:=C8 (C:=(za G B)) (K:=(Dc Try.prog [16] [(11,trueS),(29,sLen 3 (Bl 2570 (fun _=>false) (.one (.tup [(.agg (.of [.int .i64 (.lit 0),.nils,.nils])),.int .i64 (.lit 4)]) [])) (Bl 2576 (fun _=>false) (.one (.tup [(.agg (.of [.int .i64 (.lit 0),.nils,.nils])),.int .i64 (.lit 4)]) []))),(31,Fs 2571 (fun _=>false) (.one (.tup [(.agg (.of [.int .i64 (.lit 0),.nils,.nils])),.int .i64 (.lit 4)]) [])),(15,Fs 2572 (fun _=>false) (.one (.bool (.lit true)) []))] [D4 2573 (fun _=>false) 0 106 [3,4,6,8,10] (.one (.exit 0) [.undef,.ptr (.rw 3) (.lit 0),.ptr (.rw 4) (.lit 0),.ptr (.rw 5) (.lit 0),.undef] [none,some ⟨1,.of [.int .u8 (.lit 119)]⟩,some ⟨1,.var 12 []⟩,some ⟨1,.of [.int .i64 (.lit 0),.nils,.nils]⟩,some ⟨1,.of [.int .i64 (.lit 0),.nils,.nils]⟩,some ⟨1,.of [.int .i64 (.lit 0),.nils,.nils]⟩]),D4 2574 (fun _=>false) 2 106 [4,6,8,11] (.one (.exit 2) [.undef,.ptr (.rw 4) (.lit 0),.ptr (.rw 5) (.lit 0),.undef] [none,some ⟨1,.of [.int .u8 (.lit 119)]⟩,some ⟨1,.var 12 []⟩,some ⟨1,.of [.int .i64 (.lit 0),.nils,.nils]⟩,some ⟨1,.of [.int .i64 (.lit 0),.nils,.nils]⟩,some ⟨1,.of [.int .i64 (.lit 0),.nils,.nils]⟩])] 0)) (R:=fun v _=>v=.bool true) (by rw [l8];exact C7 (mix G B) (by kernel_rfl) (.cons (Yn G B) (.cons (cZ yG yG) (.cons yD (.cons yD .nil)))) (.cons (i:=0) (by kernel_rfl) rfl tF (.cons (i:=2) (by kernel_rfl) rfl tF (.miss (i:=4) (by kernel_rfl) rfl .nil)))) (fuel:=500) (n0:=20) (f:=8) (fn:=Try.f8) (args:=[.slice true (.ro (.var 26 kb)) (.lit 0) (.var 5 L)]) (H:=[]) (keep:=0) (by kernel_rfl) (by kernel_rfl) (by kernel_rfl) (by
  rw [yT]
  exact ⟨fun h=>rfl,fun h=>absurd (sJ h) (by omega)⟩)
 exact key.monoK fun v H h=>h
def GR (l:List AV):Nat→List AV
 | 0=>l
 | 1=>eT (rzT l) (rzN l) (Cj l) (fun j=>5+j) (yK l)
 | 2=>fT (rzT l) (Gg l) (yM l)
 | 3=>M9 (rzT l) (rzN l) (d1 (rzT l) (rzA l)) (fun j=>1000005+j) (rzn l)
 | 4=>R4 (rzT l) (d1 (rzT l) (rzX l)) (rzm l)
 | k+5=>if k<1000000 then eD (rzT l) (rzN l) (D6 (rzT l) (rzN l) (Cj l) k) else dD (rzT l) (rzN l) (B3 (rzT l) (rzN l) (d1 (rzT l) (rzA l)) (k - 1000000))
theorem xK {l:List AV} (h:E4 l=true) (o n:Nat):E4 (A0 l o n)=true:=by
 simp only [E4,qD,A0] at h ⊢;intro v hv;exact h v (List.mem_of_mem_drop (List.mem_of_mem_take hv))
theorem yZ {s:List AV} {n:Nat} {a m:Int} (h:E4 s=true):E4 (J9 [.agg s,.ptr (.rw 0) n,.int .i64 a,.int .i64 m])=true:=by
 simp only [J9];split
 ·exact xK h _ _
 ·rfl
theorem yH {l:List AV} (h:E4 l=true):E4 (rzT l)=true:=xK h _ _
theorem aC {m z:Nat} {f:Nat→Nat→AV} {v:AV} (h:v∈L6 m z f):∃ i b,i*z+b<m*z∧b<z∧v=f i b:=by
 unfold L6 at h;obtain ⟨j,hj,rfl⟩:=List.mem_map.1 h;have hj:=List.mem_range.1 hj;have hz:0<z:=Nat.pos_of_ne_zero fun e=>by subst e;simp at hj
 exact ⟨j / z,j % z,by rw [Nat.mul_comm,Nat.div_add_mod];exact hj,Nat.mod_lt _ hz,rfl⟩
theorem wN {l:List AV} (h8:E4 l=true) (k:Nat) (v:AV) (hv:v∈GR l k):E8 v=true∧((∀ σ:Sig,sb σ 0 v=v)∨(k=1∧∃ j N,j<yK l∧v=.slice true (.ro (5+j)) 0 N)∨(k=3∧∃ j N,v=.slice true (.ro (1000005+j)) 0 N)):=by
 have u8:∀ {a:List AV},E4 a=true→v∈a→E8 v=true∧∀ σ:Sig,sb σ 0 v=v:=fun {a} ha hv=>by
  obtain ⟨j,hj⟩:=List.mem_iff_getElem?.1 hv;exact ⟨(Pb (G9 ha) (σ:=fun _=>(.rw 0,0)) hj).1,fun σ=>(Pb (G9 ha) (σ:=σ) hj).2⟩
 match k,hv with
 | 0,hv=>
  obtain ⟨h1,h2⟩:=u8 h8 hv;exact ⟨h1,.inl h2⟩
 | 1,hv=>
  obtain ⟨i,b,hi,hb,rfl⟩:=aC hv
  match b,hb with
  | 0,_=>exact ⟨rfl,.inl fun σ=>by simp [eC,sb]⟩
  | 1,_=>exact ⟨rfl,.inl fun σ=>by simp [eC,sb]⟩
  | 2,_=>exact ⟨rfl,.inr (.inl ⟨rfl,i,_,by omega,rfl⟩)⟩
  | 3,_=>exact ⟨rfl,.inl fun σ=>by simp [eC,sb]⟩
 | 2,hv=>
  obtain ⟨i,b,hi,hb,rfl⟩:=aC hv
  match b,hb with
  | 0,_=>exact ⟨rfl,.inl fun σ=>by simp [fC,sb]⟩
  | 1,_=>exact ⟨rfl,.inl fun σ=>by simp [fC,sb]⟩
 | 3,hv=>
  obtain ⟨i,b,hi,hb,rfl⟩:=aC hv
  match b,hb with
  | 0,_=>exact ⟨rfl,.inl fun σ=>by simp [Yu,sb]⟩
  | 1,_=>exact ⟨rfl,.inl fun σ=>by simp [Yu,sb]⟩
  | 2,_=>exact ⟨rfl,.inr (.inr ⟨rfl,i,_,rfl⟩)⟩
  | 3,_=>exact ⟨rfl,.inl fun σ=>by simp [Yu,sb]⟩
 | 4,hv=>
  obtain ⟨i,b,hi,hb,rfl⟩:=aC hv
  match b,hb with
  | 0,_=>exact ⟨rfl,.inl fun σ=>by simp [mL,sb]⟩
  | 1,_=>exact ⟨rfl,.inl fun σ=>by simp [mL,sb]⟩
 | k+5,hv=>
  have hv:v∈(if k<1000000 then eD (rzT l) (rzN l) (D6 (rzT l) (rzN l) (Cj l) k) else dD (rzT l) (rzN l) (B3 (rzT l) (rzN l) (d1 (rzT l) (rzA l)) (k - 1000000))):=hv
  have hu:E4 (if k<1000000 then eD (rzT l) (rzN l) (D6 (rzT l) (rzN l) (Cj l) k) else dD (rzT l) (rzN l) (B3 (rzT l) (rzN l) (d1 (rzT l) (rzA l)) (k - 1000000)))=true:=by
   split
   ·exact yZ (yH h8)
   ·exact yZ (yH h8)
  obtain ⟨h1,h2⟩:=u8 hu hv;exact ⟨h1,.inl h2⟩
theorem Wf {σ:Sig} {q N:Nat} (h:σ q=(.ro q,0)):sb σ 0 (.slice true (.ro q) 0 N)=.slice true (.ro q) 0 N:=by
 simp only [sb,h,Nat.zero_add]
theorem bE5 {l:List AV} (h8:E4 l=true):Zw (GR l) 0:=fun k v hv=>by
 obtain ⟨h1,h2⟩:=wN h8 k v hv;refine ⟨h1,fun σ hσ=>?_⟩;rcases h2 with h2 | ⟨_,j,N,_,rfl⟩ | ⟨_,j,N,rfl⟩
 ·exact h2 σ
 ·exact Wf (hσ _ (by omega))
 ·exact Wf (hσ _ (by omega))
theorem GR_y {l:List AV} (h8:E4 l=true) (hL:l.length≤1000000):YG (GR l) 1 2 (fun j=>5+j) l:=by
 refine ⟨fun j hj=>?_,rfl,rfl⟩
 have:=jO h8 hL
 rw [Nat.add_comm 5 j];exact if_pos (by omega)
theorem GR_z {l:List AV}:Yh (GR l) 3 4 (fun j=>1000005+j) l:=by
 refine ⟨fun j hj=>?_,rfl,rfl⟩;rw [show 1000005+j=(1000000+j)+5 by omega];show (if 1000000+j<1000000 then _ else dD _ _ (B3 _ _ _ (1000000+j - 1000000)))=_;rw [if_neg (by omega),Nat.add_sub_cancel_left]
theorem bE4 {l:List AV} (h8:E4 l=true) (hL:l.length≤1000000):Qi (GR l) 1 2 5 (yK l):=by
 have:=jO h8 hL
 refine ⟨by omega,fun j hj=>by omega,fun j hj=>(uI (mb:=true) (Ry hj (b:=2) (by omega))).1,fun k hk v hv=>?_⟩;obtain ⟨h1,h2⟩:=wN h8 k v hv;refine ⟨h1,fun σ hσ=>?_⟩;rcases h2 with h2 | ⟨e,_⟩ | ⟨_,j,N,rfl⟩
 ·exact h2 σ
 ·exact absurd e hk
 ·exact Wf (hσ _ (by omega) (by omega) fun j' hj'=>by omega)
theorem bE3 {l:List AV} (h8:E4 l=true) (hL:l.length≤1000000) (g:YG (GR l) 3 4 (fun j=>1000005+j) l):Qi (GR l) 3 4 1000005 (yK l):=by
 have:=jO h8 hL
 refine ⟨by omega,fun j hj=>by omega,fun j hj=>?_,fun k hk v hv=>?_⟩
 ·rw [g.s];exact (uI (mb:=true) (Ry hj (b:=2) (by omega))).1
 ·obtain ⟨h1,h2⟩:=wN h8 k v hv;refine ⟨h1,fun σ hσ=>?_⟩;rcases h2 with h2 | ⟨_,j,N,hj,rfl⟩ | ⟨e,_⟩
  ·exact h2 σ
  ·exact Wf (hσ _ (by omega) (by omega) fun j' hj'=>by omega)
  ·exact absurd e hk
theorem aA0 (G:Nat→List AV) (B:Nat) (kb kS kP kd0:Nat) (hA:Zw G kb) (h8:E4 (G kb)=true) (hL:(G kb).length≤20000) (g:YG G kS kP (fun j=>kd0+j) (G kb)) (O:Qi G kS kP kd0 (yK (G kb))) (ho:Sq G kS kP (G kb)=true) :
  ACalls (za G B) 8 [.slice true (.ro kb) 0 (G kb).length] [] fun v _=>v=.bool true:=by
 have hL':(G kb).length≤1000000:=by omega
 obtain ⟨_,_,hy,hf⟩:=Ib.1 ho;obtain ⟨hb,hw⟩:=tI g h8 hL' hy;have hk:G kb=E3 G (yS (G kb)) (G kS) (yK (G kb)) (G kP) (yM (G kb)):=(lG (aO2 hb) h8 (eq_of_beq hf)).symm;refine ir_yes G B kb _ kS kP kd0 (yK (G kb)) (yM (G kb)) (yS (G kb)) hA h8 rfl hL hk O hb hw hy ?_;have h:=qZ G B kb kS kP (G kb).length _ h8 rfl hL' g;rw [if_pos ho] at h;exact h
theorem ir_law (l:List AV) (h8:E4 l=true) (B:Nat):ACalls ⟨Try.prog,GR l,B⟩ 8 [.slice true (.ro 0) 0 l.length] [] fun v _=>v=.bool true:=by
 by_cases hL:l.length≤20000
 ·have hL':l.length≤1000000:=by omega
  have hA:=bE5 h8;have gy:=GR_y h8 hL';have gz:=GR_z (l:=l);by_cases hz:Y1 (GR l) 3 4 l=true
  ·obtain ⟨g3,o3⟩:=aL5 h8 hL' gz hz;exact aA0 (GR l) B 0 3 4 1000005 hA h8 hL g3 (bE3 h8 hL' g3) o3
  ·have hz:Y1 (GR l) 3 4 l=false:=by simpa using hz
   by_cases hy:Sq (GR l) 1 2 l=true
   ·exact aA0 (GR l) B 0 1 2 5 hA h8 hL gy (bE4 h8 hL') hy
   ·refine ir_no (GR l) B 0 l.length 3 4 _ hA h8 rfl hL gz hz ?_;have h:=qZ (GR l) B 0 1 2 l.length _ h8 rfl hL' gy;exact h.monoK fun v H e=>by rw [e];exact congrArg AV.tup (if_neg hy)
 ·exact ir_big (GR l) B 0 l.length (by omega)
end Go.Am
