/-
  Images at their bounds: the law's run.
-/
import Derived.Test.YthejjolnlngahaaPart9
import Derived.Test.YthejjolnlngahaaBase5
namespace Go.Am
open Go.Proofs Go.Proofs.Ythejjolnlngahaa
set_option maxRecDepth 100000
theorem Gd:Try.prog.follows .mixedOrders=true:=by kernel_rfl
theorem Kv {id:Nat} {Q:Post} {F:Fr} {H:Hp} (h:Q .normal F H):R1 id Q (.exit id) F H:=by
 unfold R1;simp only [beq_self_eq_true];exact h
theorem Jg {C:Ctx} (hm:C.P.follows .mixedOrders=true) {c:Code} (n:Nat) {F:Fr} {H H2:Hp} {N:Nat} {live:List Nat} {vs2:List AV} (h:∀ Q:Ex→List AV→Hp→Prop,vc (Kcx C [] noSum) n 0 (.code c) F H (lv N live Q)=Q .normal vs2 H2) :
  B8 C 0 c F H (lv N live fun e vs H=>e=.normal∧vs=vs2∧H=H2):=wpcx hm (Tq C) n (by rw [h];exact ⟨rfl,rfl,rfl⟩)
section
variable (B:Nat)
theorem Jh {C:Ctx} {n N:Nat} {F:Fr} {H H':Hp} {live:List Nat} {vs':List AV} {Q:Post} (e:T5 n=.seq (Hd (T5 n)) (T5 (n+1))) (h1:B8 C 0 (Hd (T5 n)) F H (lv N live fun e vs H=>e=.normal∧vs=vs'∧H=H')) (h2:B8 C 0 (T5 (n+1)) (fl N live vs') H' Q):B8 C 0 (T5 n) F H Q:=by
 rw [e];exact B8.seq (Nat.zero_le _) (h1.lvd fun e vs H ⟨a,b,c⟩=>by subst a b c;exact h2)
theorem x_3:B8 (C5 B) 0 (Hd (T5 3)) (fl 139 [1,2] [.ptr (.rw 0) 0,.nils]) [some ⟨1,[.int .i64 0,.int .i64 4,.nils,.int .i64 256]⟩] (lv 139 [1,2] fun e vs H=>e=.normal∧vs=[.ptr (.rw 0) 0,.slice true (.rw 1) 0 8]∧H=[some ⟨1,[.int .i64 0,.int .i64 4,.nils,.int .i64 256]⟩,some ⟨4,X3 8⟩]):=by
 rw [show Hd (T5 3)=.seq (Hd (Hd (T5 3))) (.block 0 (.loop (G2 Try.f5 0))) by kernel_rfl];refine B8.seq (Nat.zero_le _) ((Jg (vs2:=[.ptr (.rw 0) 0,.nils,.int .i64 0]) (H2:=[some ⟨1,[.int .i64 0,.int .i64 4,.nils,.int .i64 256]⟩]) (live:=[1,2,3]) (N:=139) Gd 100 fun Q=>by kernel_rfl).lvd fun e vs H ⟨a,b,c⟩=>?_);subst a b c;refine B8.block ((bd_e _ B).lvd fun e vs H ⟨a,b,c⟩=>?_);subst a b c;refine Kv ?_;exact Rc (by kernel_rfl) ⟨rfl,by kernel_rfl,rfl⟩
theorem x_5:B8 (C5 B) 0 (Hd (T5 5)) (fl 139 [1,2,4] [.ptr (.rw 0) 0,.slice true (.rw 1) 0 8,.nils]) [some ⟨1,[.int .i64 0,.int .i64 4,.nils,.int .i64 256]⟩,some ⟨4,X3 8⟩] (lv 139 [1,2,4] fun e vs H=>e=.normal∧vs=[.ptr (.rw 0) 0,.slice true (.rw 1) 0 8,.slice true (.rw 2) 0 512]∧H=K8):=by
 rw [show Hd (T5 5)=.seq (Hd (Hd (T5 5))) (.block 2 (.loop (G2 Try.f5 1))) by kernel_rfl];refine B8.seq (Nat.zero_le _) ((Jg (vs2:=[.ptr (.rw 0) 0,.slice true (.rw 1) 0 8,.nils,.int .i64 0]) (H2:=[some ⟨1,[.int .i64 0,.int .i64 4,.nils,.int .i64 256]⟩,some ⟨4,X3 8⟩]) (live:=[1,2,4,5]) (N:=139) Gd 100 fun Q=>by kernel_rfl).lvd fun e vs H ⟨a,b,c⟩=>?_);subst a b c;refine B8.block ((bd_p _ B).lvd fun e vs H ⟨a,b,c⟩=>?_);subst a b c;refine Kv ?_;exact Rc (by kernel_rfl) ⟨rfl,by kernel_rfl,rfl⟩
structure TabE where
 s:Int
 ks:Nat
 n:Nat
 kp:Nat
 m:Nat
 r:Int
def cT:List TabE:=[⟨0,0,8,0,0,0⟩,⟨8188,6,1,0,0,0⟩,⟨0,7,1,2,512,0⟩,⟨0,9,1,10,1,0⟩,⟨256,11,2,0,0,0⟩,
 ⟨0,1,9,0,0,2⟩,⟨7936,14,1,0,0,2⟩,⟨0,15,1,3,513,2⟩,⟨0,18,1,19,1,2⟩,⟨0,20,2,0,0,2⟩,⟨0,21,1,0,0,2⟩,⟨0,23,1,0,0,2⟩,⟨128,24,1,0,0,2⟩,⟨0,25,3,0,0,2⟩,⟨0,26,2,0,0,2⟩,⟨256,27,1,0,0,2⟩,⟨0,29,1,0,0,2⟩,⟨0,31,1,32,2,2⟩]
def TabE.ok (e:TabE):Prop:=T9 [.agg (G5 e.ks),.int .i64 (e.n:Int)]=true∧Lg [.agg (G5 e.kp),.int .i64 (e.m:Int)]=true∧Py e.s (G5 e.ks) e.n (G5 e.kp) e.m=e.r
theorem aU:∀ {n i j:Nat},j<n→(Hv n i)[j*2]?=some (.int .i64 (4*((i+j:Nat):Int)))∧(Hv n i)[j*2+1]?=some (.bool false)
 | 0,_,_,h=>absurd h (Nat.not_lt_zero _)
 | n+1,i,0,_=>⟨rfl,rfl⟩
 | n+1,i,j+1,h=>by
  obtain ⟨h1,h2⟩:=aU (n:=n) (i:=i+1) (j:=j) (by omega);rw [show i+1+j=i+(j+1) by omega] at h1;rw [show (j+1)*2=j*2+2 by omega];exact ⟨h1,h2⟩
theorem dJ {n j:Nat} (h:j<n):xP (P2 n) j=4*(j:Int)∧hP (P2 n) j=false∧isI .i64 (P2 n) (j*2)=true∧isB (P2 n) (j*2+1)=true:=by
 obtain ⟨h1,h2⟩:=aU (i:=0) h;rw [Nat.zero_add] at h1;refine ⟨?_,?_,?_,?_⟩
 ·unfold xP A8 P2;rw [h1]
 ·unfold hP Q3 P2;rw [h2]
 ·unfold isI P2;rw [h1];rfl
 ·unfold isB P2;rw [h2]
theorem aT {n:Nat} (h:n≤1000000):Lg [.agg (P2 n),.int .i64 (n:Int)]=true:=Le.2 ⟨T6.2 fun j hj=>by
 obtain ⟨h1,h2,h3,h4⟩:=dJ hj;unfold dH;rw [h1];simp only [H8,Bj,h3,h4,Bool.and_true,Bool.true_and,Bool.and_eq_true,decide_eq_true_eq]
 omega,h⟩
theorem p5_pv {n j:Nat} (h:j<n):Mu (P2 n) j=4*(j:Int):=by
 cases j with
 | zero=>rfl
 | succ j=>
  obtain ⟨h1,h2,_⟩:=dJ (n:=n) (j:=j) (by omega);show xP (P2 n) j+O4 (hP (P2 n) j)=_;rw [h1,h2];show 4*(j:Int)+4=_;omega
theorem lE:I5 (Dy (G5 7) 1 (P2 512)) 512=true:=T6.2 fun j hj=>by
 obtain ⟨h1,h2,_⟩:=dJ (n:=512) hj;unfold Dy;rw [h1,h2,p5_pv hj]
 have hb:Df (G5 7) (4*(j:Int)) false 0=true:=by
  have a:sA (G5 7) 0=0:=rfl;have n:sN (G5 7) 0=8192:=rfl;have w:O4 false=4:=rfl;unfold Df;rw [a,n,w,G8 (n:=4*(j:Int) - 0) (by omega),G8 (n:=(8192:Nat) - 4) (by omega)];simp only [Bool.and_eq_true,decide_eq_true_eq];omega
 have e:O1 (G5 7) 1 (4*(j:Int)) false=0:=by
  show (if 0<0 then 0 else if Df (G5 7) (4*(j:Int)) false 0=true then 0 else 1)=0;rw [if_neg (by omega),if_pos hb]
 rw [e];simp
theorem fO:TabE.ok ⟨0,7,1,2,512,0⟩:=by
 refine ⟨by kernel_rfl,aT (n:=512) (by decide),?_⟩;show (if Bv 0 (G5 7) 1 (P2 512) 512=true then (0:Int) else 2)=0;rw [if_pos];unfold Bv;rw [lE]
 kernel_rfl
theorem cS:TabE.ok ⟨0,15,1,3,513,2⟩:=by
 have e:G5 3=P2 513:=(Tl 512).symm;refine ⟨by kernel_rfl,?_,?_⟩
 ·show Lg [.agg (G5 3),_]=true;rw [e];exact aT (n:=513) (by decide)
 ·show (if Bv 0 (G5 15) 1 (G5 3) 513=true then (0:Int) else 2)=2;rw [if_neg];unfold Bv;rw [decide_eq_false (p:=513≤512) (by decide),Bool.and_false,Bool.false_and];decide
theorem gZ:∀ e∈cT,e.ok:=by
 intro e he;simp only [cT,List.mem_cons,List.not_mem_nil,or_false] at he;rcases he with rfl | rfl | rfl | rfl | rfl | rfl | rfl | rfl | rfl | rfl | rfl | rfl | rfl | rfl | rfl | rfl | rfl | rfl
 case inr.inr.inl=>exact fO
 case inr.inr.inr.inr.inr.inr.inr.inl=>exact cS
 all_goals exact ⟨by kernel_rfl,by kernel_rfl,by kernel_rfl⟩
def TabE.is (s:Int) (ks n kp m:Nat) (e:TabE):Bool:=decide (e.s=s)&&(Nat.beq e.ks ks&&(Nat.beq e.n n&&(Nat.beq e.kp kp&&Nat.beq e.m m)))
theorem TabE.is_eq {s:Int} {ks n kp m:Nat} {e:TabE} (h:e.is s ks n kp m=true):e.s=s∧e.ks=ks∧e.n=n∧e.kp=kp∧e.m=m:=by
 unfold TabE.is at h;simp only [Bool.and_eq_true,decide_eq_true_eq] at h;exact ⟨h.1,Nat.eq_of_beq_eq_true h.2.1,Nat.eq_of_beq_eq_true h.2.2.1,Nat.eq_of_beq_eq_true h.2.2.2.1,Nat.eq_of_beq_eq_true h.2.2.2.2⟩
def sumB:Sums:=fun f args H=>match Nat.beq f 20,H,args with
 | true,[],[.agg [.int .i64 s,.slice true (.ro ks) 0 n,.slice true (.ro kp) 0 m]]=>match cT.find? (TabE.is s ks n kp m) with
  | some e=>some (true,.int .i64 e.r,[])
  | none=>none
 | false,[],[]=>match Nat.beq f 11 with
  | true=>some (true,.bool true,[])
  | false=>none
 | _,_,_=>none
theorem fQ:Og (C5 B) sumB:=by
 intro f args H v hs h;unfold sumB at h;split at h
 ·rename_i s ks n kp m hf;obtain rfl:=Nat.eq_of_beq_eq_true hf;split at h
  ·rename_i e he;simp only [Option.some.injEq,Prod.mk.injEq,true_and] at h;obtain ⟨rfl,rfl⟩:=h;obtain ⟨rfl,rfl,rfl,rfl,rfl⟩:=TabE.is_eq (List.find?_some he);obtain ⟨h1,h2,h3⟩:=gZ e (List.mem_of_find?_eq_some he)
   have:=Zg G5 B e.ks e.n e.kp e.m e.s h1 h2
   rw [h3] at this;exact ((this.mono fun v H' h=>⟨h,H',rfl⟩).trim (by rfl) rfl (by simp)).mono fun v H' ⟨h1,h2⟩=>⟨h1,h2⟩
  ·cases h
 ·split at h
  ·rename_i hf;obtain rfl:=Nat.eq_of_beq_eq_true hf;simp only [Option.some.injEq,Prod.mk.injEq,true_and] at h;obtain ⟨rfl,rfl⟩:=h;exact (((Yo G5 B).mono fun v H' h=>⟨h,H',rfl⟩).trim (by rfl) rfl (by simp)).mono fun v H' ⟨h1,h2⟩=>⟨h1,h2⟩
  ·cases h
 ·cases h
theorem dD:vc (Kcx (C5 B) [20,11] sumB) 4000 0 (.code (T5 8)) (fl 139 [6,7] [.slice false (.ro 12) 0 5,.slice false (.ro 33) 0 13]) [] (L1 (C5 B) Try.f5 fun v _=>chk (isT v) True)=True:=by kernel_rfl
theorem lY:ACalls (C5 B) 5 [] [] fun v _=>v=.bool true:=by
 have h:ACalls (C5 B) 5 [] [] fun v _=>chk (isT v) True:=by
  refine acalls_of (fn:=Try.f5) (c:=T5 0) (by kernel_rfl) (by kernel_rfl) (by kernel_rfl) ?_;refine Jh (live:=[]) (N:=139) (vs':=[]) (H':=[]) (by kernel_rfl) (Jg Gd 100 fun Q=>by kernel_rfl) ?_;refine Jh (live:=[1]) (N:=139) (vs':=[.ptr (.rw 0) 0]) (H':=[some ⟨1,[.int .i64 0,.int .i64 4,.nils,.int .i64 256]⟩]) (by kernel_rfl) (Jg Gd 100 fun Q=>by kernel_rfl) ?_;refine Jh (live:=[1,2]) (N:=139) (vs':=[.ptr (.rw 0) 0,.nils]) (H':=[some ⟨1,[.int .i64 0,.int .i64 4,.nils,.int .i64 256]⟩]) (by kernel_rfl) (Jg Gd 100 fun Q=>by kernel_rfl) ?_
  refine Jh (live:=[1,2]) (N:=139) (by kernel_rfl) (x_3 B) ?_;refine Jh (live:=[1,2,4]) (N:=139) (vs':=[.ptr (.rw 0) 0,.slice true (.rw 1) 0 8,.nils]) (H':=[some ⟨1,[.int .i64 0,.int .i64 4,.nils,.int .i64 256]⟩,some ⟨4,X3 8⟩]) (by kernel_rfl) (Jg Gd 100 fun Q=>by kernel_rfl) ?_;refine Jh (live:=[1,2,4]) (N:=139) (by kernel_rfl) (x_5 B) ?_;rw [show T5 6=.seq (.region 12 A7.toArray true) (T5 7) by kernel_rfl]
  refine B8.seq (Nat.zero_le _) (B8.bld (tks:=[]) (bl:=I4) (vs:=D6) Gd (Nat.zero_le _) (by kernel_rfl) (by kernel_rfl) (st_12 B) (fun p hp=>?_) rfl (fun t ht=>by cases ht) rfl rfl ?_)
  ·have h:I4.all (fun p=>Nat.blt p.1 A7.length)=true:=by kernel_rfl
   rw [List.all_eq_true] at h;exact Nat.le_of_ble_eq_true (h p hp)
  show B8 (C5 B) 0 (T5 7) (FSel (A1 A7.length) 0 A7 D6 L5) dV _;refine B8.toL (N:=139) (live:=[1,2,4,6]) (vs:=[.ptr (.rw 0) 0,.slice true (.rw 1) 0 8,.slice true (.rw 2) 0 512,.slice false (.rw 10) 0 5]) ?_ (by kernel_rfl) (by kernel_rfl);rw [show T5 7=.seq (.region 13 A0.toArray true) (T5 8) by kernel_rfl];refine B8.seq (Nat.zero_le _) (B8.bld (tks:=tk13) (bl:=B5) (vs:=A4) Gd (Nat.zero_le _) (by kernel_rfl) (by kernel_rfl) (st_13 B) (fun p hp=>?_) (by kernel_rfl) (fun t ht=>?_) (by decide) (by kernel_rfl) ?_)
  ·have h:B5.all (fun p=>Nat.blt p.1 A0.length)=true:=by kernel_rfl
   rw [List.all_eq_true] at h;exact Nat.le_of_ble_eq_true (h p hp)
  ·have h:tk13.all (Su (C5 B) dV)=true:=by kernel_rfl
   rw [List.all_eq_true] at h;exact h t ht
  show B8 (C5 B) 0 (T5 8) (FSel (A1 A0.length) 0 A0 A4 B9) (HB A9 B5 fun _=>true) _;refine B8.frzs (l:=fz13) (by kernel_rfl) ?_;refine B8.toL (N:=139) (live:=[6,7]) (vs:=[.slice false (.ro 12) 0 5,.slice false (.ro 33) 0 13]) ?_ (by kernel_rfl) (by kernel_rfl);refine B8.pre (H:=[]) (F:=fl 139 [6,7] [.slice false (.ro 12) 0 5,.slice false (.ro 33) 0 13]) ?_ (E1.renM (θ:=[]) (Nat.zero_le _) (fun i hi=>absurd hi (Nat.not_lt_zero i)) (by decide) trivial (by kernel_rfl) (by rw [P1 [] _ (by kernel_rfl)];exact Om _))
  exact wpcx Gd (fQ B) 4000 (of_eq_true (dD B))
 refine ⟨h.1,fun ρ w cargs hH hv=>(h.2 ρ w cargs hH hv).mono ?_⟩;rintro e w' ⟨v,cv,ρ',H',h1,h2,h3⟩;refine ⟨v,cv,ρ',H',h1,?_,h3⟩;obtain ⟨h4,_⟩:=An h2;cases v with
 | bool b=>simp only [isT] at h4;rw [h4]
 | _=>simp [isT] at h4
end
theorem Wc (G:Nat→List AV) (B:Nat):ACalls ⟨Try.prog,G,B⟩ 5 [] [] fun v _=>v=.bool true:=
 more_ro (G':=G5) (N:=0) (fun k hk=>absurd hk (Nat.not_lt_zero k)) (fun B=>lY B) rfl rfl (fun v hv=>by subst hv;exact ⟨rfl,rfl⟩)
end Go.Am
