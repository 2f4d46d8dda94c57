/-
  Images moved: clones of what was handed in. Images moved: copied: the loop's tree.
-/
import Derived.Test.YthejjolnlngahaaPart10
import Derived.Test.YthejjolnlngahaaBase5
import Derived.Test.YthejjolnlngahaaBase6
import Derived.Test.YthejjolnlngahaaPart8
namespace Go.Am
open Go.Proofs
set_option maxRecDepth 100000
theorem v78 (G:Nat→List AV) (k o n:Nat) (Q:Ex→List AV→Hp→Prop) (R:AV→Hp→Prop):vT G Q R (J7 (Dc Try.prog [] [] [] 0) 300 20 Try.f78 [.slice false (.ro (.var 1 k)) (.var 3 o) (.var 2 n)] [] 2)=(
  leB (o+(n)*4) (List.length (G (k)))=true∧N9 (B9 (G (k)) (o) ((n)*4))=true∧leB ((n)*48) (140737488355328)=true∧R (.slice false (.rw 1) (0) (n)) [none,some ⟨4,(B9 (G (k)) (o) ((n)*4))⟩]):=by kernel_rfl
theorem v79 (G:Nat→List AV) (k o n:Nat) (Q:Ex→List AV→Hp→Prop) (R:AV→Hp→Prop):vT G Q R (J7 (Dc Try.prog [] [] [] 0) 300 20 Try.f79 [.slice false (.ro (.var 1 k)) (.var 3 o) (.var 2 n)] [] 2)=(
  leB (o+(n)*2) (List.length (G (k)))=true∧N9 (B9 (G (k)) (o) ((n)*2))=true∧leB ((n)*16) (140737488355328)=true∧R (.slice false (.rw 1) (0) (n)) [none,some ⟨2,(B9 (G (k)) (o) ((n)*2))⟩]):=by kernel_rfl
theorem v80 (G:Nat→List AV) (k o n:Nat) (Q:Ex→List AV→Hp→Prop) (R:AV→Hp→Prop):vT G Q R (J7 (Dc Try.prog [] [] [] 0) 300 20 Try.f80 [.slice false (.ro (.var 1 k)) (.var 3 o) (.var 2 n)] [] 2)=(
  leB (o+n) (List.length (G (k)))=true∧N9 (B9 (G (k)) (o) (n))=true∧leB (n) (140737488355328)=true∧R (.slice false (.rw 1) (0) (n)) [none,some ⟨1,(B9 (G (k)) (o) (n))⟩]):=by kernel_rfl
theorem v78n (G:Nat→List AV) (k:Nat) (Q:Ex→List AV→Hp→Prop) (R:AV→Hp→Prop):vT G Q R (J7 (Dc Try.prog [] [] [] 0) 300 20 Try.f78 [.nils] [] 0)=(
  R (.nils) []):=by kernel_rfl
theorem v79n (G:Nat→List AV) (k:Nat) (Q:Ex→List AV→Hp→Prop) (R:AV→Hp→Prop):vT G Q R (J7 (Dc Try.prog [] [] [] 0) 300 20 Try.f79 [.nils] [] 0)=(
  R (.nils) []):=by kernel_rfl
theorem v80n (G:Nat→List AV) (k:Nat) (Q:Ex→List AV→Hp→Prop) (R:AV→Hp→Prop):vT G Q R (J7 (Dc Try.prog [] [] [] 0) 300 20 Try.f80 [.nils] [] 0)=(
  R (.nils) []):=by kernel_rfl
theorem Te (G:Nat→List AV) (B:Nat) {c:Code} (h:A8 c=[]):O6 (⟨Try.prog,G,B⟩:A2) (Dc Try.prog [] [] [] 0) (A8 c):=by rw [h];exact I0 (E9 G B) (by kernel_rfl) .nil .nil
theorem mO {H:Hp} {K:Hp} {k:Nat} (h:H.take k=K) {j:Nat} (hj:j<k):H[j]?=K[j]?:=by rw [←h,List.getElem?_take,if_pos hj]
theorem ACalls.mbe {C:A2} {f:FuncId} {r:Ref} {o n:Nat} {rest:List AV} {H:Hp} {K:AV→Hp→Prop} (h0:n=0→ACalls C f (.nils::rest) H K) (h1:ACalls C f (.slice false r o n::rest) H K):ACalls C f (.slice true r o n::rest) H K:=by
 refine ⟨h1.1,fun ρ w cargs hH hv=>?_⟩;have hv0:=hv;simp only [VRs,VR] at hv;obtain ⟨v,vs,rfl,⟨ca,cap,rfl,hl,hc⟩,hvs⟩:=hv;rcases hc with ⟨rfl,rfl,_⟩ | hc
 ·have e:n=0:=by omega
  refine (h0 e).2 ρ w _ hH ?_;simp only [VRs,VR];exact ⟨_,vs,rfl,by rw [e],hvs⟩
 ·refine h1.2 ρ w _ hH ?_;simp only [VRs,VR];exact ⟨_,vs,rfl,⟨ca,cap,rfl,hl,.inr hc⟩,hvs⟩
def Dd (z:Nat) (cs:List AV) (o n:Nat):Bool:=(leB (o+n*z) cs.length&&N9 (B9 cs o (n*z)))&&(Nat.ble n 1000000&&A5 0 (B9 cs o (n*z)))
theorem J0 {z:Nat} {cs:List AV} {o n:Nat}:Dd z cs o n=true↔(leB (o+n*z) cs.length=true∧N9 (B9 cs o (n*z))=true)∧n≤1000000∧A5 0 (B9 cs o (n*z))=true:=by
 simp only [Dd,Bool.and_eq_true];exact ⟨fun ⟨h1,h2,h3⟩=>⟨h1,Nat.le_of_ble_eq_true h2,h3⟩,fun ⟨h1,h2,h3⟩=>⟨h1,Nat.ble_eq_true_of_le h2,h3⟩⟩
theorem cC (G:Nat→List AV) (B:Nat) {f:FuncId} (z k o n:Nat) (hc:Dd z (G k) o n=true)
  (h:ACalls (⟨Try.prog,G,B⟩:A2) f [.slice false (.ro k) o n] [] fun v H'=>v=.slice false (.rw 1) 0 n∧H'.take 2=[none,some ⟨z,B9 (G k) o (n*z)⟩]) (hn:ACalls (⟨Try.prog,G,B⟩:A2) f [.nils] [] fun v H'=>v=.nils) :
  ACalls (⟨Try.prog,G,B⟩:A2) f [.slice true (.ro k) o n] [] fun v H'=>v=.slice true (.rw 0) 0 n∧H'=[some ⟨z,B9 (G k) o (n*z)⟩]:=by
 obtain ⟨_,_,flat⟩:=J0.1 hc;refine ACalls.mbe (fun e0=>?_) ?_
 ·subst e0;refine ACalls.one hn flat (by simp [B0]) (fun j=>by simp [C5]) fun v H' q=>.inr ⟨by simp [B9],?_⟩;subst q;exact .inr ⟨rfl,rfl⟩
 ·have h1:ACalls (⟨Try.prog,G,B⟩:A2) f [.slice false (.ro k) o n] [] fun v H'=>v=.slice false (.rw 0) 0 n∧H'=[some ⟨z,B9 (G k) o (n*z)⟩]:=
   ACalls.one h flat (by simp [B0]) (fun j=>by simp [C5]) fun v H' ⟨q1,q2⟩=>.inl ⟨1,by have:=mO q2 (j:=1) (by omega);simpa using this,by rw [q1];simp [C5]⟩
  exact h1.conv fun v H' ⟨q1,q2⟩=>⟨_,⟨rfl,q2⟩,fun ρ cv hv=>by subst q1;exact P3 hv⟩
theorem cl78 (G:Nat→List AV) (B:Nat) (k o n:Nat) (hc:Dd 4 (G k) o n=true):ACalls (⟨Try.prog,G,B⟩:A2) 78 [.slice true (.ro k) o n] [] fun v H'=>v=.slice true (.rw 0) 0 n∧H'=[some ⟨4,B9 (G k) o (n*4)⟩]:=by
 obtain ⟨⟨h1,h2⟩,h3,_⟩:=J0.1 hc;refine cC G B 4 k o n hc ?_ ?_
 ·exact C9 (C:=(⟨Try.prog,G,B⟩:A2)) (fuel:=300) (n0:=20) (f:=78) (fn:=Try.f78) (args:=[.slice false (.ro (.var 1 k)) (.var 3 o) (.var 2 n)]) (H:=[]) (keep:=2) (R:=fun v H=>v=.slice false (.rw 1) 0 n∧H=[none,some ⟨4,B9 (G k) o (n*4)⟩]) (Te G B (by kernel_rfl)) (by kernel_rfl) (by kernel_rfl) (by kernel_rfl) (by
   rw [v78]
   exact ⟨h1,h2,C6.2 (by omega),rfl,rfl⟩)
 ·have:=C9 (C:=(⟨Try.prog,G,B⟩:A2)) (fuel:=300) (n0:=20) (f:=78) (fn:=Try.f78) (args:=[.nils]) (H:=[]) (keep:=0) (R:=fun v _=>v=.nils) (Te G B (by kernel_rfl)) (by kernel_rfl) (by kernel_rfl) (by kernel_rfl) (by
   rw [v78n G k])
  exact this.monoK fun v H' h=>h
theorem cl79 (G:Nat→List AV) (B:Nat) (k o n:Nat) (hc:Dd 2 (G k) o n=true):ACalls (⟨Try.prog,G,B⟩:A2) 79 [.slice true (.ro k) o n] [] fun v H'=>v=.slice true (.rw 0) 0 n∧H'=[some ⟨2,B9 (G k) o (n*2)⟩]:=by
 obtain ⟨⟨h1,h2⟩,h3,_⟩:=J0.1 hc;refine cC G B 2 k o n hc ?_ ?_
 ·exact C9 (C:=(⟨Try.prog,G,B⟩:A2)) (fuel:=300) (n0:=20) (f:=79) (fn:=Try.f79) (args:=[.slice false (.ro (.var 1 k)) (.var 3 o) (.var 2 n)]) (H:=[]) (keep:=2) (R:=fun v H=>v=.slice false (.rw 1) 0 n∧H=[none,some ⟨2,B9 (G k) o (n*2)⟩]) (Te G B (by kernel_rfl)) (by kernel_rfl) (by kernel_rfl) (by kernel_rfl) (by
   rw [v79]
   exact ⟨h1,h2,C6.2 (by omega),rfl,rfl⟩)
 ·have:=C9 (C:=(⟨Try.prog,G,B⟩:A2)) (fuel:=300) (n0:=20) (f:=79) (fn:=Try.f79) (args:=[.nils]) (H:=[]) (keep:=0) (R:=fun v _=>v=.nils) (Te G B (by kernel_rfl)) (by kernel_rfl) (by kernel_rfl) (by kernel_rfl) (by
   rw [v79n G k])
  exact this.monoK fun v H' h=>h
theorem cl80 (G:Nat→List AV) (B:Nat) (k o n:Nat) (hc:Dd 1 (G k) o n=true):ACalls (⟨Try.prog,G,B⟩:A2) 80 [.slice true (.ro k) o n] [] fun v H'=>v=.slice true (.rw 0) 0 n∧H'=[some ⟨1,B9 (G k) o (n*1)⟩]:=by
 obtain ⟨⟨h1,h2⟩,h3,_⟩:=J0.1 hc;rw [Nat.mul_one] at h1 h2;refine cC G B 1 k o n hc ?_ ?_
 ·exact C9 (C:=(⟨Try.prog,G,B⟩:A2)) (fuel:=300) (n0:=20) (f:=80) (fn:=Try.f80) (args:=[.slice false (.ro (.var 1 k)) (.var 3 o) (.var 2 n)]) (H:=[]) (keep:=2) (R:=fun v H=>v=.slice false (.rw 1) 0 n∧H=[none,some ⟨1,B9 (G k) o (n*1)⟩]) (Te G B (by kernel_rfl)) (by kernel_rfl) (by kernel_rfl) (by kernel_rfl) (by
   rw [v80,Nat.mul_one]
   exact ⟨h1,h2,C6.2 (by omega),rfl,rfl⟩)
 ·have:=C9 (C:=(⟨Try.prog,G,B⟩:A2)) (fuel:=300) (n0:=20) (f:=80) (fn:=Try.f80) (args:=[.nils]) (H:=[]) (keep:=0) (R:=fun v _=>v=.nils) (Te G B (by kernel_rfl)) (by kernel_rfl) (by kernel_rfl) (by kernel_rfl) (by
   rw [v80n G k])
  exact this.monoK fun v H' h=>h
def Vi (z:Nat):List AV→Bool:=fun xs=>match xs with
 | [.agg cs,.int _ o,.int _ n]=>Dd z cs o.toNat n.toNat
 | _=>false
def cD (tg z:Nat):DSum:=fun args H=>match args with
 | [.slice _ (.ro k) o n]=>some (.chk (.uf tg (Vi z) [.agg (.ro k),.int .i64 (Aj o),.int .i64 (Aj n)]) (.one (.slice true (.rw H.length) (.lit 0) n) [.new ⟨z,.sub (.ro k) o (O0 n z)⟩]))
 | [.nils]=>some (.one (.slice true (.rw H.length) (.lit 0) (.lit 0)) [.new ⟨z,.of []⟩])
 | _=>none
theorem Vj (G:Nat→List AV) (B:Nat) {f:FuncId} {tg z:Nat} (h:∀ k o n,Dd z (G k) o n=true→ACalls (⟨Try.prog,G,B⟩:A2) f [.slice true (.ro k) o n] [] fun v H'=>v=.slice true (.rw 0) 0 n∧H'=[some ⟨z,B9 (G k) o (n*z)⟩]) (hn:ACalls (⟨Try.prog,G,B⟩:A2) f [.nils] [] fun v H'=>v=.slice true (.rw 0) 0 0∧H'=[some ⟨z,[]⟩]):G5 (⟨Try.prog,G,B⟩:A2) f (cD tg z):=by
 have core:∀ {args:List EV} {args0:List AV} {H:DHp} {n:EN} {N:Nat} {l:EL} {L:List AV},A5 0 L=true→vVs G args=args0→A5 0 args0=true→vN G n=N→vL G l=L→ACalls (⟨Try.prog,G,B⟩:A2) f args0 [] (fun v H'=>v=.slice true (.rw 0) 0 N∧H'=[some ⟨z,L⟩])→F7 (⟨Try.prog,G,B⟩:A2) f args H (.slice true (.rw H.length) (.lit 0) n) [.new ⟨z,l⟩]:=by
  intro args args0 H n N l L hL he hb eN eL hc;refine F7.fr (C:=(⟨Try.prog,G,B⟩:A2)) (θ:=[]) (H0:=[]) (H1:=[some ⟨z,L⟩]) (v0:=.slice true (.rw 0) 0 N) (args0:=args0) List.nodup_nil rfl (fun k b hk=>by simp at hk) hb (by rw [he,F5 _ _ hb]) hc (Nat.zero_le _) rfl (by simp only [L1,H6 (Nat.zero_le _) _ hL,Bool.and_self]) ?_ ?_
  ·show AV.slice true (.rw H.length) 0 (vN G n)=AV.slice true (.rw ((R9 [] H.length 1).getD 0 0)) 0 N;rw [eN];rfl
  ·show B4 G H++[some (⟨z,vL G l⟩:Blk)]=B4 G H++[Bg _ (some ⟨z,L⟩)];rw [eL];simp only [Bg,Option.map_some,Gy,F5 _ _ hL]
 intro args H o ho;unfold cD at ho;split at ho
 ·rename_i mb k off n;simp only [Option.some.injEq] at ho;subst ho;intro h1;have h1:Dd z (G (vN G k)) ((vI G (Aj off)).toNat) ((vI G (Aj n)).toNat)=true:=h1;rw [V4,V4,C4,C4] at h1;obtain ⟨_,_,flat⟩:=J0.1 h1;have hc:=h (vN G k) (vN G off) (vN G n) h1;have hb:(A5 0 [.slice true (.ro (vN G k)) (vN G off) (vN G n)]=true):=rfl;cases mb with
  | true=>exact core (args0:=[.slice true (.ro (vN G k)) (vN G off) (vN G n)]) flat rfl rfl rfl (by simp only [vL,L4]) hc
  | false=>
   refine core (args0:=[.slice false (.ro (vN G k)) (vN G off) (vN G n)]) flat rfl rfl rfl (by simp only [vL,L4]) (ACalls.weaken hc ?_);intro ρ vs hv;simp only [VRs] at hv ⊢;obtain ⟨v,vs',r1,r2,r3⟩:=hv;exact ⟨v,vs',r1,P3 r2,r3⟩
 ·simp only [Option.some.injEq] at ho;subst ho;exact core (args0:=[.nils]) (L:=[]) rfl rfl rfl rfl rfl hn
 ·cases ho
theorem Uj (G:Nat→List AV) (B:Nat) {f:FuncId} (z:Nat) (hn:ACalls (⟨Try.prog,G,B⟩:A2) f [.nils] [] fun v H'=>v=.nils):ACalls (⟨Try.prog,G,B⟩:A2) f [.nils] [] fun v H'=>v=.slice true (.rw 0) 0 0∧H'=[some ⟨z,[]⟩]:=
 ACalls.one (b:=⟨z,[]⟩) hn rfl (by simp [B0]) (fun j=>by simp [C5]) fun v H' q=>.inr ⟨rfl,by subst q;exact .inr ⟨rfl,rfl⟩⟩
theorem cl78n (G:Nat→List AV) (B:Nat):ACalls (⟨Try.prog,G,B⟩:A2) 78 [.nils] [] fun v H'=>v=.nils:=by
 have:=C9 (C:=(⟨Try.prog,G,B⟩:A2)) (fuel:=300) (n0:=20) (f:=78) (fn:=Try.f78) (args:=[.nils]) (H:=[]) (keep:=0) (R:=fun v _=>v=.nils) (Te G B (by kernel_rfl)) (by kernel_rfl) (by kernel_rfl) (by kernel_rfl) (by rw [v78n G 0])
 exact this.monoK fun v H' h=>h
theorem cl79n (G:Nat→List AV) (B:Nat):ACalls (⟨Try.prog,G,B⟩:A2) 79 [.nils] [] fun v H'=>v=.nils:=by
 have:=C9 (C:=(⟨Try.prog,G,B⟩:A2)) (fuel:=300) (n0:=20) (f:=79) (fn:=Try.f79) (args:=[.nils]) (H:=[]) (keep:=0) (R:=fun v _=>v=.nils) (Te G B (by kernel_rfl)) (by kernel_rfl) (by kernel_rfl) (by kernel_rfl) (by rw [v79n G 0])
 exact this.monoK fun v H' h=>h
theorem cl80n (G:Nat→List AV) (B:Nat):ACalls (⟨Try.prog,G,B⟩:A2) 80 [.nils] [] fun v H'=>v=.nils:=by
 have:=C9 (C:=(⟨Try.prog,G,B⟩:A2)) (fuel:=300) (n0:=20) (f:=80) (fn:=Try.f80) (args:=[.nils]) (H:=[]) (keep:=0) (R:=fun v _=>v=.nils) (Te G B (by kernel_rfl)) (by kernel_rfl) (by kernel_rfl) (by kernel_rfl) (by rw [v80n G 0])
 exact this.monoK fun v H' h=>h
def clRs:List (Nat×DSum):=[(78,cD 1803 4),(79,cD 1802 2),(80,cD 1801 1)]
theorem fN (G:Nat→List AV) (B:Nat):U9 (⟨Try.prog,G,B⟩:A2) clRs:=.cons (Vj G B (fun k o n h=>cl78 G B k o n h) (Uj G B 4 (cl78n G B))) (.cons (Vj G B (fun k o n h=>cl79 G B k o n h) (Uj G B 2 (cl79n G B))) (.cons (Vj G B (fun k o n h=>cl80 G B k o n h) (Uj G B 1 (cl80n G B))) .nil))
end Go.Am
namespace Go.Am
open Go.Proofs
set_option maxRecDepth 100000
theorem cm_b (G:Nat→List AV) (sc pl dl:List AV) (s:Int) (n m i:Nat) (Q:Ex→List AV→Hp→Prop) (R:AV→Hp→Prop):vT G Q R (F8 (Df Try.prog [(37,4,0)] [] clRs [] 0) 300 20 0 (A4 Try.f33 0) 32 [1,2,14,15] [.ptr (.rw 0) (.lit 0),.ptr (.rw 1) (.lit 0),.int .i64 (.ofN (.var 3 n)),.int .i64 (.ofN (.var 8 i))] [some ⟨1,.of [.int .i64 (.var 1 s),.slice true (.rw 2) (.lit 0) (.var 3 n),.slice true (.rw 3) (.lit 0) (.var 4 m)]⟩,some ⟨1,.of [.int .i64 (.lit 0),.nils,.nils]⟩,some ⟨4,.var 21 sc⟩,some ⟨2,.var 7 pl⟩,some ⟨1,.row (.var 22 dl) (.lit 0)⟩,some ⟨1,.row (.var 22 dl) (.lit 1)⟩,some ⟨1,.row (.var 22 dl) (.lit 2)⟩,some ⟨1,.row (.var 22 dl) (.lit 3)⟩,some ⟨1,.row (.var 22 dl) (.lit 4)⟩,some ⟨1,.row (.var 22 dl) (.lit 5)⟩,some ⟨1,.row (.var 22 dl) (.lit 6)⟩,some ⟨1,.row (.var 22 dl) (.lit 7)⟩])=(
  (decide ((((i:Nat):Int):Int)<((n:Nat):Int))=true→decide ((0:Int)≤((i:Nat):Int))=true∧decide ((((i:Nat):Int):Int)<((n:Nat):Int))=true∧pS [.agg sc,.int .i64 ((((i)*4+2:Nat):Int))]=true∧(Vi 1) [.agg (G (E7 sc ((i)*4+2))),.int .i64 (((G1 sc ((i)*4+2):Nat):Int)),.int .i64 (((C2 sc ((i)*4+2):Nat):Int))]=true∧decide ((0:Int)≤((i:Nat):Int))=true∧decide ((((i:Nat):Int):Int)<((n:Nat):Int))=true∧leB ((i)*4+3) (List.length sc)=true∧Q .normal [.ptr (.rw 0) (0),.ptr (.rw 1) (0),.int .i64 (((n:Nat):Int)),.int .i64 (IntKind.wrap .i64 (((i:Nat):Int)+1))] [some ⟨1,([.int .i64 (s),.slice true (.rw 2) (0) (n),.slice true (.rw 3) (0) (m)]:List AV)⟩,some ⟨1,([.int .i64 (0),.nils,.nils]:List AV)⟩,some ⟨4,(B5 sc ((i)*4+2) (.slice true (.rw 12) (0) (C2 sc ((i)*4+2))))⟩,some ⟨2,pl⟩,some ⟨1,(A0 dl (0))⟩,some ⟨1,(A0 dl (1))⟩,some ⟨1,(A0 dl (2))⟩,some ⟨1,(A0 dl (3))⟩,some ⟨1,(A0 dl (4))⟩,some ⟨1,(A0 dl (5))⟩,some ⟨1,(A0 dl (6))⟩,some ⟨1,(A0 dl (7))⟩,some ⟨1,(B9 (G (E7 sc ((i)*4+2))) (G1 sc ((i)*4+2)) (C2 sc ((i)*4+2)))⟩])∧(decide ((((i:Nat):Int):Int)<((n:Nat):Int))=false→Q (.exit 0) [.ptr (.rw 0) (0),.ptr (.rw 1) (0),.int .i64 (((n:Nat):Int)),.int .i64 (((i:Nat):Int))] [some ⟨1,([.int .i64 (s),.slice true (.rw 2) (0) (n),.slice true (.rw 3) (0) (m)]:List AV)⟩,some ⟨1,([.int .i64 (0),.nils,.nils]:List AV)⟩,some ⟨4,sc⟩,some ⟨2,pl⟩,some ⟨1,(A0 dl (0))⟩,some ⟨1,(A0 dl (1))⟩,some ⟨1,(A0 dl (2))⟩,some ⟨1,(A0 dl (3))⟩,some ⟨1,(A0 dl (4))⟩,some ⟨1,(A0 dl (5))⟩,some ⟨1,(A0 dl (6))⟩,some ⟨1,(A0 dl (7))⟩])):=by kernel_rfl
theorem cm_c (G:Nat→List AV) (rl:List AV→Bool) (sc pl dl:List AV) (s:Int) (ks kp n m:Nat) (Q:Ex→List AV→Hp→Prop) (R:AV→Hp→Prop):vT G Q R (J7 (Dc Try.prog [] clRs [C3 1810 (rl) 0 32 [1,2,14,15] (.one (.exit 0) [.ptr (.rw 0) (.lit 0),.ptr (.rw 1) (.lit 0),.undef,.undef] [some ⟨1,.of [.int .i64 (.var 1 s),.slice true (.rw 2) (.lit 0) (.var 3 n),.slice true (.rw 3) (.lit 0) (.var 4 m)]⟩,some ⟨1,.of [.int .i64 (.lit 0),.nils,.nils]⟩,some ⟨4,.var 21 sc⟩,some ⟨2,.var 7 pl⟩,some ⟨1,.row (.var 22 dl) (.lit 0)⟩,some ⟨1,.row (.var 22 dl) (.lit 1)⟩,some ⟨1,.row (.var 22 dl) (.lit 2)⟩,some ⟨1,.row (.var 22 dl) (.lit 3)⟩,some ⟨1,.row (.var 22 dl) (.lit 4)⟩,some ⟨1,.row (.var 22 dl) (.lit 5)⟩,some ⟨1,.row (.var 22 dl) (.lit 6)⟩,some ⟨1,.row (.var 22 dl) (.lit 7)⟩])] 0) 300 20 Try.f33 [.agg (.of [.int .i64 (.var 1 s),.slice true (.ro (.var 2 ks)) (.lit 0) (.var 3 n),.slice true (.ro (.var 5 kp)) (.lit 0) (.var 4 m)])] [] 12)=(
  (Vi 4) [.agg (G (ks)),.int .i64 (0),.int .i64 (((n:Nat):Int))]=true∧(Vi 2) [.agg (G (kp)),.int .i64 (0),.int .i64 (((m:Nat):Int))]=true∧(rl) [.agg ([.ptr (.rw 0) (0),.ptr (.rw 1) (0),.int .i64 (((n:Nat):Int)),.int .i64 (0)]:List AV),.agg ([.tup [.int .i64 (1),.agg ([.int .i64 (s),.slice true (.rw 2) (0) (n),.slice true (.rw 3) (0) (m)]:List AV)],.tup [.int .i64 (1),.agg ([.int .i64 (0),.nils,.nils]:List AV)],.tup [.int .i64 (4),.agg (B9 (G (ks)) (0) ((n)*4))],.tup [.int .i64 (2),.agg (B9 (G (kp)) (0) ((m)*2))]]:List AV)]=true∧R (.agg ([.int .i64 (s),.slice true (.rw 2) (0) (n),.slice true (.rw 3) (0) (m)]:List AV)) [some ⟨1,([.int .i64 (s),.slice true (.rw 2) (0) (n),.slice true (.rw 3) (0) (m)]:List AV)⟩,some ⟨1,([.int .i64 (s),.slice true (.rw 2) (0) (n),.slice true (.rw 3) (0) (m)]:List AV)⟩,some ⟨4,sc⟩,some ⟨2,pl⟩,some ⟨1,(A0 dl (0))⟩,some ⟨1,(A0 dl (1))⟩,some ⟨1,(A0 dl (2))⟩,some ⟨1,(A0 dl (3))⟩,some ⟨1,(A0 dl (4))⟩,some ⟨1,(A0 dl (5))⟩,some ⟨1,(A0 dl (6))⟩,some ⟨1,(A0 dl (7))⟩]):=by kernel_rfl
end Go.Am
namespace Go.Am
open Go.Proofs
set_option maxRecDepth 100000
theorem jX {θ:List Nat} {m z:Nat} {f:Nat→Nat→AV}:rens θ (M9 m z f)=M9 m z fun a b=>C5 θ (f a b):=by
 rw [G4];unfold M9;rw [List.map_map];rfl
theorem Xd {N m z:Nat} {f:Nat→Nat→AV} (h:∀ a b,a<m→b<z→B0 N (f a b)=true):A5 N (M9 m z f)=true:=by
 rw [J5,List.all_eq_true];intro v hv;unfold M9 at hv;obtain ⟨j,hj,rfl⟩:=List.mem_map.1 hv;obtain ⟨h1,h2,_⟩:=Oy (List.mem_range.1 hj);exact h _ _ h1 h2
def Pu (cs:List AV) (d:Nat→AV) (j:Nat):Nat→AV
 | 0=>.int .i64 (sA cs j)
 | 1=>.int .i64 (sR cs j)
 | 2=>d j
 | _=>.int .i64 (sZ cs j)
def dR (cs:List AV) (j:Nat):AV:=.slice true (.ro (E7 cs (j*4+2))) (G1 cs (j*4+2)) (sN cs j)
def dW (b:Nat) (cs:List AV) (j:Nat):AV:=.slice true (.rw (b+j)) 0 (sN cs j)
def dX (b:Nat) (cs:List AV) (i j:Nat):AV:=if j<i then dW b cs j else dR cs j
def A7 (cs:List AV) (n:Nat) (d:Nat→AV):List AV:=M9 n 4 (Pu cs d)
theorem Dk {cs:List AV} {n:Nat} {d:Nat→AV}:(A7 cs n d).length=n*4:=Dg
theorem Jg {cs:List AV} {n:Nat} {d:Nat→AV} {j:Nat} (h:j<n):(A7 cs n d)[j*4+2]?=some (d j):=O7 (f:=Pu cs d) h (by omega)
theorem qN {cs:List AV} {n:Nat} {d:Nat→AV} {i:Nat} {v:AV} (hv:∀ l,v≠.agg l):B5 (A7 cs n d) (i*4+2) v=A7 cs n (fun j=>if j=i then v else d j):=by
 have e:B5 (A7 cs n d) (i*4+2) v=(A7 cs n d).set (i*4+2) v:=by
  unfold B5;cases v<;>first | rfl | exact absurd rfl (hv _)
 rw [e];unfold A7;rw [Pp (by omega)];refine N4 fun a b ha hb=>?_;by_cases h:a=i∧b=2
 ·rw [if_pos h];obtain ⟨rfl,rfl⟩:=h;show v=if a=a then v else d a
  rw [if_pos rfl]
 ·rw [if_neg h]
  match b,hb with
  | 0,_=>rfl
  | 1,_=>rfl
  | 2,_=>
   show d a=if a=i then v else d a
   rw [if_neg fun e=>h ⟨e,rfl⟩]
  | 3,_=>rfl
theorem Jf {θ:List Nat} {cs:List AV} {n:Nat} {d:Nat→AV}:rens θ (A7 cs n d)=A7 cs n fun j=>C5 θ (d j):=by
 unfold A7;rw [jX];refine N4 fun a b ha hb=>?_
 match b,hb with
 | 0,_=>rfl
 | 1,_=>rfl
 | 2,_=>rfl
 | 3,_=>rfl
theorem Z3 {cs:List AV} {n:Nat} {d d':Nat→AV} (h:∀ j,j<n→d j=d' j):A7 cs n d=A7 cs n d':=by
 unfold A7;refine N4 fun a b ha hb=>?_
 match b,hb with
 | 0,_=>rfl
 | 1,_=>rfl
 | 2,_=>exact h a ha
 | 3,_=>rfl
theorem Bo {N:Nat} {cs:List AV} {n:Nat} {d:Nat→AV} (h:∀ j,j<n→B0 N (d j)=true):A5 N (A7 cs n d)=true:=by
 unfold A7;refine Xd fun a b ha hb=>?_
 match b,hb with
 | 0,_=>rfl
 | 1,_=>rfl
 | 2,_=>exact h a ha
 | 3,_=>rfl
theorem jM {cs:List AV} {n:Nat} (h:I4 cs n=true) (hl:n*4≤cs.length):fZ ⟨4,B9 cs 0 (n*4)⟩ ⟨4,A7 cs n (dR cs)⟩:=by
 have hlen:(B9 cs 0 (n*4)).length=n*4:=by unfold B9;rw [List.drop_zero,List.length_take];omega
 refine .inr ⟨rfl,rfl,by rw [hlen,Dk],fun j v hv=>?_⟩;have hj:j<n*4:=by rw [←Dk (cs:=cs) (d:=dR cs)];exact (List.getElem?_eq_some_iff.1 hv).1
 obtain ⟨h1,h2,h3⟩:=Oy hj;have hs:=L9 h h1
 have hv':Pu cs (dR cs) (j / 4) (j % 4)=v:=by
  have:=O7 (f:=Pu cs (dR cs)) h1 h2
  rw [←h3] at this;unfold A7 at hv;rw [this] at hv;exact Option.some.inj hv
 have hg:(B9 cs 0 (n*4))[j]?=cs[j]?:=by unfold B9;rw [List.drop_zero,List.getElem?_take,if_pos hj]
 generalize j / 4=a at *;generalize j % 4=b at *;subst h3;rw [hg];simp only [D5,X0,Bool.and_eq_true] at hs;obtain ⟨q0,q1,q2,q3,_⟩:=hs
 match b,h2 with
 | 0,_=>
  have:=Z9 q0
  rw [Nat.add_zero];exact ⟨_,this,by subst hv';exact fun ρ cv h=>h⟩
 | 1,_=>exact ⟨_,Z9 q1,by subst hv';exact fun ρ cv h=>h⟩
 | 2,_=>
  subst hv';unfold Io at q2;split at q2
  ·rename_i e;refine ⟨_,e,fun ρ cv h=>?_⟩;show VR ρ (.slice true _ _ (C2 cs (a*4+2))) cv;have e0:C2 cs (a*4+2)=0:=by unfold C2;rw [show cs[a*4+2]?=some .nils from e]
   have e1:G1 cs (a*4+2)=0:=by unfold G1;rw [show cs[a*4+2]?=some .nils from e]
   rw [e0,e1];exact Ec _ _ h
  ·rename_i mb k o m e;refine ⟨_,e,fun ρ cv h=>?_⟩;have e0:C2 cs (a*4+2)=m:=by unfold C2;rw [show cs[a*4+2]?=_ from e]
   have e1:G1 cs (a*4+2)=o:=by unfold G1;rw [show cs[a*4+2]?=_ from e]
   have e2:E7 cs (a*4+2)=k:=by unfold E7;rw [show cs[a*4+2]?=_ from e]
   show VR ρ (.slice true (.ro (E7 cs (a*4+2))) (G1 cs (a*4+2)) (C2 cs (a*4+2))) cv;rw [e0,e1,e2];exact P3 h
  ·cases q2
 | 3,_=>exact ⟨_,Z9 q3,by subst hv';exact fun ρ cv h=>h⟩
end Go.Am
namespace Go.Am
open Go.Proofs
set_option maxRecDepth 100000
theorem ro_at {l:List AV} {o k f n:Nat} {mb:Bool} (h:l[o]?=some (.slice mb (.ro k) f n)):E7 l o=k∧G1 l o=f∧C2 l o=n:=by
 unfold E7 G1 C2;rw [h];exact ⟨rfl,rfl,rfl⟩
def K1 (G:Nat→List AV) (cs:List AV) (i:Nat):List AV:=(List.range 8).map fun j=>.agg (if j<i then N8 G cs j else [])
theorem bU {G:Nat→List AV} {cs:List AV} {i j:Nat} (h:j<8):A0 (K1 G cs i) j=if j<i then N8 G cs j else []:=by
 unfold A0 K1;rw [List.getElem?_map,List.getElem?_range h];rfl
def L5 (dl:List AV):Hp:=(List.range 8).map fun j=>some ⟨1,A0 dl j⟩
theorem M0 {dl:List AV}:(L5 dl).length=8:=by simp [L5]
theorem V9 {dl:List AV} {j:Nat} (h:j<8):(L5 dl)[j]?=some (some ⟨1,A0 dl j⟩):=by
 unfold L5;rw [List.getElem?_map,List.getElem?_range h];rfl
def aX (s:Int) (a b n m:Nat):Option Blk:=some ⟨1,[.int .i64 s,.slice true (.rw a) 0 n,.slice true (.rw b) 0 m]⟩
def reB:Option Blk:=some ⟨1,[.int .i64 0,.nils,.nils]⟩
def hd4 (cs pl:List AV) (s:Int) (n m:Nat) (d:Nat→AV):Hp:=[aX s 2 3 n m,reB,some ⟨4,A7 cs n d⟩,some ⟨2,pl⟩]
def Sm (G:Nat→List AV) (cs pl:List AV) (s:Int) (n m:Nat) (i:Nat):Hp:=hd4 cs pl s n m (dX 4 cs i)++L5 (K1 G cs i)
theorem Gl (cs pl:List AV) (s:Int) (n m:Nat) (d:Nat→AV):(hd4 cs pl s n m d).length=4:=rfl
theorem rJ {G:Nat→List AV} {cs pl:List AV} {s:Int} {n m i:Nat}:(Sm G cs pl s n m i).length=12:=by simp [Sm,hd4,M0]
theorem hMi (G:Nat→List AV) (cs pl:List AV) (s:Int) (n m:Nat) (i:Nat):B4 G [some ⟨1,.of [.int .i64 (.var 1 s),.slice true (.rw 2) (.lit 0) (.var 3 n),.slice true (.rw 3) (.lit 0) (.var 4 m)]⟩,some ⟨1,.of [.int .i64 (.lit 0),.nils,.nils]⟩,some ⟨4,.var 21 (A7 cs n (dX 4 cs i))⟩,some ⟨2,.var 7 pl⟩,some ⟨1,.row (.var 22 (K1 G cs i)) (.lit 0)⟩,some ⟨1,.row (.var 22 (K1 G cs i)) (.lit 1)⟩,some ⟨1,.row (.var 22 (K1 G cs i)) (.lit 2)⟩,some ⟨1,.row (.var 22 (K1 G cs i)) (.lit 3)⟩,some ⟨1,.row (.var 22 (K1 G cs i)) (.lit 4)⟩,some ⟨1,.row (.var 22 (K1 G cs i)) (.lit 5)⟩,some ⟨1,.row (.var 22 (K1 G cs i)) (.lit 6)⟩,some ⟨1,.row (.var 22 (K1 G cs i)) (.lit 7)⟩]=Sm G cs pl s n m i:=rfl
def Vg (G:Nat→List AV) (cs:List AV) (n:Nat):Prop:=∀ j,j<n→Dd 1 (G (E7 cs (j*4+2))) (G1 cs (j*4+2)) (sN cs j)=true
theorem lN {G:Nat→List AV} {cs:List AV} {n j:Nat} (h:Vg G cs n) (hj:j<n):A5 0 (N8 G cs j)=true:=by
 have:=(J0.1 (h j hj)).2.2
 rw [Nat.mul_one] at this;exact this
theorem bT {G:Nat→List AV} {cs:List AV} {n i j:Nat} (h:Vg G cs n) (hi:i≤n):A5 0 (if j<i then N8 G cs j else [])=true:=by
 split
 ·exact lN h (by omega)
 ·rfl
def Zb (i:Nat):Nat→Nat:=fun j=>if j=4+i then 12 else j
theorem rY {G:Nat→List AV} {cs pl:List AV} {s:Int} {n m i:Nat} (hd:Vg G cs n) (hp:A5 0 pl=true) (hi:i<n) (h8:n≤8) {v:Int} {H':Hp} (hH:H'=hd4 cs pl s n m (fun j=>if j=i then .slice true (.rw 12) 0 (sN cs i) else dX 4 cs i j)++L5 (K1 G cs i)++[some ⟨1,N8 G cs i⟩]) :
  B7 0 [.ptr (.rw 0) 0,.ptr (.rw 1) 0,.int .i64 (n:Int),.int .i64 v] (Sm G cs pl s n m (i+1)) [.ptr (.rw 0) 0,.ptr (.rw 1) 0,.int .i64 (n:Int),.int .i64 v] H':=by
 subst hH;have th:∀ j,j<12→((List.range 12).map (Zb i)).getD j 0=if j=4+i then 12 else j:=fun j hj=>X4 hj
 have low:∀ j,j<4→Zb i j=j:=fun j hj=>if_neg (by omega);have fx:∀ j,j<4→((List.range 12).map (Zb i)).getD j 0=j:=fun j hj=>by rw [th j (by omega),if_neg (by omega)]
 refine B7.fn (N:=12) (Zb i) rJ (Nat.zero_le _) (fun j hj=>by omega) (fun a b ha hb h=>?_) (fun j hj=>?_) rfl ?_
 ·unfold Zb at h;by_cases p:a=4+i
  ·by_cases q:b=4+i
   ·omega
   ·rw [if_pos p,if_neg q] at h;omega
  ·by_cases q:b=4+i
   ·rw [if_neg p,if_pos q] at h;omega
   ·rw [if_neg p,if_neg q] at h;exact h
 ·match j,hj with
  | 0,_=>
   rw [low 0 (by omega)];refine ⟨_,_,rfl,rfl,rfl,rfl,.inr ?_⟩;simp only [rens,C5,fx 2 (by omega),fx 3 (by omega)]
  | 1,_=>rw [low 1 (by omega)];exact ⟨_,_,rfl,rfl,rfl,rfl,.inr rfl⟩
  | 2,_=>
   rw [low 2 (by omega)];refine ⟨_,_,rfl,rfl,rfl,Bo fun j hj=>?_,.inr ?_⟩
   ·unfold dX;split
    ·show decide (4+j<12)=true;exact decide_eq_true (by omega)
    ·rfl
   ·show A7 cs n _=rens _ (A7 cs n _);rw [Jf];refine Z3 fun j hj=>?_;unfold dX;by_cases e:j=i
    ·subst e;rw [if_pos rfl,if_pos (by omega)];simp only [dW,C5,th (4+j) (by omega),if_pos]
    ·rw [if_neg e];by_cases f:j<i
     ·rw [if_pos f,if_pos (by omega)];simp only [dW,C5,th (4+j) (by omega)];rw [if_neg (by omega)]
     ·rw [if_neg f,if_neg (by omega)];simp only [dR,C5]
  | 3,_=>rw [low 3 (by omega)];exact ⟨_,_,rfl,rfl,rfl,H6 (Nat.zero_le _) _ hp,.inr (F5 _ _ hp).symm⟩
  | j+4,hj=>
   have hj8:j<8:=by omega
   have e1:(Sm G cs pl s n m (i+1))[j+4]?=some (some ⟨1,if j<i+1 then N8 G cs j else []⟩):=by
    unfold Sm;rw [List.getElem?_append_right (by rw [Gl];omega),Gl,Nat.add_sub_cancel,V9 hj8,bU hj8]
   have fl1:A5 0 (if j<i+1 then N8 G cs j else [])=true:=bT hd (by omega);refine ⟨_,⟨1,if j<i+1 then N8 G cs j else []⟩,e1,?_,rfl,H6 (Nat.zero_le _) _ fl1,.inr (F5 _ _ fl1).symm⟩;by_cases e:j=i
   ·subst e;rw [show Zb j (j+4)=12 from if_pos (by omega),if_pos (by omega)];rw [List.getElem?_append_right (by rw [List.length_append,Gl,M0];omega),List.length_append,Gl,M0];rfl
   ·rw [show Zb i (j+4)=j+4 from if_neg (by omega)];rw [List.append_assoc,List.getElem?_append_right (by rw [Gl];omega),Gl,Nat.add_sub_cancel,List.getElem?_append_left (by rw [M0];exact hj8),V9 hj8,bU hj8];by_cases f:j<i
    ·rw [if_pos f,if_pos (by omega)]
    ·rw [if_neg f,if_neg (by omega)]
 ·simp only [rens,C5,fx 0 (by omega),fx 1 (by omega)];exact ⟨rfl,rfl,rfl,rfl,trivial⟩
theorem rZ (G:Nat→List AV) (B:Nat) (cs pl:List AV) (s:Int) (n m:Nat) (hd:Vg G cs n) (hp:A5 0 pl=true) (h8:n≤8):AWp (⟨Try.prog,G,B⟩:A2) 0 (.loop (A4 Try.f33 0)) (fl 32 [1,2,14,15] [.ptr (.rw 0) 0,.ptr (.rw 1) 0,.int .i64 (n:Int),.int .i64 0]) (Sm G cs pl s n m 0) (lv 32 [1,2,14,15] fun e vs H=>e=.exit 0∧wk [.ptr (.rw 0) 0,.ptr (.rw 1) 0,.undef,.undef] vs∧H=Sm G cs pl s n m n):=by
 refine S0 n (fun i=>[.ptr (.rw 0) 0,.ptr (.rw 1) 0,.int .i64 (n:Int),.int .i64 (i:Int)]) (Sm G cs pl s n m) fun i hi=>?_;rw [←hMi G]
 refine D3 (C:=(⟨Try.prog,G,B⟩:A2)) (K:=Df Try.prog [(37,4,0)] [] clRs [] 0) (by rw [show A8 (A4 Try.f33 0)=[] by kernel_rfl];exact K9 (E9 G B) (by kernel_rfl) (fN G B) .nil) (fuel:=300) (n0:=20) (m:=0) (c:=A4 Try.f33 0) (vs:=[.ptr (.rw 0) (.lit 0),.ptr (.rw 1) (.lit 0),.int .i64 (.ofN (.var 3 n)),.int .i64 (.ofN (.var 8 i))]) (H:=[some ⟨1,.of [.int .i64 (.var 1 s),.slice true (.rw 2) (.lit 0) (.var 3 n),.slice true (.rw 3) (.lit 0) (.var 4 m)]⟩,some ⟨1,.of [.int .i64 (.lit 0),.nils,.nils]⟩,some ⟨4,.var 21 (A7 cs n (dX 4 cs i))⟩,some ⟨2,.var 7 pl⟩,some ⟨1,.row (.var 22 (K1 G cs i)) (.lit 0)⟩,some ⟨1,.row (.var 22 (K1 G cs i)) (.lit 1)⟩,some ⟨1,.row (.var 22 (K1 G cs i)) (.lit 2)⟩,some ⟨1,.row (.var 22 (K1 G cs i)) (.lit 3)⟩,some ⟨1,.row (.var 22 (K1 G cs i)) (.lit 4)⟩,some ⟨1,.row (.var 22 (K1 G cs i)) (.lit 5)⟩,some ⟨1,.row (.var 22 (K1 G cs i)) (.lit 6)⟩,some ⟨1,.row (.var 22 (K1 G cs i)) (.lit 7)⟩]) (Nat.zero_le _) ?_
 rw [cm_b];refine ⟨fun h1=>?_,fun h1=>?_⟩
 ·have hin:i<n:=by have:=of_decide_eq_true h1;omega
  have hat:(A7 cs n (dX 4 cs i))[i*4+2]?=some (dR cs i):=by
   rw [Jg hin];unfold dX;rw [if_neg (by omega)]
  obtain ⟨e0,e1,e2⟩:=ro_at (mb:=true) hat;rw [e0,e1,e2];refine ⟨decide_eq_true (by omega),h1,?_,?_,decide_eq_true (by omega),h1,C6.2 (by rw [Dk];omega),hin,.inr ?_⟩
  ·show Up _ ((i*4+2:Nat):Int).toNat=true;rw [C4];unfold Up;rw [hat];rfl
  ·show Dd 1 _ ((G1 cs (i*4+2):Nat):Int).toNat ((sN cs i:Nat):Int).toNat=true;rw [C4,C4];exact hd i hin
  ·rw [B6 (by omega),qN (by intro l h;cases h)];exact rY hd hp hin h8 rfl
 ·have:i=n:=by have:=of_decide_eq_false h1;omega
  subst this;exact ⟨rfl,by simp [wk],rfl⟩
end Go.Am
namespace Go.Am
open Go.Proofs
set_option maxRecDepth 100000
def cpB (G:Nat→List AV) (ks kp n m:Nat):Bool:=(I4 (G ks) n&&Dd 4 (G ks) 0 n)&&(Dd 2 (G kp) 0 m&&F9 (fun j=>Dd 1 (G (E7 (G ks) (j*4+2))) (G1 (G ks) (j*4+2)) (sN (G ks) j)) n)
theorem U8 {G:Nat→List AV} {ks kp n m:Nat}:cpB G ks kp n m=true↔(I4 (G ks) n=true∧Dd 4 (G ks) 0 n=true)∧Dd 2 (G kp) 0 m=true∧Vg G (G ks) n:=by
 unfold cpB Vg;simp only [Bool.and_eq_true,H4]
theorem oK (G:Nat→List AV) (B:Nat) (ks kp n m:Nat) (s:Int) (hc:cpB G ks kp n m=true) (h8:n≤8):AWp (⟨Try.prog,G,B⟩:A2) 0 (.loop (A4 Try.f33 0)) (fl 32 [1,2,14,15] [.ptr (.rw 0) 0,.ptr (.rw 1) 0,.int .i64 (n:Int),.int .i64 0]) [aX s 2 3 n m,reB,some ⟨4,B9 (G ks) 0 (n*4)⟩,some ⟨2,(B9 (G kp) 0 (m*2))⟩] (lv 32 [1,2,14,15] (LOut.post G 0 (.one (.exit 0) [.ptr (.rw 0) (.lit 0),.ptr (.rw 1) (.lit 0),.undef,.undef] [some ⟨1,.of [.int .i64 (.var 1 s),.slice true (.rw 2) (.lit 0) (.var 3 n),.slice true (.rw 3) (.lit 0) (.var 4 m)]⟩,some ⟨1,.of [.int .i64 (.lit 0),.nils,.nils]⟩,some ⟨4,.var 21 (A7 (G ks) n (dX 4 (G ks) n))⟩,some ⟨2,.var 7 (B9 (G kp) 0 (m*2))⟩,some ⟨1,.row (.var 22 (K1 G (G ks) n)) (.lit 0)⟩,some ⟨1,.row (.var 22 (K1 G (G ks) n)) (.lit 1)⟩,some ⟨1,.row (.var 22 (K1 G (G ks) n)) (.lit 2)⟩,some ⟨1,.row (.var 22 (K1 G (G ks) n)) (.lit 3)⟩,some ⟨1,.row (.var 22 (K1 G (G ks) n)) (.lit 4)⟩,some ⟨1,.row (.var 22 (K1 G (G ks) n)) (.lit 5)⟩,some ⟨1,.row (.var 22 (K1 G (G ks) n)) (.lit 6)⟩,some ⟨1,.row (.var 22 (K1 G (G ks) n)) (.lit 7)⟩]))):=by
 obtain ⟨⟨h1,h2⟩,h3,h4⟩:=U8.1 hc;obtain ⟨⟨c1,c2⟩,_,_⟩:=J0.1 h2;have fp:=(J0.1 h3).2.2;refine AWp.tellH (H':=hd4 (G ks) (B9 (G kp) 0 (m*2)) s n m (dR (G ks))) ⟨.inl rfl,.inl rfl,jM h1 (by have:=C6.1 c1;omega),.inl rfl,trivial⟩ ?_;refine AWp.pads 8 (Nat.zero_le _) ?_;refine (rZ G B (G ks) (B9 (G kp) 0 (m*2)) s n m h4 fp h8).lmono ?_;rintro e vs H ⟨rfl,q,rfl⟩;exact ⟨rfl,.inl ⟨q,rfl⟩⟩
def Aa (G:Nat→List AV) (ks kp n m b:Nat):Hp:=[some ⟨4,A7 (G ks) n (dW b (G ks))⟩,some ⟨2,(B9 (G kp) 0 (m*2))⟩]++L5 (K1 G (G ks) n)
theorem Gk {G:Nat→List AV} {ks kp n m b:Nat}:(Aa G ks kp n m b).length=10:=by simp [Aa,M0]
theorem sB (G:Nat→List AV) (B:Nat) (ks kp n m:Nat) (s:Int) (hc:cpB G ks kp n m=true) (h8:n≤8):ACalls (⟨Try.prog,G,B⟩:A2) 33 [.agg [.int .i64 s,.slice true (.ro ks) 0 n,.slice true (.ro kp) 0 m]] [] fun v H'=>v=.agg [.int .i64 s,.slice true (.rw 0) 0 n,.slice true (.rw 1) 0 m]∧H'=Aa G ks kp n m 2:=by
 obtain ⟨⟨h1,h2⟩,h3,h4⟩:=U8.1 hc;have fp:=(J0.1 h3).2.2
 have h:=C9 (C:=(⟨Try.prog,G,B⟩:A2)) (K:=Dc Try.prog [] clRs [C3 1810 (G8 [.ptr (.rw 0) 0,.ptr (.rw 1) 0,.int .i64 (n:Int),.int .i64 0] [aX s 2 3 n m,reB,some ⟨4,B9 (G ks) 0 (n*4)⟩,some ⟨2,(B9 (G kp) 0 (m*2))⟩]) 0 32 [1,2,14,15] (.one (.exit 0) [.ptr (.rw 0) (.lit 0),.ptr (.rw 1) (.lit 0),.undef,.undef] [some ⟨1,.of [.int .i64 (.var 1 s),.slice true (.rw 2) (.lit 0) (.var 3 n),.slice true (.rw 3) (.lit 0) (.var 4 m)]⟩,some ⟨1,.of [.int .i64 (.lit 0),.nils,.nils]⟩,some ⟨4,.var 21 (A7 (G ks) n (dX 4 (G ks) n))⟩,some ⟨2,.var 7 (B9 (G kp) 0 (m*2))⟩,some ⟨1,.row (.var 22 (K1 G (G ks) n)) (.lit 0)⟩,some ⟨1,.row (.var 22 (K1 G (G ks) n)) (.lit 1)⟩,some ⟨1,.row (.var 22 (K1 G (G ks) n)) (.lit 2)⟩,some ⟨1,.row (.var 22 (K1 G (G ks) n)) (.lit 3)⟩,some ⟨1,.row (.var 22 (K1 G (G ks) n)) (.lit 4)⟩,some ⟨1,.row (.var 22 (K1 G (G ks) n)) (.lit 5)⟩,some ⟨1,.row (.var 22 (K1 G (G ks) n)) (.lit 6)⟩,some ⟨1,.row (.var 22 (K1 G (G ks) n)) (.lit 7)⟩])] 0) (fuel:=300) (n0:=20) (f:=33) (fn:=Try.f33) (args:=[.agg (.of [.int .i64 (.var 1 s),.slice true (.ro (.var 2 ks)) (.lit 0) (.var 3 n),.slice true (.ro (.var 5 kp)) (.lit 0) (.var 4 m)])]) (H:=[]) (keep:=12)
  (R:=fun v H=>v=.agg [.int .i64 s,.slice true (.rw 2) 0 n,.slice true (.rw 3) 0 m]∧H=aX s 2 3 n m::aX s 2 3 n m::Aa G ks kp n m 4) (I0 (E9 G B) (by kernel_rfl) (fN G B) (.cast (.cons (i:=0) (by kernel_rfl) rfl (N2 rfl (oK G B ks kp n m s hc h8)) .nil) (by kernel_rfl))) (by kernel_rfl) (by kernel_rfl) (by kernel_rfl) (by
  rw [cm_c]
  have e1:Vi 4 [.agg (G ks),.int .i64 0,.int .i64 (n:Int)]=true:=by
   show Dd 4 (G ks) (0:Int).toNat ((n:Nat):Int).toNat=true;rw [C4];exact h2
  have e2:Vi 2 [.agg (G kp),.int .i64 0,.int .i64 (m:Int)]=true:=by
   show Dd 2 (G kp) (0:Int).toNat ((m:Nat):Int).toNat=true;rw [C4];exact h3
  refine ⟨e1,e2,D4,rfl,?_⟩;have e3:A7 (G ks) n (dX 4 (G ks) n)=A7 (G ks) n (dW 4 (G ks)):=Z3 fun j hj=>if_pos hj
  rw [e3];rfl)
 refine h.view fun v H' ⟨e1,e2⟩=>⟨_,_,⟨rfl,rfl⟩,?_⟩;subst e1;have th:∀ j,j<10→((List.range 10).map (·+2)).getD j 0=j+2:=fun j hj=>X4 (g:=(·+2)) hj
 have at0:∀ (i:Nat) b,(aX s 2 3 n m::aX s 2 3 n m::Aa G ks kp n m 4)[i]?=some b→H'[i]?=some b:=fun i b hb=>by
  rw [←e2,List.getElem?_take] at hb;split at hb
  ·exact hb
  ·cases hb
 refine B7.fn (N:=10) (·+2) Gk (Nat.zero_le _) (fun j hj=>absurd hj (Nat.not_lt_zero j)) (fun a b _ _ h=>by have:a+2=b+2:=h;omega) (fun j hj=>?_) rfl ?_
 ·match j,hj with
  | 0,_=>
   refine ⟨_,⟨4,A7 (G ks) n (dW 4 (G ks))⟩,rfl,at0 2 _ rfl,rfl,Bo fun j hj=>?_,.inr ?_⟩
   ·show decide (2+j<10)=true;exact decide_eq_true (by omega)
   ·rw [Jf];refine Z3 fun j hj=>?_;simp only [dW,C5,th (2+j) (by omega)];rw [show 2+j+2=4+j by omega]
  | 1,_=>exact ⟨_,⟨2,(B9 (G kp) 0 (m*2))⟩,rfl,at0 3 _ rfl,rfl,H6 (Nat.zero_le _) _ fp,.inr (F5 _ _ fp).symm⟩
  | j+2,hj=>
   have hj8:j<8:=by omega
   have fl1:A5 0 (A0 (K1 G (G ks) n) j)=true:=by rw [bU hj8];exact bT h4 (Nat.le_refl n)
   have e:(Aa G ks kp n m 2)[j+2]?=some (some ⟨1,A0 (K1 G (G ks) n) j⟩):=by
    unfold Aa;rw [List.getElem?_append_right (by simp)];exact V9 hj8
   refine ⟨_,⟨1,A0 (K1 G (G ks) n) j⟩,e,at0 (j+2+2) _ ?_,rfl,H6 (Nat.zero_le _) _ fl1,.inr (F5 _ _ fl1).symm⟩;show (Aa G ks kp n m 4)[j+2]?=_;unfold Aa;rw [List.getElem?_append_right (by simp)];exact V9 hj8
 ·simp only [rens,C5,th 0 (by omega),th 1 (by omega)];exact ⟨rfl,trivial⟩
end Go.Am
namespace Go.Am
open Go.Proofs
set_option maxRecDepth 100000
theorem da_b (G:Nat→List AV) (b0 b1 sc pl dl b12 b13:List AV) (n i:Nat) (x:Int) (h:Bool) (Q:Ex→List AV→Hp→Prop) (R:AV→Hp→Prop):vT G Q R (F8 (Df Try.prog [(37,4,8)] [] progIb [] 14) 300 20 14 (A4 Try.f34 0) 42 [0,3,4,8,9] [.slice true (.rw 2) (.lit 0) (.var 3 n),.ptr (.rw 14) (.lit 0),.nilp,.int .i64 (.ofN (.var 3 n)),.int .i64 (.ofN (.var 8 i))] [some ⟨1,.var 31 b0⟩,some ⟨1,.var 32 b1⟩,some ⟨4,.var 21 sc⟩,some ⟨2,.var 7 pl⟩,some ⟨1,.row (.var 22 dl) (.lit 0)⟩,some ⟨1,.row (.var 22 dl) (.lit 1)⟩,some ⟨1,.row (.var 22 dl) (.lit 2)⟩,some ⟨1,.row (.var 22 dl) (.lit 3)⟩,some ⟨1,.row (.var 22 dl) (.lit 4)⟩,some ⟨1,.row (.var 22 dl) (.lit 5)⟩,some ⟨1,.row (.var 22 dl) (.lit 6)⟩,some ⟨1,.row (.var 22 dl) (.lit 7)⟩,some ⟨1,.var 33 b12⟩,some ⟨1,.var 34 b13⟩,some ⟨1,.of [.int .i64 (.var 6 x),.bool (.var 9 h)]⟩])=(
  (decide ((((i:Nat):Int):Int)<((n:Nat):Int))=true→decide ((0:Int)≤((i:Nat):Int))=true∧decide ((((i:Nat):Int):Int)<((n:Nat):Int))=true∧isI .i64 sc ((i)*4)=true∧(decide ((x:Int)≥A3 sc ((i)*4))=true→isI .i64 sc ((i)*4)=true∧Kt 4 8 sc ((i)*4+2)=true∧(decide ((IntKind.wrap .i64 (x - A3 sc ((i)*4)):Int)≤IntKind.wrap .i64 (((Ib sc ((i)*4+2):Nat):Int) - Y0 [.bool (h)]))=true→Q .ret [.slice true (.rw 2) (0) (n),.ptr (.rw 14) (0),.ptr (.rw 2) ((i)*4),.int .i64 (((n:Nat):Int)),.int .i64 (((i:Nat):Int))] [some ⟨1,b0⟩,some ⟨1,b1⟩,some ⟨4,sc⟩,some ⟨2,pl⟩,some ⟨1,(A0 dl (0))⟩,some ⟨1,(A0 dl (1))⟩,some ⟨1,(A0 dl (2))⟩,some ⟨1,(A0 dl (3))⟩,some ⟨1,(A0 dl (4))⟩,some ⟨1,(A0 dl (5))⟩,some ⟨1,(A0 dl (6))⟩,some ⟨1,(A0 dl (7))⟩,some ⟨1,b12⟩,some ⟨1,b13⟩,some ⟨1,([.int .i64 (x),.bool (h)]:List AV)⟩])∧(decide ((IntKind.wrap .i64 (x - A3 sc ((i)*4)):Int)≤IntKind.wrap .i64 (((Ib sc ((i)*4+2):Nat):Int) - Y0 [.bool (h)]))=false→Q .normal [.slice true (.rw 2) (0) (n),.ptr (.rw 14) (0),.nilp,.int .i64 (((n:Nat):Int)),.int .i64 (IntKind.wrap .i64 (((i:Nat):Int)+1))] [some ⟨1,b0⟩,some ⟨1,b1⟩,some ⟨4,sc⟩,some ⟨2,pl⟩,some ⟨1,(A0 dl (0))⟩,some ⟨1,(A0 dl (1))⟩,some ⟨1,(A0 dl (2))⟩,some ⟨1,(A0 dl (3))⟩,some ⟨1,(A0 dl (4))⟩,some ⟨1,(A0 dl (5))⟩,some ⟨1,(A0 dl (6))⟩,some ⟨1,(A0 dl (7))⟩,some ⟨1,b12⟩,some ⟨1,b13⟩,some ⟨1,([.int .i64 (x),.bool (h)]:List AV)⟩]))∧(decide ((x:Int)≥A3 sc ((i)*4))=false→
 Q .normal [.slice true (.rw 2) (0) (n),.ptr (.rw 14) (0),.nilp,.int .i64 (((n:Nat):Int)),.int .i64 (IntKind.wrap .i64 (((i:Nat):Int)+1))] [some ⟨1,b0⟩,some ⟨1,b1⟩,some ⟨4,sc⟩,some ⟨2,pl⟩,some ⟨1,(A0 dl (0))⟩,some ⟨1,(A0 dl (1))⟩,some ⟨1,(A0 dl (2))⟩,some ⟨1,(A0 dl (3))⟩,some ⟨1,(A0 dl (4))⟩,some ⟨1,(A0 dl (5))⟩,some ⟨1,(A0 dl (6))⟩,some ⟨1,(A0 dl (7))⟩,some ⟨1,b12⟩,some ⟨1,b13⟩,some ⟨1,([.int .i64 (x),.bool (h)]:List AV)⟩]))∧(decide ((((i:Nat):Int):Int)<((n:Nat):Int))=false→Q (.exit 0) [.slice true (.rw 2) (0) (n),.ptr (.rw 14) (0),.nilp,.int .i64 (((n:Nat):Int)),.int .i64 (((i:Nat):Int))] [some ⟨1,b0⟩,some ⟨1,b1⟩,some ⟨4,sc⟩,some ⟨2,pl⟩,some ⟨1,(A0 dl (0))⟩,some ⟨1,(A0 dl (1))⟩,some ⟨1,(A0 dl (2))⟩,some ⟨1,(A0 dl (3))⟩,some ⟨1,(A0 dl (4))⟩,some ⟨1,(A0 dl (5))⟩,some ⟨1,(A0 dl (6))⟩,some ⟨1,(A0 dl (7))⟩,some ⟨1,b12⟩,some ⟨1,b13⟩,some ⟨1,([.int .i64 (x),.bool (h)]:List AV)⟩])):=by kernel_rfl
theorem da_c (G:Nat→List AV) (rl:List AV→Bool) (b0 b1 sc pl dl b12 b13:List AV) (n j:Nat) (x:Int) (h q:Bool) (Q:Ex→List AV→Hp→Prop) (R:AV→Hp→Prop):vT G Q R (J7 (Dc Try.prog [] progIb [C3 1814 (rl) 0 42 [0,3,4,8,9] (.tst (.var 10 q) (.one .ret [.undef,.undef,.ptr (.rw 2) (.mul (.var 11 j) 4),.undef,.undef] [some ⟨1,.var 31 b0⟩,some ⟨1,.var 32 b1⟩,some ⟨4,.var 21 sc⟩,some ⟨2,.var 7 pl⟩,some ⟨1,.row (.var 22 dl) (.lit 0)⟩,some ⟨1,.row (.var 22 dl) (.lit 1)⟩,some ⟨1,.row (.var 22 dl) (.lit 2)⟩,some ⟨1,.row (.var 22 dl) (.lit 3)⟩,some ⟨1,.row (.var 22 dl) (.lit 4)⟩,some ⟨1,.row (.var 22 dl) (.lit 5)⟩,some ⟨1,.row (.var 22 dl) (.lit 6)⟩,some ⟨1,.row (.var 22 dl) (.lit 7)⟩,some ⟨1,.var 33 b12⟩,some ⟨1,.var 34 b13⟩,some ⟨1,.of [.int .i64 (.var 6 x),.bool (.var 9 h)]⟩]) (.one (.exit 0) [.undef,.undef,.nilp,.undef,.undef] [some ⟨1,.var 31 b0⟩,some ⟨1,.var 32 b1⟩,some ⟨4,.var 21 sc⟩,some ⟨2,.var 7 pl⟩,some ⟨1,.row (.var 22 dl) (.lit 0)⟩,some ⟨1,.row (.var 22 dl) (.lit 1)⟩,some ⟨1,.row (.var 22 dl) (.lit 2)⟩,some ⟨1,.row (.var 22 dl) (.lit 3)⟩,some ⟨1,.row (.var 22 dl) (.lit 4)⟩,some ⟨1,.row (.var 22 dl) (.lit 5)⟩,some ⟨1,.row (.var 22 dl) (.lit 6)⟩,some ⟨1,.row (.var 22 dl) (.lit 7)⟩,some ⟨1,.var 33 b12⟩,some ⟨1,.var 34 b13⟩,some ⟨1,.of [.int .i64 (.var 6 x),.bool (.var 9 h)]⟩]))] 14) 300 20 Try.f34 [.slice true (.rw 2) (.lit 0) (.var 3 n),.agg (.of [.int .i64 (.var 6 x),.bool (.var 9 h)])] [some ⟨1,.var 31 b0⟩,some ⟨1,.var 32 b1⟩,some ⟨4,.var 21 sc⟩,some ⟨2,.var 7 pl⟩,some ⟨1,.row (.var 22 dl) (.lit 0)⟩,some ⟨1,.row (.var 22 dl) (.lit 1)⟩,some ⟨1,.row (.var 22 dl) (.lit 2)⟩,some ⟨1,.row (.var 22 dl) (.lit 3)⟩,some ⟨1,.row (.var 22 dl) (.lit 4)⟩,some ⟨1,.row (.var 22 dl) (.lit 5)⟩,some ⟨1,.row (.var 22 dl) (.lit 6)⟩,some ⟨1,.row (.var 22 dl) (.lit 7)⟩,some ⟨1,.var 33 b12⟩,some ⟨1,.var 34 b13⟩] 14)=(
  (rl) [.agg ([.slice true (.rw 2) (0) (n),.ptr (.rw 14) (0),.nilp,.int .i64 (((n:Nat):Int)),.int .i64 (0)]:List AV),.agg ([.tup [.int .i64 (1),.agg b0],.tup [.int .i64 (1),.agg b1],.tup [.int .i64 (4),.agg sc],.tup [.int .i64 (2),.agg pl],.tup [.int .i64 (1),.agg (A0 dl (0))],.tup [.int .i64 (1),.agg (A0 dl (1))],.tup [.int .i64 (1),.agg (A0 dl (2))],.tup [.int .i64 (1),.agg (A0 dl (3))],.tup [.int .i64 (1),.agg (A0 dl (4))],.tup [.int .i64 (1),.agg (A0 dl (5))],.tup [.int .i64 (1),.agg (A0 dl (6))],.tup [.int .i64 (1),.agg (A0 dl (7))],.tup [.int .i64 (1),.agg b12],.tup [.int .i64 (1),.agg b13],.tup [.int .i64 (1),.agg ([.int .i64 (x),.bool (h)]:List AV)]]:List AV)]=true∧(q=true→R (.ptr (.rw 2) ((j)*4)) [some ⟨1,b0⟩,some ⟨1,b1⟩,some ⟨4,sc⟩,some ⟨2,pl⟩,some ⟨1,(A0 dl (0))⟩,some ⟨1,(A0 dl (1))⟩,some ⟨1,(A0 dl (2))⟩,some ⟨1,(A0 dl (3))⟩,some ⟨1,(A0 dl (4))⟩,some ⟨1,(A0 dl (5))⟩,some ⟨1,(A0 dl (6))⟩,some ⟨1,(A0 dl (7))⟩,some ⟨1,b12⟩,some ⟨1,b13⟩])∧(q=false→R (.nilp) [some ⟨1,b0⟩,some ⟨1,b1⟩,some ⟨4,sc⟩,some ⟨2,pl⟩,some ⟨1,(A0 dl (0))⟩,some ⟨1,(A0 dl (1))⟩,some ⟨1,(A0 dl (2))⟩,some ⟨1,(A0 dl (3))⟩,some ⟨1,(A0 dl (4))⟩,some ⟨1,(A0 dl (5))⟩,some ⟨1,(A0 dl (6))⟩,some ⟨1,(A0 dl (7))⟩,some ⟨1,b12⟩,some ⟨1,b13⟩])):=by kernel_rfl
end Go.Am
