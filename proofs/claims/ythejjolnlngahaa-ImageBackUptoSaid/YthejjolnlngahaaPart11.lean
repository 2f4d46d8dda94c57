/-
  Images moved: copied, by a loop over its sections. Images moved: copied: the call.
-/
import Derived.Test.YthejjolnlngahaaPart10
import Derived.Test.YthejjolnlngahaaBase5
import Derived.Test.YthejjolnlngahaaPart8
namespace Go.Am
open Go.Proofs
set_option maxRecDepth 100000
theorem ro_at {l:List AV} {o k f n:Nat} {mb:Bool} (h:l[o]?=some (.slice mb (.ro k) f n)):C8 l o=k∧E9 l o=f∧C7 l o=n:=by
 unfold C8 E9 C7;rw [h];exact ⟨rfl,rfl,rfl⟩
def O6 (G:Nat→List AV) (cs:List AV) (i:Nat):List AV:=(List.range 8).map fun j=>.agg (if j<i then N4 G cs j else [])
theorem oO {G:Nat→List AV} {cs:List AV} {i j:Nat} (h:j<8):A4 (O6 G cs i) j=if j<i then N4 G cs j else []:=by
 unfold A4 O6;rw [sH,List.getElem?_range h];rfl
def Ax (dl:List AV):Hp:=(List.range 8).map fun j=>some ⟨1,A4 dl j⟩
theorem Ar {dl:List AV}:(Ax dl).length=8:=by simp [Ax]
theorem Lx {dl:List AV} {j:Nat} (h:j<8):(Ax dl)[j]?=some (some ⟨1,A4 dl j⟩):=by
 unfold Ax;rw [sH,List.getElem?_range h];rfl
def nR (s:Int) (a b n m:Nat):Option Blk:=some ⟨1,[.int .i64 s,.slice true (.rw a) 0 n,.slice true (.rw b) 0 m]⟩
def reB:Option Blk:=some ⟨1,[.int .i64 0,.nils,.nils]⟩
def hd4 (cs pl:List AV) (s:Int) (n m:Nat) (d:Nat→AV):Hp:=[nR s 2 3 n m,reB,some ⟨4,D2 cs n d⟩,some ⟨2,pl⟩]
def bQ (G:Nat→List AV) (cs pl:List AV) (s:Int) (n m:Nat) (i:Nat):Hp:=hd4 cs pl s n m (dX 4 cs i)++Ax (O6 G cs i)
theorem Le (cs pl:List AV) (s:Int) (n m:Nat) (d:Nat→AV):(hd4 cs pl s n m d).length=4:=rfl
theorem aY7 {G:Nat→List AV} {cs pl:List AV} {s:Int} {n m i:Nat}:(bQ G cs pl s n m i).length=12:=by simp [bQ,hd4,Ar]
theorem hMi (G:Nat→List AV) (cs pl:List AV) (s:Int) (n m:Nat) (i:Nat):B7 G [some ⟨1,.of [.int .i64 (.var 1 s),.slice true (.rw 2) (.lit 0) (.var 3 n),.slice true (.rw 3) (.lit 0) (.var 4 m)]⟩,some ⟨1,.of [.int .i64 (.lit 0),.nils,.nils]⟩,some ⟨4,.var 21 (D2 cs n (dX 4 cs i))⟩,some ⟨2,.var 7 pl⟩,some ⟨1,.row (.var 22 (O6 G cs i)) (.lit 0)⟩,some ⟨1,.row (.var 22 (O6 G cs i)) (.lit 1)⟩,some ⟨1,.row (.var 22 (O6 G cs i)) (.lit 2)⟩,some ⟨1,.row (.var 22 (O6 G cs i)) (.lit 3)⟩,some ⟨1,.row (.var 22 (O6 G cs i)) (.lit 4)⟩,some ⟨1,.row (.var 22 (O6 G cs i)) (.lit 5)⟩,some ⟨1,.row (.var 22 (O6 G cs i)) (.lit 6)⟩,some ⟨1,.row (.var 22 (O6 G cs i)) (.lit 7)⟩]=bQ G cs pl s n m i:=rfl
def fW (G:Nat→List AV) (cs:List AV) (n:Nat):Prop:=∀ j,j<n→Hf 1 (G (C8 cs (j*4+2))) (E9 cs (j*4+2)) (sN cs j)=true
theorem aA1 {G:Nat→List AV} {cs:List AV} {n j:Nat} (h:fW G cs n) (hj:j<n):A3 0 (N4 G cs j)=true:=by
 have:=(L1.1 (h j hj)).2.2
 rw [Nat.mul_one] at this;exact this
theorem oN {G:Nat→List AV} {cs:List AV} {n i j:Nat} (h:fW G cs n) (hi:i≤n):A3 0 (if j<i then N4 G cs j else [])=true:=by
 split
 ·exact aA1 h (by omega)
 ·rfl
def lJ (i:Nat):Nat→Nat:=fun j=>if j=4+i then 12 else j
theorem bA3 {G:Nat→List AV} {cs pl:List AV} {s:Int} {n m i:Nat} (hd:fW G cs n) (hp:A3 0 pl=true) (hi:i<n) (h8:n≤8) {v:Int} {H':Hp} (hH:H'=hd4 cs pl s n m (fun j=>if j=i then .slice true (.rw 12) 0 (sN cs i) else dX 4 cs i j)++Ax (O6 G cs i)++[some ⟨1,N4 G cs i⟩]) :
  C2 0 [.ptr (.rw 0) 0,.ptr (.rw 1) 0,.int .i64 (n:Int),.int .i64 v] (bQ G cs pl s n m (i+1)) [.ptr (.rw 0) 0,.ptr (.rw 1) 0,.int .i64 (n:Int),.int .i64 v] H':=by
 subst hH;have th:∀ j,j<12→((List.range 12).map (lJ i)).getD j 0=if j=4+i then 12 else j:=fun j hj=>Fo hj
 have low:∀ j,j<4→lJ i j=j:=fun j hj=>if_neg (by omega);have fx:∀ j,j<4→((List.range 12).map (lJ i)).getD j 0=j:=fun j hj=>by rw [th j (by omega),if_neg (by omega)]
 refine C2.fn (N:=12) (lJ i) aY7 (zA2 _) (fun j hj=>by omega) (fun a b ha hb h=>?_) (fun j hj=>?_) rfl ?_
 ·unfold lJ at h;by_cases p:a=4+i
  ·by_cases q:b=4+i
   ·omega
   ·rw [if_pos p,if_neg q] at h;omega
  ·by_cases q:b=4+i
   ·rw [if_neg p,if_pos q] at h;omega
   ·rw [if_neg p,if_neg q] at h;exact h
 ·match j,hj with
  | 0,_=>
   rw [low 0 (by omega)];refine ⟨_,_,rfl,rfl,rfl,rfl,.inr ?_⟩;simp only [rens,C0,fx 2 (by omega),fx 3 (by omega)]
  | 1,_=>rw [low 1 (by omega)];exact ⟨_,_,rfl,rfl,rfl,rfl,.inr rfl⟩
  | 2,_=>
   rw [low 2 (by omega)];refine ⟨_,_,rfl,rfl,rfl,Pq fun j hj=>?_,.inr ?_⟩
   ·unfold dX;split
    ·show decide (4+j<12)=true;exact yM (by omega)
    ·rfl
   ·show D2 cs n _=rens _ (D2 cs n _);rw [dM];refine Iz fun j hj=>?_;unfold dX;by_cases e:j=i
    ·subst e;rw [if_pos rfl,if_pos (by omega)];simp only [dW,C0,th (4+j) (by omega),if_pos]
    ·rw [if_neg e];by_cases f:j<i
     ·rw [if_pos f,if_pos (by omega)];simp only [dW,C0,th (4+j) (by omega)];rw [if_neg (by omega)]
     ·rw [if_neg f,if_neg (by omega)];simp only [dR,C0]
  | 3,_=>rw [low 3 (by omega)];exact ⟨_,_,rfl,rfl,rfl,G6 (zA2 _) _ hp,.inr (B9 _ _ hp).symm⟩
  | j+4,hj=>
   have hj8:j<8:=by omega
   have e1:(bQ G cs pl s n m (i+1))[j+4]?=some (some ⟨1,if j<i+1 then N4 G cs j else []⟩):=by
    unfold bQ;rw [xN (by rw [Le];omega),Le,Nat.add_sub_cancel,Lx hj8,oO hj8]
   have fl1:A3 0 (if j<i+1 then N4 G cs j else [])=true:=oN hd (by omega);refine ⟨_,⟨1,if j<i+1 then N4 G cs j else []⟩,e1,?_,rfl,G6 (zA2 _) _ fl1,.inr (B9 _ _ fl1).symm⟩;by_cases e:j=i
   ·subst e;rw [show lJ j (j+4)=12 from if_pos (by omega),if_pos (by omega)];rw [xN (by rw [zA0,Le,Ar];omega),zA0,Le,Ar];rfl
   ·rw [show lJ i (j+4)=j+4 from if_neg (by omega)];rw [List.append_assoc,xN (by rw [Le];omega),Le,Nat.add_sub_cancel,wM (by rw [Ar];exact hj8),Lx hj8,oO hj8];by_cases f:j<i
    ·rw [if_pos f,if_pos (by omega)]
    ·rw [if_neg f,if_neg (by omega)]
 ·simp only [rens,C0,fx 0 (by omega),fx 1 (by omega)];exact ⟨rfl,rfl,rfl,rfl,trivial⟩
theorem bA4 (G:Nat→List AV) (B:Nat) (cs pl:List AV) (s:Int) (n m:Nat) (hd:fW G cs n) (hp:A3 0 pl=true) (h8:n≤8):AWp (⟨Try.prog,G,B⟩:A0) 0 (.loop (A2 Try.f33 0)) (fl 32 [1,2,14,15] [.ptr (.rw 0) 0,.ptr (.rw 1) 0,.int .i64 (n:Int),.int .i64 0]) (bQ G cs pl s n m 0) (lv 32 [1,2,14,15] fun e vs H=>e=.exit 0∧wk [.ptr (.rw 0) 0,.ptr (.rw 1) 0,.undef,.undef] vs∧H=bQ G cs pl s n m n):=by
 refine X7 n (fun i=>[.ptr (.rw 0) 0,.ptr (.rw 1) 0,.int .i64 (n:Int),.int .i64 (i:Int)]) (bQ G cs pl s n m) fun i hi=>?_;rw [←hMi G]
 refine D1 (C:=(⟨Try.prog,G,B⟩:A0)) (K:=Df Try.prog [(37,4,0)] [] clRs [] 0) (by rw [show B5 (A2 Try.f33 0)=[] by kernel_rfl];exact Bm (K6 G B) (by kernel_rfl) (tC G B) .nil) (fuel:=300) (n0:=20) (m:=0) (c:=A2 Try.f33 0) (vs:=[.ptr (.rw 0) (.lit 0),.ptr (.rw 1) (.lit 0),.int .i64 (.ofN (.var 3 n)),.int .i64 (.ofN (.var 8 i))]) (H:=[some ⟨1,.of [.int .i64 (.var 1 s),.slice true (.rw 2) (.lit 0) (.var 3 n),.slice true (.rw 3) (.lit 0) (.var 4 m)]⟩,some ⟨1,.of [.int .i64 (.lit 0),.nils,.nils]⟩,some ⟨4,.var 21 (D2 cs n (dX 4 cs i))⟩,some ⟨2,.var 7 pl⟩,some ⟨1,.row (.var 22 (O6 G cs i)) (.lit 0)⟩,some ⟨1,.row (.var 22 (O6 G cs i)) (.lit 1)⟩,some ⟨1,.row (.var 22 (O6 G cs i)) (.lit 2)⟩,some ⟨1,.row (.var 22 (O6 G cs i)) (.lit 3)⟩,some ⟨1,.row (.var 22 (O6 G cs i)) (.lit 4)⟩,some ⟨1,.row (.var 22 (O6 G cs i)) (.lit 5)⟩,some ⟨1,.row (.var 22 (O6 G cs i)) (.lit 6)⟩,some ⟨1,.row (.var 22 (O6 G cs i)) (.lit 7)⟩]) (zA2 _) ?_
 rw [cm_b];refine ⟨fun h1=>?_,fun h1=>?_⟩
 ·have hin:i<n:=by have:=yL h1;omega
  have hat:(D2 cs n (dX 4 cs i))[i*4+2]?=some (dR cs i):=by
   rw [dO hin];unfold dX;rw [if_neg (by omega)]
  obtain ⟨e0,e1,e2⟩:=ro_at (mb:=true) hat;rw [e0,e1,e2];refine ⟨yM (by omega),h1,?_,?_,yM (by omega),h1,B2.2 (by rw [Pp];omega),hin,.inr ?_⟩
  ·show fD _ ((i*4+2:Nat):Int).toNat=true;rw [F9];unfold fD;rw [hat];rfl
  ·show Hf 1 _ ((E9 cs (i*4+2):Nat):Int).toNat ((sN cs i:Nat):Int).toNat=true;rw [F9,F9];exact hd i hin
  ·rw [B6 (by omega),aU4 (by intro l h;cases h)];exact bA3 hd hp hin h8 rfl
 ·have:i=n:=by have:=yP h1;omega
  subst this;exact ⟨rfl,by simp [wk],rfl⟩
def cpB (G:Nat→List AV) (ks kp n m:Nat):Bool:=(I6 (G ks) n&&Hf 4 (G ks) 0 n)&&(Hf 2 (G kp) 0 m&&I2 (fun j=>Hf 1 (G (C8 (G ks) (j*4+2))) (E9 (G ks) (j*4+2)) (sN (G ks) j)) n)
theorem Dp {G:Nat→List AV} {ks kp n m:Nat}:cpB G ks kp n m=true↔(I6 (G ks) n=true∧Hf 4 (G ks) 0 n=true)∧Hf 2 (G kp) 0 m=true∧fW G (G ks) n:=by
 unfold cpB fW;simp only [zN,F6]
theorem aM4 (G:Nat→List AV) (B:Nat) (ks kp n m:Nat) (s:Int) (hc:cpB G ks kp n m=true) (h8:n≤8):AWp (⟨Try.prog,G,B⟩:A0) 0 (.loop (A2 Try.f33 0)) (fl 32 [1,2,14,15] [.ptr (.rw 0) 0,.ptr (.rw 1) 0,.int .i64 (n:Int),.int .i64 0]) [nR s 2 3 n m,reB,some ⟨4,A9 (G ks) 0 (n*4)⟩,some ⟨2,(A9 (G kp) 0 (m*2))⟩] (lv 32 [1,2,14,15] (LOut.post G 0 (.one (.exit 0) [.ptr (.rw 0) (.lit 0),.ptr (.rw 1) (.lit 0),.undef,.undef] [some ⟨1,.of [.int .i64 (.var 1 s),.slice true (.rw 2) (.lit 0) (.var 3 n),.slice true (.rw 3) (.lit 0) (.var 4 m)]⟩,some ⟨1,.of [.int .i64 (.lit 0),.nils,.nils]⟩,some ⟨4,.var 21 (D2 (G ks) n (dX 4 (G ks) n))⟩,some ⟨2,.var 7 (A9 (G kp) 0 (m*2))⟩,some ⟨1,.row (.var 22 (O6 G (G ks) n)) (.lit 0)⟩,some ⟨1,.row (.var 22 (O6 G (G ks) n)) (.lit 1)⟩,some ⟨1,.row (.var 22 (O6 G (G ks) n)) (.lit 2)⟩,some ⟨1,.row (.var 22 (O6 G (G ks) n)) (.lit 3)⟩,some ⟨1,.row (.var 22 (O6 G (G ks) n)) (.lit 4)⟩,some ⟨1,.row (.var 22 (O6 G (G ks) n)) (.lit 5)⟩,some ⟨1,.row (.var 22 (O6 G (G ks) n)) (.lit 6)⟩,some ⟨1,.row (.var 22 (O6 G (G ks) n)) (.lit 7)⟩]))):=by
 obtain ⟨⟨h1,h2⟩,h3,h4⟩:=Dp.1 hc;obtain ⟨⟨c1,c2⟩,_,_⟩:=L1.1 h2;have fp:=(L1.1 h3).2.2;refine AWp.tellH (H':=hd4 (G ks) (A9 (G kp) 0 (m*2)) s n m (dR (G ks))) ⟨.inl rfl,.inl rfl,xG h1 (by have:=B2.1 c1;omega),.inl rfl,trivial⟩ ?_;refine AWp.pads 8 (zA2 _) ?_;refine (bA4 G B (G ks) (A9 (G kp) 0 (m*2)) s n m h4 fp h8).lmono ?_;rintro e vs H ⟨rfl,q,rfl⟩;exact ⟨rfl,.inl ⟨q,rfl⟩⟩
def Gr (G:Nat→List AV) (ks kp n m b:Nat):Hp:=[some ⟨4,D2 (G ks) n (dW b (G ks))⟩,some ⟨2,(A9 (G kp) 0 (m*2))⟩]++Ax (O6 G (G ks) n)
theorem Ql {G:Nat→List AV} {ks kp n m b:Nat}:(Gr G ks kp n m b).length=10:=by simp [Gr,Ar]
theorem bA5 (G:Nat→List AV) (B:Nat) (ks kp n m:Nat) (s:Int) (hc:cpB G ks kp n m=true) (h8:n≤8):ACalls (⟨Try.prog,G,B⟩:A0) 33 [.agg [.int .i64 s,.slice true (.ro ks) 0 n,.slice true (.ro kp) 0 m]] [] fun v H'=>v=.agg [.int .i64 s,.slice true (.rw 0) 0 n,.slice true (.rw 1) 0 m]∧H'=Gr G ks kp n m 2:=by
 obtain ⟨⟨h1,h2⟩,h3,h4⟩:=Dp.1 hc;have fp:=(L1.1 h3).2.2
 have h:=C1 (C:=(⟨Try.prog,G,B⟩:A0)) (K:=Dc Try.prog [] clRs [D6 1810 (D9 [.ptr (.rw 0) 0,.ptr (.rw 1) 0,.int .i64 (n:Int),.int .i64 0] [nR s 2 3 n m,reB,some ⟨4,A9 (G ks) 0 (n*4)⟩,some ⟨2,(A9 (G kp) 0 (m*2))⟩]) 0 32 [1,2,14,15] (.one (.exit 0) [.ptr (.rw 0) (.lit 0),.ptr (.rw 1) (.lit 0),.undef,.undef] [some ⟨1,.of [.int .i64 (.var 1 s),.slice true (.rw 2) (.lit 0) (.var 3 n),.slice true (.rw 3) (.lit 0) (.var 4 m)]⟩,some ⟨1,.of [.int .i64 (.lit 0),.nils,.nils]⟩,some ⟨4,.var 21 (D2 (G ks) n (dX 4 (G ks) n))⟩,some ⟨2,.var 7 (A9 (G kp) 0 (m*2))⟩,some ⟨1,.row (.var 22 (O6 G (G ks) n)) (.lit 0)⟩,some ⟨1,.row (.var 22 (O6 G (G ks) n)) (.lit 1)⟩,some ⟨1,.row (.var 22 (O6 G (G ks) n)) (.lit 2)⟩,some ⟨1,.row (.var 22 (O6 G (G ks) n)) (.lit 3)⟩,some ⟨1,.row (.var 22 (O6 G (G ks) n)) (.lit 4)⟩,some ⟨1,.row (.var 22 (O6 G (G ks) n)) (.lit 5)⟩,some ⟨1,.row (.var 22 (O6 G (G ks) n)) (.lit 6)⟩,some ⟨1,.row (.var 22 (O6 G (G ks) n)) (.lit 7)⟩])] 0) (fuel:=300) (n0:=20) (f:=33) (fn:=Try.f33) (args:=[.agg (.of [.int .i64 (.var 1 s),.slice true (.ro (.var 2 ks)) (.lit 0) (.var 3 n),.slice true (.ro (.var 5 kp)) (.lit 0) (.var 4 m)])]) (H:=[]) (keep:=12)
  (R:=fun v H=>v=.agg [.int .i64 s,.slice true (.rw 2) 0 n,.slice true (.rw 3) 0 m]∧H=nR s 2 3 n m::nR s 2 3 n m::Gr G ks kp n m 4) (D7 (K6 G B) (by kernel_rfl) (tC G B) (.cast (.cons (i:=0) (by kernel_rfl) rfl (P1 rfl (aM4 G B ks kp n m s hc h8)) .nil) (by kernel_rfl))) (by kernel_rfl) (by kernel_rfl) (by kernel_rfl) (by
  rw [cm_c]
  have e1:fX 4 [.agg (G ks),.int .i64 0,.int .i64 (n:Int)]=true:=by
   show Hf 4 (G ks) (0:Int).toNat (n:Int).toNat=true;rw [F9];exact h2
  have e2:fX 2 [.agg (G kp),.int .i64 0,.int .i64 (m:Int)]=true:=by
   show Hf 2 (G kp) (0:Int).toNat (m:Int).toNat=true;rw [F9];exact h3
  refine ⟨e1,e2,C5,rfl,?_⟩;have e3:D2 (G ks) n (dX 4 (G ks) n)=D2 (G ks) n (dW 4 (G ks)):=Iz fun j hj=>if_pos hj
  rw [e3];rfl)
 refine h.view fun v H' ⟨e1,e2⟩=>⟨_,_,⟨rfl,rfl⟩,?_⟩;subst e1;have th:∀ j,j<10→((List.range 10).map (·+2)).getD j 0=j+2:=fun j hj=>Fo (g:=(·+2)) hj
 have at0:∀ (i:Nat) b,(nR s 2 3 n m::nR s 2 3 n m::Gr G ks kp n m 4)[i]?=some b→H'[i]?=some b:=fun i b hb=>by
  rw [←e2,qL] at hb;split at hb
  ·exact hb
  ·cases hb
 refine C2.fn (N:=10) (·+2) Ql (zA2 _) (fun j hj=>absurd hj (Nat.not_lt_zero j)) (fun a b _ _ h=>by have:a+2=b+2:=h;omega) (fun j hj=>?_) rfl ?_
 ·match j,hj with
  | 0,_=>
   refine ⟨_,⟨4,D2 (G ks) n (dW 4 (G ks))⟩,rfl,at0 2 _ rfl,rfl,Pq fun j hj=>?_,.inr ?_⟩
   ·show decide (2+j<10)=true;exact yM (by omega)
   ·rw [dM];refine Iz fun j hj=>?_;simp only [dW,C0,th (2+j) (by omega)];rw [show 2+j+2=4+j by omega]
  | 1,_=>exact ⟨_,⟨2,(A9 (G kp) 0 (m*2))⟩,rfl,at0 3 _ rfl,rfl,G6 (zA2 _) _ fp,.inr (B9 _ _ fp).symm⟩
  | j+2,hj=>
   have hj8:j<8:=by omega
   have fl1:A3 0 (A4 (O6 G (G ks) n) j)=true:=by rw [oO hj8];exact oN h4 (zA1 n)
   have e:(Gr G ks kp n m 2)[j+2]?=some (some ⟨1,A4 (O6 G (G ks) n) j⟩):=by
    unfold Gr;rw [xN (by simp)];exact Lx hj8
   refine ⟨_,⟨1,A4 (O6 G (G ks) n) j⟩,e,at0 (j+2+2) _ ?_,rfl,G6 (zA2 _) _ fl1,.inr (B9 _ _ fl1).symm⟩;show (Gr G ks kp n m 4)[j+2]?=_;unfold Gr;rw [xN (by simp)];exact Lx hj8
 ·simp only [rens,C0,th 0 (by omega),th 1 (by omega)];exact ⟨rfl,trivial⟩
theorem da_b (G:Nat→List AV) (b0 b1 sc pl dl b12 b13:List AV) (n i:Nat) (x:Int) (h:Bool) (Q:Ex→List AV→Hp→Prop) (R:AV→Hp→Prop):vT G Q R (G3 (Df Try.prog [(37,4,8)] [] progIb [] 14) 300 20 14 (A2 Try.f34 0) 42 [0,3,4,8,9] [.slice true (.rw 2) (.lit 0) (.var 3 n),.ptr (.rw 14) (.lit 0),.nilp,.int .i64 (.ofN (.var 3 n)),.int .i64 (.ofN (.var 8 i))] [some ⟨1,.var 31 b0⟩,some ⟨1,.var 32 b1⟩,some ⟨4,.var 21 sc⟩,some ⟨2,.var 7 pl⟩,some ⟨1,.row (.var 22 dl) (.lit 0)⟩,some ⟨1,.row (.var 22 dl) (.lit 1)⟩,some ⟨1,.row (.var 22 dl) (.lit 2)⟩,some ⟨1,.row (.var 22 dl) (.lit 3)⟩,some ⟨1,.row (.var 22 dl) (.lit 4)⟩,some ⟨1,.row (.var 22 dl) (.lit 5)⟩,some ⟨1,.row (.var 22 dl) (.lit 6)⟩,some ⟨1,.row (.var 22 dl) (.lit 7)⟩,some ⟨1,.var 33 b12⟩,some ⟨1,.var 34 b13⟩,some ⟨1,.of [.int .i64 (.var 6 x),.bool (.var 9 h)]⟩])=(
  (decide (((i:Int):Int)<(n:Int))=true→decide ((0:Int)≤(i:Int))=true∧decide (((i:Int):Int)<(n:Int))=true∧isI .i64 sc (i*4)=true∧(decide ((x:Int)≥A1 sc (i*4))=true→isI .i64 sc (i*4)=true∧Zg 4 8 sc (i*4+2)=true∧(decide ((IntKind.wrap .i64 (x - A1 sc (i*4)):Int)≤IntKind.wrap .i64 (((Tf sc (i*4+2):Nat):Int) - Gc [.bool h]))=true→Q .ret [.slice true (.rw 2) 0 n,.ptr (.rw 14) 0,.ptr (.rw 2) (i*4),.int .i64 ((n:Int)),.int .i64 ((i:Int))] [some ⟨1,b0⟩,some ⟨1,b1⟩,some ⟨4,sc⟩,some ⟨2,pl⟩,some ⟨1,(A4 dl 0)⟩,some ⟨1,(A4 dl 1)⟩,some ⟨1,(A4 dl 2)⟩,some ⟨1,(A4 dl 3)⟩,some ⟨1,(A4 dl 4)⟩,some ⟨1,(A4 dl 5)⟩,some ⟨1,(A4 dl 6)⟩,some ⟨1,(A4 dl 7)⟩,some ⟨1,b12⟩,some ⟨1,b13⟩,some ⟨1,([.int .i64 x,.bool h]:List AV)⟩])∧(decide ((IntKind.wrap .i64 (x - A1 sc (i*4)):Int)≤IntKind.wrap .i64 (((Tf sc (i*4+2):Nat):Int) - Gc [.bool h]))=false→Q .normal [.slice true (.rw 2) 0 n,.ptr (.rw 14) 0,.nilp,.int .i64 ((n:Int)),.int .i64 (IntKind.wrap .i64 ((i:Int)+1))] [some ⟨1,b0⟩,some ⟨1,b1⟩,some ⟨4,sc⟩,some ⟨2,pl⟩,some ⟨1,(A4 dl 0)⟩,some ⟨1,(A4 dl 1)⟩,some ⟨1,(A4 dl 2)⟩,some ⟨1,(A4 dl 3)⟩,some ⟨1,(A4 dl 4)⟩,some ⟨1,(A4 dl 5)⟩,some ⟨1,(A4 dl 6)⟩,some ⟨1,(A4 dl 7)⟩,some ⟨1,b12⟩,some ⟨1,b13⟩,some ⟨1,([.int .i64 x,.bool h]:List AV)⟩]))∧(decide ((x:Int)≥A1 sc (i*4))=false→
 Q .normal [.slice true (.rw 2) 0 n,.ptr (.rw 14) 0,.nilp,.int .i64 ((n:Int)),.int .i64 (IntKind.wrap .i64 ((i:Int)+1))] [some ⟨1,b0⟩,some ⟨1,b1⟩,some ⟨4,sc⟩,some ⟨2,pl⟩,some ⟨1,(A4 dl 0)⟩,some ⟨1,(A4 dl 1)⟩,some ⟨1,(A4 dl 2)⟩,some ⟨1,(A4 dl 3)⟩,some ⟨1,(A4 dl 4)⟩,some ⟨1,(A4 dl 5)⟩,some ⟨1,(A4 dl 6)⟩,some ⟨1,(A4 dl 7)⟩,some ⟨1,b12⟩,some ⟨1,b13⟩,some ⟨1,([.int .i64 x,.bool h]:List AV)⟩]))∧(decide (((i:Int):Int)<(n:Int))=false→Q (.exit 0) [.slice true (.rw 2) 0 n,.ptr (.rw 14) 0,.nilp,.int .i64 ((n:Int)),.int .i64 ((i:Int))] [some ⟨1,b0⟩,some ⟨1,b1⟩,some ⟨4,sc⟩,some ⟨2,pl⟩,some ⟨1,(A4 dl 0)⟩,some ⟨1,(A4 dl 1)⟩,some ⟨1,(A4 dl 2)⟩,some ⟨1,(A4 dl 3)⟩,some ⟨1,(A4 dl 4)⟩,some ⟨1,(A4 dl 5)⟩,some ⟨1,(A4 dl 6)⟩,some ⟨1,(A4 dl 7)⟩,some ⟨1,b12⟩,some ⟨1,b13⟩,some ⟨1,([.int .i64 x,.bool h]:List AV)⟩])):=by kernel_rfl
theorem da_c (G:Nat→List AV) (rl:List AV→Bool) (b0 b1 sc pl dl b12 b13:List AV) (n j:Nat) (x:Int) (h q:Bool) (Q:Ex→List AV→Hp→Prop) (R:AV→Hp→Prop):vT G Q R (G0 (Dc Try.prog [] progIb [D6 1814 rl 0 42 [0,3,4,8,9] (.tst (.var 10 q) (.one .ret [.undef,.undef,.ptr (.rw 2) (.mul (.var 11 j) 4),.undef,.undef] [some ⟨1,.var 31 b0⟩,some ⟨1,.var 32 b1⟩,some ⟨4,.var 21 sc⟩,some ⟨2,.var 7 pl⟩,some ⟨1,.row (.var 22 dl) (.lit 0)⟩,some ⟨1,.row (.var 22 dl) (.lit 1)⟩,some ⟨1,.row (.var 22 dl) (.lit 2)⟩,some ⟨1,.row (.var 22 dl) (.lit 3)⟩,some ⟨1,.row (.var 22 dl) (.lit 4)⟩,some ⟨1,.row (.var 22 dl) (.lit 5)⟩,some ⟨1,.row (.var 22 dl) (.lit 6)⟩,some ⟨1,.row (.var 22 dl) (.lit 7)⟩,some ⟨1,.var 33 b12⟩,some ⟨1,.var 34 b13⟩,some ⟨1,.of [.int .i64 (.var 6 x),.bool (.var 9 h)]⟩]) (.one (.exit 0) [.undef,.undef,.nilp,.undef,.undef] [some ⟨1,.var 31 b0⟩,some ⟨1,.var 32 b1⟩,some ⟨4,.var 21 sc⟩,some ⟨2,.var 7 pl⟩,some ⟨1,.row (.var 22 dl) (.lit 0)⟩,some ⟨1,.row (.var 22 dl) (.lit 1)⟩,some ⟨1,.row (.var 22 dl) (.lit 2)⟩,some ⟨1,.row (.var 22 dl) (.lit 3)⟩,some ⟨1,.row (.var 22 dl) (.lit 4)⟩,some ⟨1,.row (.var 22 dl) (.lit 5)⟩,some ⟨1,.row (.var 22 dl) (.lit 6)⟩,some ⟨1,.row (.var 22 dl) (.lit 7)⟩,some ⟨1,.var 33 b12⟩,some ⟨1,.var 34 b13⟩,some ⟨1,.of [.int .i64 (.var 6 x),.bool (.var 9 h)]⟩]))] 14) 300 20 Try.f34 [.slice true (.rw 2) (.lit 0) (.var 3 n),.agg (.of [.int .i64 (.var 6 x),.bool (.var 9 h)])] [some ⟨1,.var 31 b0⟩,some ⟨1,.var 32 b1⟩,some ⟨4,.var 21 sc⟩,some ⟨2,.var 7 pl⟩,some ⟨1,.row (.var 22 dl) (.lit 0)⟩,some ⟨1,.row (.var 22 dl) (.lit 1)⟩,some ⟨1,.row (.var 22 dl) (.lit 2)⟩,some ⟨1,.row (.var 22 dl) (.lit 3)⟩,some ⟨1,.row (.var 22 dl) (.lit 4)⟩,some ⟨1,.row (.var 22 dl) (.lit 5)⟩,some ⟨1,.row (.var 22 dl) (.lit 6)⟩,some ⟨1,.row (.var 22 dl) (.lit 7)⟩,some ⟨1,.var 33 b12⟩,some ⟨1,.var 34 b13⟩] 14)=(
  rl [.agg ([.slice true (.rw 2) 0 n,.ptr (.rw 14) 0,.nilp,.int .i64 ((n:Int)),.int .i64 0]:List AV),.agg ([.tup [.int .i64 1,.agg b0],.tup [.int .i64 1,.agg b1],.tup [.int .i64 4,.agg sc],.tup [.int .i64 2,.agg pl],.tup [.int .i64 1,.agg (A4 dl 0)],.tup [.int .i64 1,.agg (A4 dl 1)],.tup [.int .i64 1,.agg (A4 dl 2)],.tup [.int .i64 1,.agg (A4 dl 3)],.tup [.int .i64 1,.agg (A4 dl 4)],.tup [.int .i64 1,.agg (A4 dl 5)],.tup [.int .i64 1,.agg (A4 dl 6)],.tup [.int .i64 1,.agg (A4 dl 7)],.tup [.int .i64 1,.agg b12],.tup [.int .i64 1,.agg b13],.tup [.int .i64 1,.agg ([.int .i64 x,.bool h]:List AV)]]:List AV)]=true∧(q=true→R (.ptr (.rw 2) (j*4)) [some ⟨1,b0⟩,some ⟨1,b1⟩,some ⟨4,sc⟩,some ⟨2,pl⟩,some ⟨1,(A4 dl 0)⟩,some ⟨1,(A4 dl 1)⟩,some ⟨1,(A4 dl 2)⟩,some ⟨1,(A4 dl 3)⟩,some ⟨1,(A4 dl 4)⟩,some ⟨1,(A4 dl 5)⟩,some ⟨1,(A4 dl 6)⟩,some ⟨1,(A4 dl 7)⟩,some ⟨1,b12⟩,some ⟨1,b13⟩])∧(q=false→R (.nilp) [some ⟨1,b0⟩,some ⟨1,b1⟩,some ⟨4,sc⟩,some ⟨2,pl⟩,some ⟨1,(A4 dl 0)⟩,some ⟨1,(A4 dl 1)⟩,some ⟨1,(A4 dl 2)⟩,some ⟨1,(A4 dl 3)⟩,some ⟨1,(A4 dl 4)⟩,some ⟨1,(A4 dl 5)⟩,some ⟨1,(A4 dl 6)⟩,some ⟨1,(A4 dl 7)⟩,some ⟨1,b12⟩,some ⟨1,b13⟩])):=by kernel_rfl
section
variable (G:Nat→List AV) (B:Nat)
theorem fn_at {l:List AV} {o b k f n:Nat} (h:l[o]?=some (.slice true (.rw (b+k)) f n)):Tg b l o=k∧Ye l o=f∧Tf l o=n:=by
 unfold Tg Ye Tf;rw [h];refine ⟨?_,rfl,rfl⟩;show b+k - b=k;omega
theorem zF {l:List AV} {o b c k f n:Nat} (h:l[o]?=some (.slice true (.rw (b+k)) f n)) (hk:k<c):Zg b c l o=true:=by
 unfold Zg;rw [h];show (Nat.ble b (b+k)&&Nat.blt (b+k) (b+c))=true;rw [zN];exact ⟨Nat.ble_eq_true_of_le (by omega),Nat.ble_eq_true_of_le (by omega)⟩
theorem scT_A {cs:List AV} {n:Nat} {d:Nat→AV} {j:Nat} (h:j<n):isI .i64 (D2 cs n d) (j*4)=true∧A1 (D2 cs n d) (j*4)=sA cs j:=by
 have:(D2 cs n d)[j*4+0]?=some (.int .i64 (sA cs j)):=P9 (f:=Ty cs d) h (by omega)
 rw [Nat.add_zero] at this;unfold isI A1;rw [this];exact ⟨rfl,rfl⟩
def Dt (b0 b1 sc pl dl b12 b13:List AV):Hp:=[some ⟨1,b0⟩,some ⟨1,b1⟩,some ⟨4,sc⟩,some ⟨2,pl⟩]++(Ax dl++[some ⟨1,b12⟩,some ⟨1,b13⟩])
theorem hL (cs:List AV) (n:Nat) (b0 b1 pl dl b12 b13:List AV):B7 G [some ⟨1,.var 31 b0⟩,some ⟨1,.var 32 b1⟩,some ⟨4,.var 21 (D2 cs n (dW 4 cs))⟩,some ⟨2,.var 7 pl⟩,some ⟨1,.row (.var 22 dl) (.lit 0)⟩,some ⟨1,.row (.var 22 dl) (.lit 1)⟩,some ⟨1,.row (.var 22 dl) (.lit 2)⟩,some ⟨1,.row (.var 22 dl) (.lit 3)⟩,some ⟨1,.row (.var 22 dl) (.lit 4)⟩,some ⟨1,.row (.var 22 dl) (.lit 5)⟩,some ⟨1,.row (.var 22 dl) (.lit 6)⟩,some ⟨1,.row (.var 22 dl) (.lit 7)⟩,some ⟨1,.var 33 b12⟩,some ⟨1,.var 34 b13⟩]=Dt b0 b1 (D2 cs n (dW 4 cs)) pl dl b12 b13:=rfl
theorem sI {b0 b1 sc pl dl b12 b13:List AV}:(Dt b0 b1 sc pl dl b12 b13).length=14:=by simp [Dt,Ar]
theorem aZ9 (b0 b1 pl dl b12 b13:List AV) (cs:List AV) (n:Nat) (x:Int) (h:Bool) (h8:n≤8):AWp (⟨Try.prog,G,B⟩:A0) 14 (.loop (A2 Try.f34 0)) (fl 42 [0,3,4,8,9] [.slice true (.rw 2) 0 n,.ptr (.rw 14) 0,.nilp,.int .i64 (n:Int),.int .i64 0]) (B7 G [some ⟨1,.var 31 b0⟩,some ⟨1,.var 32 b1⟩,some ⟨4,.var 21 (D2 cs n (dW 4 cs))⟩,some ⟨2,.var 7 pl⟩,some ⟨1,.row (.var 22 dl) (.lit 0)⟩,some ⟨1,.row (.var 22 dl) (.lit 1)⟩,some ⟨1,.row (.var 22 dl) (.lit 2)⟩,some ⟨1,.row (.var 22 dl) (.lit 3)⟩,some ⟨1,.row (.var 22 dl) (.lit 4)⟩,some ⟨1,.row (.var 22 dl) (.lit 5)⟩,some ⟨1,.row (.var 22 dl) (.lit 6)⟩,some ⟨1,.row (.var 22 dl) (.lit 7)⟩,some ⟨1,.var 33 b12⟩,some ⟨1,.var 34 b13⟩,some ⟨1,.of [.int .i64 (.var 6 x),.bool (.var 9 h)]⟩]) (lv 42 [0,3,4,8,9] (LOut.post G 14 (.tst (.var 10 (decide ((C9 cs n x h)<n))) (.one .ret [.undef,.undef,.ptr (.rw 2) (.mul (.var 11 (C9 cs n x h)) 4),.undef,.undef] [some ⟨1,.var 31 b0⟩,some ⟨1,.var 32 b1⟩,some ⟨4,.var 21 (D2 cs n (dW 4 cs))⟩,some ⟨2,.var 7 pl⟩,some ⟨1,.row (.var 22 dl) (.lit 0)⟩,some ⟨1,.row (.var 22 dl) (.lit 1)⟩,some ⟨1,.row (.var 22 dl) (.lit 2)⟩,some ⟨1,.row (.var 22 dl) (.lit 3)⟩,some ⟨1,.row (.var 22 dl) (.lit 4)⟩,some ⟨1,.row (.var 22 dl) (.lit 5)⟩,some ⟨1,.row (.var 22 dl) (.lit 6)⟩,some ⟨1,.row (.var 22 dl) (.lit 7)⟩,some ⟨1,.var 33 b12⟩,some ⟨1,.var 34 b13⟩,some ⟨1,.of [.int .i64 (.var 6 x),.bool (.var 9 h)]⟩]) (.one (.exit 0) [.undef,.undef,.nilp,.undef,.undef] [some ⟨1,.var 31 b0⟩,some ⟨1,.var 32 b1⟩,some ⟨4,.var 21 (D2 cs n (dW 4 cs))⟩,some ⟨2,.var 7 pl⟩,some ⟨1,.row (.var 22 dl) (.lit 0)⟩,some ⟨1,.row (.var 22 dl) (.lit 1)⟩,some ⟨1,.row (.var 22 dl) (.lit 2)⟩,some ⟨1,.row (.var 22 dl) (.lit 3)⟩,some ⟨1,.row (.var 22 dl) (.lit 4)⟩,some ⟨1,.row (.var 22 dl) (.lit 5)⟩,some ⟨1,.row (.var 22 dl) (.lit 6)⟩,some ⟨1,.row (.var 22 dl) (.lit 7)⟩,some ⟨1,.var 33 b12⟩,some ⟨1,.var 34 b13⟩,some ⟨1,.of [.int .i64 (.var 6 x),.bool (.var 9 h)]⟩])))):=by
 have hle:(C9 cs n x h)≤n:=K5.1
 refine X7 (C9 cs n x h) (fun i=>[.slice true (.rw 2) 0 n,.ptr (.rw 14) 0,.nilp,.int .i64 (n:Int),.int .i64 (i:Int)]) (fun _=>B7 G [some ⟨1,.var 31 b0⟩,some ⟨1,.var 32 b1⟩,some ⟨4,.var 21 (D2 cs n (dW 4 cs))⟩,some ⟨2,.var 7 pl⟩,some ⟨1,.row (.var 22 dl) (.lit 0)⟩,some ⟨1,.row (.var 22 dl) (.lit 1)⟩,some ⟨1,.row (.var 22 dl) (.lit 2)⟩,some ⟨1,.row (.var 22 dl) (.lit 3)⟩,some ⟨1,.row (.var 22 dl) (.lit 4)⟩,some ⟨1,.row (.var 22 dl) (.lit 5)⟩,some ⟨1,.row (.var 22 dl) (.lit 6)⟩,some ⟨1,.row (.var 22 dl) (.lit 7)⟩,some ⟨1,.var 33 b12⟩,some ⟨1,.var 34 b13⟩,some ⟨1,.of [.int .i64 (.var 6 x),.bool (.var 9 h)]⟩]) fun i hi=>?_
 refine D1 (C:=(⟨Try.prog,G,B⟩:A0)) (K:=Df Try.prog [(37,4,8)] [] progIb [] 14) (by rw [show B5 (A2 Try.f34 0)=[] by kernel_rfl];exact Bm (K6 G B) (by kernel_rfl) (Y3 G B) .nil) (fuel:=300) (n0:=20) (m:=14) (c:=A2 Try.f34 0) (vs:=[.slice true (.rw 2) (.lit 0) (.var 3 n),.ptr (.rw 14) (.lit 0),.nilp,.int .i64 (.ofN (.var 3 n)),.int .i64 (.ofN (.var 8 i))]) (H:=[some ⟨1,.var 31 b0⟩,some ⟨1,.var 32 b1⟩,some ⟨4,.var 21 (D2 cs n (dW 4 cs))⟩,some ⟨2,.var 7 pl⟩,some ⟨1,.row (.var 22 dl) (.lit 0)⟩,some ⟨1,.row (.var 22 dl) (.lit 1)⟩,some ⟨1,.row (.var 22 dl) (.lit 2)⟩,some ⟨1,.row (.var 22 dl) (.lit 3)⟩,some ⟨1,.row (.var 22 dl) (.lit 4)⟩,some ⟨1,.row (.var 22 dl) (.lit 5)⟩,some ⟨1,.row (.var 22 dl) (.lit 6)⟩,some ⟨1,.row (.var 22 dl) (.lit 7)⟩,some ⟨1,.var 33 b12⟩,some ⟨1,.var 34 b13⟩,some ⟨1,.of [.int .i64 (.var 6 x),.bool (.var 9 h)]⟩]) (by show 14≤15;decide) ?_
 rw [da_b];have key:i<n→Eb cs x h i=decide (i=(C9 cs n x h)):=fun h2=>Ji hi h2;simp only [Eb] at key
 have nx:Eb cs x h i=false→i<n→i<(C9 cs n x h):=fun h1 h2=>by
  have:=Ji hi h2
  rw [h1] at this
  have:=yP this.symm
  unfold C9 at *;omega
 refine ⟨fun h1=>?_,fun h1=>?_⟩
 ·have hin:i<n:=by have:=yL h1;omega
  obtain ⟨t1,t2⟩:=scT_A (cs:=cs) (d:=dW 4 cs) hin;have hat:(D2 cs n (dW 4 cs))[i*4+2]?=some (.slice true (.rw (4+i)) 0 (sN cs i)):=dO hin;obtain ⟨f1,f2,f3⟩:=fn_at hat;rw [B6 (n:=(i:Int)+1) (by omega),t2,f3];refine ⟨yM (by omega),h1,t1,fun h2=>⟨t1,zF hat (by omega),fun h3=>?_,fun h3=>?_⟩,fun h2=>?_⟩
  ·have e:i=(C9 cs n x h):=yL (by rw [←key hin,zN];exact ⟨h2,h3⟩);refine .inl ⟨yM (by omega),rfl,.inl ⟨?_,rfl⟩⟩;show wk [.undef,.undef,.ptr (.rw 2) ((C9 cs n x h)*4),.undef,.undef] _;rw [←e];simp [wk]
  ·exact ⟨nx (by unfold Eb;rw [Bool.and_eq_false_iff];exact .inr h3) hin,.inl ⟨rfl,rfl⟩⟩
  ·exact ⟨nx (by unfold Eb;rw [Bool.and_eq_false_iff];exact .inl h2) hin,.inl ⟨rfl,rfl⟩⟩
 ·have h1':=yP h1;exact .inr ⟨yR (by omega),rfl,.inl ⟨by simp [vVs,vV,wk],rfl⟩⟩
theorem bA0 (b0 b1 pl dl b12 b13:List AV) (cs:List AV) (n:Nat) (x:Int) (h:Bool) (h8:n≤8) (hb:H9 14 (Dt b0 b1 (D2 cs n (dW 4 cs)) pl dl b12 b13)=true):ACalls (⟨Try.prog,G,B⟩:A0) 34 [.slice true (.rw 2) 0 n,.agg [.int .i64 x,.bool h]] (Dt b0 b1 (D2 cs n (dW 4 cs)) pl dl b12 b13) fun v H=>v=(if (C9 cs n x h)<n then .ptr (.rw 2) ((C9 cs n x h)*4) else .nilp)∧H=Dt b0 b1 (D2 cs n (dW 4 cs)) pl dl b12 b13:=by
 have key:=C1 (C:=(⟨Try.prog,G,B⟩:A0)) (K:=Dc Try.prog [] progIb [D6 1814 (D9 [.slice true (.rw 2) 0 n,.ptr (.rw 14) 0,.nilp,.int .i64 (n:Int),.int .i64 0] (B7 G [some ⟨1,.var 31 b0⟩,some ⟨1,.var 32 b1⟩,some ⟨4,.var 21 (D2 cs n (dW 4 cs))⟩,some ⟨2,.var 7 pl⟩,some ⟨1,.row (.var 22 dl) (.lit 0)⟩,some ⟨1,.row (.var 22 dl) (.lit 1)⟩,some ⟨1,.row (.var 22 dl) (.lit 2)⟩,some ⟨1,.row (.var 22 dl) (.lit 3)⟩,some ⟨1,.row (.var 22 dl) (.lit 4)⟩,some ⟨1,.row (.var 22 dl) (.lit 5)⟩,some ⟨1,.row (.var 22 dl) (.lit 6)⟩,some ⟨1,.row (.var 22 dl) (.lit 7)⟩,some ⟨1,.var 33 b12⟩,some ⟨1,.var 34 b13⟩,some ⟨1,.of [.int .i64 (.var 6 x),.bool (.var 9 h)]⟩])) 0 42 [0,3,4,8,9] (.tst (.var 10 (decide ((C9 cs n x h)<n))) (.one .ret [.undef,.undef,.ptr (.rw 2) (.mul (.var 11 (C9 cs n x h)) 4),.undef,.undef] [some ⟨1,.var 31 b0⟩,some ⟨1,.var 32 b1⟩,some ⟨4,.var 21 (D2 cs n (dW 4 cs))⟩,some ⟨2,.var 7 pl⟩,some ⟨1,.row (.var 22 dl) (.lit 0)⟩,some ⟨1,.row (.var 22 dl) (.lit 1)⟩,some ⟨1,.row (.var 22 dl) (.lit 2)⟩,some ⟨1,.row (.var 22 dl) (.lit 3)⟩,some ⟨1,.row (.var 22 dl) (.lit 4)⟩,some ⟨1,.row (.var 22 dl) (.lit 5)⟩,some ⟨1,.row (.var 22 dl) (.lit 6)⟩,some ⟨1,.row (.var 22 dl) (.lit 7)⟩,some ⟨1,.var 33 b12⟩,some ⟨1,.var 34 b13⟩,some ⟨1,.of [.int .i64 (.var 6 x),.bool (.var 9 h)]⟩]) (.one (.exit 0) [.undef,.undef,.nilp,.undef,.undef] [some ⟨1,.var 31 b0⟩,some ⟨1,.var 32 b1⟩,some ⟨4,.var 21 (D2 cs n (dW 4 cs))⟩,some ⟨2,.var 7 pl⟩,some ⟨1,.row (.var 22 dl) (.lit 0)⟩,some ⟨1,.row (.var 22 dl) (.lit 1)⟩,some ⟨1,.row (.var 22 dl) (.lit 2)⟩,some ⟨1,.row (.var 22 dl) (.lit 3)⟩,some ⟨1,.row (.var 22 dl) (.lit 4)⟩,some ⟨1,.row (.var 22 dl) (.lit 5)⟩,some ⟨1,.row (.var 22 dl) (.lit 6)⟩,some ⟨1,.row (.var 22 dl) (.lit 7)⟩,some ⟨1,.var 33 b12⟩,some ⟨1,.var 34 b13⟩,some ⟨1,.of [.int .i64 (.var 6 x),.bool (.var 9 h)]⟩]))] 14) (fuel:=300) (n0:=20) (f:=34) (fn:=Try.f34) (args:=[.slice true (.rw 2) (.lit 0) (.var 3 n),.agg (.of [.int .i64 (.var 6 x),.bool (.var 9 h)])]) (H:=[some ⟨1,.var 31 b0⟩,some ⟨1,.var 32 b1⟩,some ⟨4,.var 21 (D2 cs n (dW 4 cs))⟩,some ⟨2,.var 7 pl⟩,some ⟨1,.row (.var 22 dl) (.lit 0)⟩,some ⟨1,.row (.var 22 dl) (.lit 1)⟩,some ⟨1,.row (.var 22 dl) (.lit 2)⟩,some ⟨1,.row (.var 22 dl) (.lit 3)⟩,some ⟨1,.row (.var 22 dl) (.lit 4)⟩,some ⟨1,.row (.var 22 dl) (.lit 5)⟩,some ⟨1,.row (.var 22 dl) (.lit 6)⟩,some ⟨1,.row (.var 22 dl) (.lit 7)⟩,some ⟨1,.var 33 b12⟩,some ⟨1,.var 34 b13⟩]) (keep:=14)
  (R:=fun v H=>v=(if (C9 cs n x h)<n then .ptr (.rw 2) ((C9 cs n x h)*4) else .nilp)∧H=B7 G [some ⟨1,.var 31 b0⟩,some ⟨1,.var 32 b1⟩,some ⟨4,.var 21 (D2 cs n (dW 4 cs))⟩,some ⟨2,.var 7 pl⟩,some ⟨1,.row (.var 22 dl) (.lit 0)⟩,some ⟨1,.row (.var 22 dl) (.lit 1)⟩,some ⟨1,.row (.var 22 dl) (.lit 2)⟩,some ⟨1,.row (.var 22 dl) (.lit 3)⟩,some ⟨1,.row (.var 22 dl) (.lit 4)⟩,some ⟨1,.row (.var 22 dl) (.lit 5)⟩,some ⟨1,.row (.var 22 dl) (.lit 6)⟩,some ⟨1,.row (.var 22 dl) (.lit 7)⟩,some ⟨1,.var 33 b12⟩,some ⟨1,.var 34 b13⟩]) (D7 (K6 G B) (by kernel_rfl) (Y3 G B) (.cast (.cons (i:=0) (by kernel_rfl) rfl (P1 rfl (aZ9 G B b0 b1 pl dl b12 b13 cs n x h h8)) .nil) (by kernel_rfl))) (by kernel_rfl) (by kernel_rfl) (by kernel_rfl) (by
  rw [da_c];refine ⟨C5,fun e=>⟨?_,rfl⟩,fun e=>⟨?_,rfl⟩⟩
  ·exact (if_pos (yL e)).symm
  ·exact (if_neg (yP e)).symm)
 rw [hL] at key;refine ACalls.keep (k:=14) key (zA1 _) (by rw [sI];exact hb) ?_ ?_
 ·rw [sI];split<;>rfl
 ·split<;>simp
end
theorem mv_r (G:Nat→List AV) (b0 b1 sc pl dl b12 b13:List AV) (j a w m i q:Nat) (by_ v:Int) (Q:Ex→List AV→Hp→Prop) (R:AV→Hp→Prop):vT G Q R (G3 (Df Try.prog [(37,4,8)] [] [] [] 14) 300 20 14 (A2 Try.f13 1) 108 [1,4,5,7,9,11,12,36,37,38,62,63] [.int .i64 (.var 1 by_),.ptr (.rw 1) (.lit 0),.int .i64 (.lit 0),.ptr (.rw 12) (.lit 0),.ptr (.rw 13) (.lit 0),.slice true (.fm 4 8 (.var 11 j)) (.var 12 a) (.var 13 w),.int .u32 (.var 14 v),.slice true (.rw 3) (.lit 0) (.var 4 m),.int .i64 (.ofN (.var 4 m)),.int .i64 (.ofN (.var 8 i)),.int .i64 (.ofN (.var 13 w)),.int .i64 (.ofN (.var 9 q))] [some ⟨1,.var 31 b0⟩,some ⟨1,.var 32 b1⟩,some ⟨4,.var 21 sc⟩,some ⟨2,.var 7 pl⟩,some ⟨1,.row (.var 22 dl) (.lit 0)⟩,some ⟨1,.row (.var 22 dl) (.lit 1)⟩,some ⟨1,.row (.var 22 dl) (.lit 2)⟩,some ⟨1,.row (.var 22 dl) (.lit 3)⟩,some ⟨1,.row (.var 22 dl) (.lit 4)⟩,some ⟨1,.row (.var 22 dl) (.lit 5)⟩,some ⟨1,.row (.var 22 dl) (.lit 6)⟩,some ⟨1,.row (.var 22 dl) (.lit 7)⟩,some ⟨1,.var 33 b12⟩,some ⟨1,.var 34 b13⟩])=(
  (decide (((q:Int):Int)<(w:Int))=true→decide ((0:Int)≤(q:Int))=true∧decide (((q:Int):Int)<(w:Int))=true∧leB (j+1) 8=true∧Nj dl [.agg dl,.agg dl,.agg dl,.agg dl,.agg dl,.agg dl,.agg dl,.agg dl]=true∧isI .u8 (A4 dl j) (q+a)=true∧decide ((0:Int)≤IntKind.wrap .i64 (8*(q:Int)))=true∧Q .normal [.int .i64 by_,.ptr (.rw 1) 0,.int .i64 0,.ptr (.rw 12) 0,.ptr (.rw 13) 0,.slice true (.rw (4+j)) a w,.int .u32 (Gp .u32 v (Be .u32 (IntKind.wrap .u32 (A1 (A4 dl j) (q+a))) (IntKind.wrap .i64 (8*(q:Int))))),.slice true (.rw 3) 0 m,.int .i64 ((m:Int)),.int .i64 ((i:Int)),.int .i64 ((w:Int)),.int .i64 (IntKind.wrap .i64 ((q:Int)+1))] [some ⟨1,b0⟩,some ⟨1,b1⟩,some ⟨4,sc⟩,some ⟨2,pl⟩,some ⟨1,(A4 dl 0)⟩,some ⟨1,(A4 dl 1)⟩,some ⟨1,(A4 dl 2)⟩,some ⟨1,(A4 dl 3)⟩,some ⟨1,(A4 dl 4)⟩,some ⟨1,(A4 dl 5)⟩,some ⟨1,(A4 dl 6)⟩,some ⟨1,(A4 dl 7)⟩,some ⟨1,b12⟩,some ⟨1,b13⟩])∧(decide (((q:Int):Int)<(w:Int))=false→Q (.exit 2) [.int .i64 by_,.ptr (.rw 1) 0,.int .i64 0,.ptr (.rw 12) 0,.ptr (.rw 13) 0,.slice true (.rw (4+j)) a w,.int .u32 v,.slice true (.rw 3) 0 m,.int .i64 ((m:Int)),.int .i64 ((i:Int)),.int .i64 ((w:Int)),.int .i64 ((q:Int))] [some ⟨1,b0⟩,some ⟨1,b1⟩,some ⟨4,sc⟩,some ⟨2,pl⟩,some ⟨1,(A4 dl 0)⟩,some ⟨1,(A4 dl 1)⟩,some ⟨1,(A4 dl 2)⟩,some ⟨1,(A4 dl 3)⟩,some ⟨1,(A4 dl 4)⟩,some ⟨1,(A4 dl 5)⟩,some ⟨1,(A4 dl 6)⟩,some ⟨1,(A4 dl 7)⟩,some ⟨1,b12⟩,some ⟨1,b13⟩])):=by kernel_rfl
theorem mv_w (G:Nat→List AV) (b0 b1 sc pl dl b12 b13:List AV) (j a w m i q:Nat) (by_ v:Int) (Q:Ex→List AV→Hp→Prop) (R:AV→Hp→Prop):vT G Q R (G3 (Df Try.prog [(37,4,8)] [] [] [] 14) 300 20 14 (A2 Try.f13 2) 108 [1,4,5,7,11,12,36,37,38,89,90] [.int .i64 (.var 1 by_),.ptr (.rw 1) (.lit 0),.int .i64 (.lit 0),.ptr (.rw 12) (.lit 0),.slice true (.fm 4 8 (.var 11 j)) (.var 12 a) (.var 13 w),.int .u32 (.var 14 v),.slice true (.rw 3) (.lit 0) (.var 4 m),.int .i64 (.ofN (.var 4 m)),.int .i64 (.ofN (.var 8 i)),.int .i64 (.ofN (.var 13 w)),.int .i64 (.ofN (.var 9 q))] [some ⟨1,.var 31 b0⟩,some ⟨1,.var 32 b1⟩,some ⟨4,.var 21 sc⟩,some ⟨2,.var 7 pl⟩,some ⟨1,.row (.var 22 dl) (.lit 0)⟩,some ⟨1,.row (.var 22 dl) (.lit 1)⟩,some ⟨1,.row (.var 22 dl) (.lit 2)⟩,some ⟨1,.row (.var 22 dl) (.lit 3)⟩,some ⟨1,.row (.var 22 dl) (.lit 4)⟩,some ⟨1,.row (.var 22 dl) (.lit 5)⟩,some ⟨1,.row (.var 22 dl) (.lit 6)⟩,some ⟨1,.row (.var 22 dl) (.lit 7)⟩,some ⟨1,.var 33 b12⟩,some ⟨1,.var 34 b13⟩])=(
  (decide (((q:Int):Int)<(w:Int))=true→decide ((0:Int)≤IntKind.wrap .i64 (8*(q:Int)))=true∧decide ((0:Int)≤(q:Int))=true∧decide (((q:Int):Int)<(w:Int))=true∧leB (j+1) 8=true∧Nj dl [.agg dl,.agg dl,.agg dl,.agg dl,.agg dl,.agg dl,.agg dl,.agg dl]=true∧leB (j+1) (List.length dl)=true∧leB (q+a+1) (List.length (A4 dl j))=true∧
 Q .normal [.int .i64 by_,.ptr (.rw 1) 0,.int .i64 0,.ptr (.rw 12) 0,.slice true (.rw (4+j)) a w,.int .u32 v,.slice true (.rw 3) 0 m,.int .i64 ((m:Int)),.int .i64 ((i:Int)),.int .i64 ((w:Int)),.int .i64 (IntKind.wrap .i64 ((q:Int)+1))] [some ⟨1,b0⟩,some ⟨1,b1⟩,some ⟨4,sc⟩,some ⟨2,pl⟩,some ⟨1,(A4 (Dx dl j (E2 (A4 dl j) (q+a) (.int .u8 (IntKind.wrap .u8 (O0 .u32 v (IntKind.wrap .i64 (8*(q:Int)))))))) 0)⟩,some ⟨1,(A4 (Dx dl j (E2 (A4 dl j) (q+a) (.int .u8 (IntKind.wrap .u8 (O0 .u32 v (IntKind.wrap .i64 (8*(q:Int)))))))) 1)⟩,some ⟨1,(A4 (Dx dl j (E2 (A4 dl j) (q+a) (.int .u8 (IntKind.wrap .u8 (O0 .u32 v (IntKind.wrap .i64 (8*(q:Int)))))))) 2)⟩,some ⟨1,(A4 (Dx dl j (E2 (A4 dl j) (q+a) (.int .u8 (IntKind.wrap .u8 (O0 .u32 v (IntKind.wrap .i64 (8*(q:Int)))))))) 3)⟩,some ⟨1,(A4 (Dx dl j (E2 (A4 dl j) (q+a) (.int .u8 (IntKind.wrap .u8 (O0 .u32 v (IntKind.wrap .i64 (8*(q:Int)))))))) 4)⟩,some ⟨1,(A4 (Dx dl j (E2 (A4 dl j) (q+a) (.int .u8 (IntKind.wrap .u8 (O0 .u32 v (IntKind.wrap .i64 (8*(q:Int)))))))) 5)⟩,some ⟨1,(A4 (Dx dl j (E2 (A4 dl j) (q+a) (.int .u8 (IntKind.wrap .u8 (O0 .u32 v (IntKind.wrap .i64 (8*(q:Int)))))))) 6)⟩,some ⟨1,(A4 (Dx dl j (E2 (A4 dl j) (q+a) (.int .u8 (IntKind.wrap .u8 (O0 .u32 v (IntKind.wrap .i64 (8*(q:Int)))))))) 7)⟩,some ⟨1,b12⟩,some ⟨1,b13⟩])∧(decide (((q:Int):Int)<(w:Int))=false→
 Q (.exit 4) [.int .i64 by_,.ptr (.rw 1) 0,.int .i64 0,.ptr (.rw 12) 0,.slice true (.rw (4+j)) a w,.int .u32 v,.slice true (.rw 3) 0 m,.int .i64 ((m:Int)),.int .i64 ((i:Int)),.int .i64 ((w:Int)),.int .i64 ((q:Int))] [some ⟨1,b0⟩,some ⟨1,b1⟩,some ⟨4,sc⟩,some ⟨2,pl⟩,some ⟨1,(A4 dl 0)⟩,some ⟨1,(A4 dl 1)⟩,some ⟨1,(A4 dl 2)⟩,some ⟨1,(A4 dl 3)⟩,some ⟨1,(A4 dl 4)⟩,some ⟨1,(A4 dl 5)⟩,some ⟨1,(A4 dl 6)⟩,some ⟨1,(A4 dl 7)⟩,some ⟨1,b12⟩,some ⟨1,b13⟩])):=by kernel_rfl
def O2 (b:List Nat):List AV:=b.map fun (x:Nat)=>.int .u8 (x:Int)
def Ao (b:List Nat):Prop:=∀ x∈b,x<256
def bN (b:List Nat) (o:Nat):Nat:=b.getD o 0
theorem vZ {b:List Nat} {o:Nat} (h:Ao b):bN b o<256:=by
 unfold bN;rw [List.getD_eq_getElem?_getD]
 match e:b[o]? with
 | none=>exact Nat.zero_lt_succ _
 | some x=>exact h x (rM e)
theorem Ga {b:List Nat}:(O2 b).length=b.length:=by simp [O2]
theorem tE {b:List Nat} {o:Nat} (h:o<b.length):(O2 b)[o]?=some (.int .u8 (bN b o:Int)):=by
 unfold O2 bN;rw [sH,List.getD_eq_getElem?_getD,yO h];rfl
theorem bB0 {b:List Nat} {o:Nat} (h:o<b.length):isI .u8 (O2 b) o=true:=by unfold isI;rw [tE h];rfl
theorem Zv {b:List Nat} {o:Nat} (h:o<b.length):A1 (O2 b) o=(bN b o:Int):=by unfold A1;rw [tE h]
theorem bA9 {b:List Nat} {o x:Nat}:E2 (O2 b) o (.int .u8 (x:Int))=O2 (b.set o x):=by
 show (O2 b).set o _=_;unfold O2;rw [List.map_set]
theorem Zw {n:Nat} {b:List Nat}:A3 n (O2 b)=true:=by
 rw [L2,xM];intro v hv;obtain ⟨x,_,rfl⟩:=List.mem_map.1 hv;rfl
theorem aN1 {b:List Nat}:∀ v∈O2 b,H7 v=true:=fun v hv=>by
 obtain ⟨x,_,rfl⟩:=List.mem_map.1 hv;rfl
theorem bA8 {b:List Nat} {o x:Nat} (h:Ao b) (hx:x<256):Ao (b.set o x):=fun y hy=>by
 rcases List.mem_or_eq_of_mem_set hy with h1 | rfl
 ·exact h y h1
 ·exact hx
def leN (b:List Nat) (a:Nat):Nat→Nat
 | 0=>0
 | q+1=>leN b a q+bN b (a+q)*256^q
theorem bM {b:List Nat} {a:Nat} (h:Ao b):∀ q,leN b a q<256^q
 | 0=>Nat.zero_lt_one
 | q+1=>by
  have h1:=bM (a:=a) h q;have h2:=vZ (o:=a+q) h;have h3:bN b (a+q)*256^q≤255*256^q:=Nat.mul_le_mul_right _ (by omega);rw [leN,Nat.pow_succ];omega
def Bh (b:List Nat) (a v:Nat):Nat→List Nat
 | 0=>b
 | q+1=>(Bh b a v q).set (a+q) (v / 256^q % 256)
theorem Wb {b:List Nat} {a v:Nat}:∀ q,(Bh b a v q).length=b.length
 | 0=>rfl
 | q+1=>by rw [Bh,List.length_set,Wb q]
theorem wN {b:List Nat} {a v:Nat} (h:Ao b):∀ q,Ao (Bh b a v q)
 | 0=>h
 | q+1=>bA8 (wN h q) (Nat.mod_lt _ (by omega))
def updD (D:Nat→List Nat) (j:Nat) (b:List Nat):Nat→List Nat:=fun i=>if i=j then b else D i
theorem qJ {D:Nat→List Nat} {j:Nat} {b:List Nat}:updD D j b j=b:=if_pos rfl
theorem aD4 {D:Nat→List Nat} {j:Nat} {b c:List Nat}:updD (updD D j b) j c=updD D j c:=by
 funext i;unfold updD;by_cases h:i=j
 ·rw [if_pos h,if_pos h]
 ·rw [if_neg h,if_neg h,if_neg h]
theorem wU {D:Nat→List Nat} {j:Nat}:updD D j (D j)=D:=by
 funext i;unfold updD;by_cases h:i=j
 ·rw [if_pos h,h]
 ·rw [if_neg h]
def A7 (D:Nat→List Nat):List AV:=(List.range 8).map fun j=>.agg (O2 (D j))
theorem xS {D:Nat→List Nat}:(A7 D).length=8:=by simp [A7]
theorem Rm {D:Nat→List Nat} {j:Nat} (h:j<8):A4 (A7 D) j=O2 (D j):=by
 unfold A4 A7;rw [sH,List.getElem?_range h];rfl
theorem xR {D:Nat→List Nat} {j:Nat} {b:List Nat} (h:j<8):Dx (A7 D) j (O2 b)=A7 (updD D j b):=by
 unfold Dx A7;refine List.ext_getElem? fun i=>?_;rw [qX];by_cases e:j=i
 ·subst e;rw [if_pos rfl,if_pos (by simpa using h),sH,List.getElem?_range h];simp only [Option.map_some,qJ]
 ·rw [if_neg e,sH,sH];by_cases f:i<8
  ·rw [List.getElem?_range f];simp only [Option.map_some,updD,if_neg (fun h:i=j=>e h.symm)]
  ·rw [qK (by simpa using f)];rfl
theorem aP {D:Nat→List Nat}:Nj (A7 D) [.agg (A7 D),.agg (A7 D),.agg (A7 D),.agg (A7 D),.agg (A7 D),.agg (A7 D),.agg (A7 D),.agg (A7 D)]=true:=by
 refine hJ.2 fun v hv=>?_;simp only [List.mem_cons,List.not_mem_nil,or_false,or_self] at hv;exact hv
theorem lE (n:Int):IntKind.u32.wrap n=n % 4294967296:=by
 simp only [IntKind.wrap,IntKind.signed,IntKind.bits,Bool.false_and,Bool.false_eq_true,if_false];omega
theorem aE {n:Int} (h:0≤n∧n≤4294967295):IntKind.u32.wrap n=n:=by rw [lE];omega
theorem u8_wr (n:Int):IntKind.u8.wrap n=n % 256:=by
 simp only [IntKind.wrap,IntKind.signed,IntKind.bits,Bool.false_and,Bool.false_eq_true,if_false];omega
theorem p256 {q:Nat} (h:q≤3):256^q≤16777216:=by
 match q,h with
 | 0,_=>decide
 | 1,_=>decide
 | 2,_=>decide
 | 3,_=>decide
theorem qM (k:Nat):(2:Int)^(8*k)=((256^k:Nat):Int):=by
 rw [Int.pow_mul]
 have:(2:Int)^8=256:=by decide
 rw [this];simp
theorem shl_by {q d:Nat} (h:q≤3) (hd:d<256):Be .u32 (d:Int) ((8*q:Nat):Int)=((d*256^q:Nat):Int):=by
 unfold Be
 have:min ((8*q:Nat):Int).toNat IntKind.u32.bits=8*q:=by
  show min ((8*q:Nat):Int).toNat 32=8*q;omega
 rw [this,qM,←Int.natCast_mul,aE];have h1:=p256 h;have h2:d*256^q≤255*16777216:=Nat.mul_le_mul (by omega) h1;omega
theorem or_by {q d acc:Nat} (h:q≤3) (hd:d<256) (ha:acc<256^q):Gp .u32 (acc:Int) ((d*256^q:Nat):Int)=((acc+d*256^q:Nat):Int):=by
 have h1:=p256 h;have h2:d*256^q≤255*256^q:=Nat.mul_le_mul_right _ (by omega);show IntKind.u32.wrap (((BitVec.ofInt 32 (acc:Int) ||| BitVec.ofInt 32 ((d*256^q:Nat):Int)).toNat:Nat):Int)=_;have e1:(BitVec.ofInt 32 (acc:Int)).toNat=acc:=by rw [BitVec.toNat_ofInt];omega
 have e2:(BitVec.ofInt 32 ((d*256^q:Nat):Int)).toNat=d*256^q:=by rw [BitVec.toNat_ofInt];omega
 rw [BitVec.toNat_or,e1,e2];have e3:(256:Nat)^q=2^(8*q):=by rw [Nat.pow_mul]
 have e4:=Nat.two_pow_add_eq_or_of_lt (i:=8*q) (b:=acc) (by rw [←e3];exact ha) d;rw [←e3] at e4
 have e5:acc ||| d*256^q=acc+d*256^q:=by
  rw [Nat.or_comm,Nat.mul_comm,←e4,Nat.add_comm]
 rw [e5,aE (by omega)]
theorem shr_by {q v:Nat} (h:q≤3):IntKind.wrap .u8 (O0 .u32 (v:Int) ((8*q:Nat):Int))=((v / 256^q % 256:Nat):Int):=by
 unfold O0
 have:min ((8*q:Nat):Int).toNat IntKind.u32.bits=8*q:=by
  show min ((8*q:Nat):Int).toNat 32=8*q;omega
 rw [this,qM,Int.fdiv_eq_ediv_of_nonneg _ (Int.natCast_nonneg _),u8_wr]
 norm_cast
theorem aX8 {b:List Nat} {a q:Nat} (h:q≤3) (hb:Ao b):Gp .u32 (leN b a q:Int) (Be .u32 (IntKind.wrap .u32 (bN b (a+q):Int)) (IntKind.wrap .i64 (8*(q:Int))))=(leN b a (q+1):Int):=by
 have hx:=vZ (o:=a+q) hb;rw [show (8:Int)*(q:Int)=((8*q:Nat):Int) by omega,B6 (by omega),aE (by omega),shl_by h hx,or_by h hx (bM hb q)];rfl
end Go.Am
