/-
  crc.run: a register behind bytes. Sums of pieces; the document's sums.
-/
import Derived.Test.YthejjolnlngahaaPart14
import Derived.Test.YthejjolnlngahaaBase6
import Derived.Test.YthejjolnlngahaaBase3
namespace Go.Am
open Go.Proofs Crc
theorem tL (G:Nat→List AV) (B:Nat) (Q:AV→Hp→Prop):vc (Kc (⟨Try.prog,G,B⟩:A2)) 1000 0 (.code (B4 Try.f97)) (J1 Try.f97 []) [] (J6 (⟨Try.prog,G,B⟩:A2) Try.f97 Q)=(
  Q (.agg [.int IntKind.u32 ((0:Int)),.int IntKind.u32 ((274646895:Int)),.int IntKind.u32 ((549293790:Int)),.int IntKind.u32 ((820201905:Int)),.int IntKind.u32 ((1098587580:Int)),.int IntKind.u32 ((1361435347:Int)),.int IntKind.u32 ((1640403810:Int)),.int IntKind.u32 ((1905808397:Int)),.int IntKind.u32 ((2197175160:Int)),.int IntKind.u32 ((2460548119:Int)),.int IntKind.u32 ((2722870694:Int)),.int IntKind.u32 ((2987750089:Int)),.int IntKind.u32 ((3280807620:Int)),.int IntKind.u32 ((3553878443:Int)),.int IntKind.u32 ((3811616794:Int)),.int IntKind.u32 ((4084100981:Int))]) [some ⟨1,[.int IntKind.u32 ((0:Int)),.int IntKind.u32 ((274646895:Int)),.int IntKind.u32 ((549293790:Int)),.int IntKind.u32 ((820201905:Int)),.int IntKind.u32 ((1098587580:Int)),.int IntKind.u32 ((1361435347:Int)),.int IntKind.u32 ((1640403810:Int)),.int IntKind.u32 ((1905808397:Int)),.int IntKind.u32 ((2197175160:Int)),.int IntKind.u32 ((2460548119:Int)),.int IntKind.u32 ((2722870694:Int)),.int IntKind.u32 ((2987750089:Int)),.int IntKind.u32 ((3280807620:Int)),.int IntKind.u32 ((3553878443:Int)),.int IntKind.u32 ((3811616794:Int)),.int IntKind.u32 ((4084100981:Int))]⟩,some ⟨1,[.int IntKind.u32 ((0:Int)),.int IntKind.u32 ((274646895:Int)),.int IntKind.u32 ((549293790:Int)),.int IntKind.u32 ((820201905:Int)),.int IntKind.u32 ((1098587580:Int)),.int IntKind.u32 ((1361435347:Int)),.int IntKind.u32 ((1640403810:Int)),.int IntKind.u32 ((1905808397:Int)),.int IntKind.u32 ((2197175160:Int)),.int IntKind.u32 ((2460548119:Int)),.int IntKind.u32 ((2722870694:Int)),.int IntKind.u32 ((2987750089:Int)),.int IntKind.u32 ((3280807620:Int)),.int IntKind.u32 ((3553878443:Int)),.int IntKind.u32 ((3811616794:Int)),.int IntKind.u32 ((4084100981:Int))]⟩]):=by kernel_rfl
theorem pG (G:Nat→List AV) (B:Nat):ACalls (⟨Try.prog,G,B⟩:A2) 97 [] [] fun v _=>v=.agg tab:=by
 refine call_of_vc (K:=Kc (⟨Try.prog,G,B⟩:A2)) (vW (mix G B)) (fun h=>by cases h) 1000 (fn:=Try.f97) (c:=B4 Try.f97) (by kernel_rfl) (by kernel_rfl) (by kernel_rfl) (fun h=>by cases h) ?_;show vc (Kc (⟨Try.prog,G,B⟩:A2)) 1000 0 (.code (B4 Try.f97)) (J1 Try.f97 []) [] (J6 (⟨Try.prog,G,B⟩:A2) Try.f97 _);rw [tL];rfl
def half_sum:Sum1:=fun args _=>match args with
 | []=>some (true,.agg tab,[])
 | _=>none
theorem gS (G:Nat→List AV) (B:Nat):Sd (⟨Try.prog,G,B⟩:A2) 97 half_sum:=by
 intro args H v hs h;unfold half_sum at h;split at h
 ·simp only [Option.some.injEq,Prod.mk.injEq,true_and] at h;obtain ⟨rfl,rfl⟩:=h;exact Qa (C:=(⟨Try.prog,G,B⟩:A2)) ⟨by decide,by decide⟩ ⟨rfl,rfl⟩ pG H
 ·simp at h
theorem rL (G:Nat→List AV) (B:Nat) (k off n:Nat) (mb:Bool) (t:List AV) (s i:Int) (Q:Ex→List AV→Hp→Prop):vc (Kn (⟨Try.prog,G,B⟩:A2) noSum noLoop) 100 0 (.code (A5 Try.f84 0)) (fl 35 [0,5,9,10,11] [.int .u32 s,.ptr (.rw 0) 0,.slice mb (.ro k) off n,.int .i64 n,.int .i64 i]) [some ⟨1,t⟩] (lv 35 [0,5,9,10,11] Q)=(
  tst (decide (i<(↑n:Int))) ( chk (decide ((0:Int)≤i)&&decide (i<(↑n:Int))) ( chk (isI IntKind.u8 (G k) (i.toNat+off)) ( nam (A0 (G k) (i.toNat+off)) (fun y1=> nam (Dw IntKind.u32 s (IntKind.u32.wrap y1)) (fun y2=> chk (decide (L7 IntKind.u32 y2 (15:Int)<(16:Int))) ( chk (isI IntKind.u32 t (L7 IntKind.u32 y2 (15:Int)).toNat) ( nam (Dw IntKind.u32 (O2 IntKind.u32 y2 (4:Int)) (A0 t (L7 IntKind.u32 y2 (15:Int)).toNat)) (fun y3=> chk (decide (L7 IntKind.u32 y3 (15:Int)<(16:Int))) ( chk (isI IntKind.u32 t (L7 IntKind.u32 y3 (15:Int)).toNat) ( nam (Dw IntKind.u32 (O2 IntKind.u32 y3 (4:Int)) (A0 t (L7 IntKind.u32 y3 (15:Int)).toNat)) (fun y4=> Q .normal [.int IntKind.u32 (y4),.ptr (.rw 0) 0,.slice mb (.ro (k)) (off) (n),.int IntKind.i64 ((↑n:Int)),.int IntKind.i64 (IntKind.i64.wrap (i+(1:Int)))] [some ⟨1,t⟩]))))))))))) ( Q (.exit 0) [.int IntKind.u32 (s),.ptr (.rw 0) 0,.slice mb (.ro (k)) (off) (n),.int IntKind.i64 ((↑n:Int)),.int IntKind.i64 (i)] [some ⟨1,t⟩])):=by kernel_rfl
theorem rJ (G:Nat→List AV) (B:Nat) (s:Int) (mb:Bool) (k off n:Nat) (m i:Int) (t:List AV) (hc:(decide (0≤s)&&(decide (s<4294967296)&&(decide (m=n)&&(decide (i=0)&&(decide (n≤9223372036854775807)&&(Bw .u8 (G k) off n&&Ja t))))))=true):AWp (⟨Try.prog,G,B⟩:A2) 0 (.loop (A5 Try.f84 0)) (fl 35 [0,5,9,10,11] [.int .u32 s,.ptr (.rw 0) 0,.slice mb (.ro k) off n,.int .i64 m,.int .i64 i]) [some ⟨1,t⟩] (lv 35 [0,5,9,10,11] fun e' vs'' H''=>e'=.exit 0∧wk [.int .u32 (u (V3 (M4 s) (O5 (G k) off n))),.undef,.undef,.undef,.undef] vs''∧H''=[some ⟨1,t⟩]):=by
 simp only [Bool.and_eq_true,decide_eq_true_eq] at hc;obtain ⟨h1,h2,rfl,rfl,hn,hok,ht⟩:=hc
 refine U8 (fun j vs H=>∃ i:Nat,i≤n∧j=n - i∧vs=[.int .u32 (u (V3 (M4 s) (O5 (G k) off i))),.ptr (.rw 0) 0,.slice mb (.ro k) off n,.int .i64 n,.int .i64 i]∧H=[some ⟨1,t⟩]) n
  ⟨0,by omega,rfl,by rw [Zw,V3,Qq ⟨h1,h2⟩];rfl,rfl⟩ ?_
 rintro j vs H ⟨i,hi,rfl,rfl,rfl⟩;refine wpn (mix G B) (Ey _) (Jn _ _) 100 ?_;rw [rL];simp only [Qr,Fe,Gb,Bool.and_eq_true,decide_eq_true_eq,decide_eq_false_iff_not];refine ⟨fun h=>⟨⟨by omega,h⟩,?_⟩,fun h=>?_⟩
 rotate_left
 ·have:i=n:=by omega
  subst this;exact ⟨trivial,by simp [wk],trivial⟩
 have hi':i<n:=by omega
 have e1:(i:Int).toNat+off=off+i:=by omega
 rw [e1];refine ⟨Lk hok hi',?_⟩;generalize hx:V3 (M4 s) (O5 (G k) off i)=x;have ey:Dw .u32 (u x) (IntKind.u32.wrap (A0 (G k) (off+i)))=u (x ^^^ b8 (A0 (G k) (off+i))):=by rw [Pj,Z6,bX];rfl
 rw [ey];generalize hz:x ^^^ b8 (A0 (G k) (off+i))=z;have ea:∀ z:Wd,L7 .u32 (u z) 15=u (z &&& 15#32):=fun z=>by rw [kAnd_w,Z6];rfl
 have en:∀ z:Wd,(u (z &&& 15#32)).toNat=(z &&& 15#32).toNat:=fun z=>rfl;have el:∀ z:Wd,0≤u (z &&& 15#32)∧u (z &&& 15#32)<16:=fun z=>by have:=bR z;unfold u;omega
 have e4:∀ z:Wd,Dw .u32 (O2 .u32 (u z) 4) (A0 t (u (z &&& 15#32)).toNat)=u (V0 4 z):=fun z=>by
  rw [en,wS ht,show (4:Int)=((4:Nat):Int) from rfl,kShr_u z 4 (by omega),Pj,Z6,Z6,←stn4]
 simp only [ea,e4];refine ⟨(el z).2,mY ht z,(el _).2,mY ht _,n - (i+1),by omega,.inl ⟨i+1,by omega,rfl,?_,trivial⟩⟩;rw [C4 (by omega),←iB,Zx,Mp,hx];simp only [V3,hz];rfl
def kL (G:Nat→List AV) (B:Nat) (vs:List AV) (H:Hp):Option (Bool×Ex×List AV×Hp):=match vs,H with
 | [.int .u32 s,.ptr (.rw 0) 0,.slice mb (.ro k) off n,.int .i64 m,.int .i64 i],[some ⟨1,t⟩]=>some (decide (0≤s)&&(decide (s<4294967296)&&(decide (m=n)&&(decide (i=0)&&(decide (n≤9223372036854775807)&&(Bw .u8 (G k) off n&&Ja t))))),.exit 0,[.int .u32 (u (V3 (M4 s) (O5 (G k) off n))),.undef,.undef,.undef,.undef],[some ⟨1,t⟩])
 | _,_=>none
theorem rM (G:Nat→List AV) (B:Nat) (vs:List AV) (H:Hp) (e:Ex) (vs':List AV) (H':Hp) (h:kL G B vs H=some (true,e,vs',H')) :
  AWp (⟨Try.prog,G,B⟩:A2) 0 (.loop (A5 Try.f84 0)) (fl 35 [0,5,9,10,11] vs) H (lv 35 [0,5,9,10,11] fun e' vs'' H''=>e'=e∧wk vs' vs''∧H''=H'):=by
 unfold kL at h;split at h
 ·rename_i s mb k off n m i t;simp only [Option.some.injEq,Prod.mk.injEq] at h;obtain ⟨hc,rfl,rfl,rfl⟩:=h;exact rJ G B s mb k off n m i t hc
 ·simp at h
def kM (G:Nat→List AV) (B:Nat):Loops:=fun _ F H=>Ph 35 [0,5,9,10,11] (kL G B) F H
theorem run_ok (G:Nat→List AV) (B:Nat):Qm (⟨Try.prog,G,B⟩:A2) (A5 Try.f84 0) (kM G B):=lD (rM G B)
theorem xH (G:Nat→List AV) (B:Nat) (k off n:Nat) (mb:Bool) (s:Int) (Q:AV→Hp→Prop):vc (Kn (⟨Try.prog,G,B⟩:A2) (sums [(97,half_sum)]) (kM G B)) 100 0 (.code (B4 Try.f84)) (J1 Try.f84 [.int .u32 s,.slice mb (.ro k) off n]) [] (J6 (⟨Try.prog,G,B⟩:A2) Try.f84 Q)=(
  nam ((0:Int)) (fun y1=> chk (decide ((0:Int)≤s)&&(decide (s<(4294967296:Int))&&(decide ((↑n:Int)=(↑n:Int))&&(decide (n≤(9223372036854775807:Nat))&&(Bw IntKind.u8 (G k) off n&&Ja [AV.int IntKind.u32 (0:Int),AV.int IntKind.u32 (274646895:Int),AV.int IntKind.u32 (549293790:Int),AV.int IntKind.u32 (820201905:Int),AV.int IntKind.u32 (1098587580:Int),AV.int IntKind.u32 (1361435347:Int),AV.int IntKind.u32 (1640403810:Int),AV.int IntKind.u32 (1905808397:Int),AV.int IntKind.u32 (2197175160:Int),AV.int IntKind.u32 (2460548119:Int),AV.int IntKind.u32 (2722870694:Int),AV.int IntKind.u32 (2987750089:Int),AV.int IntKind.u32 (3280807620:Int),AV.int IntKind.u32 (3553878443:Int),AV.int IntKind.u32 (3811616794:Int),AV.int IntKind.u32 (4084100981:Int)]))))) ( nam (u (V3 (M4 s) (O5 (G k) off n))) (fun y2=> Q (.int IntKind.u32 (y2)) [some ⟨1,[.int IntKind.u32 ((0:Int)),.int IntKind.u32 ((274646895:Int)),.int IntKind.u32 ((549293790:Int)),.int IntKind.u32 ((820201905:Int)),.int IntKind.u32 ((1098587580:Int)),.int IntKind.u32 ((1361435347:Int)),.int IntKind.u32 ((1640403810:Int)),.int IntKind.u32 ((1905808397:Int)),.int IntKind.u32 ((2197175160:Int)),.int IntKind.u32 ((2460548119:Int)),.int IntKind.u32 ((2722870694:Int)),.int IntKind.u32 ((2987750089:Int)),.int IntKind.u32 ((3280807620:Int)),.int IntKind.u32 ((3553878443:Int)),.int IntKind.u32 ((3811616794:Int)),.int IntKind.u32 ((4084100981:Int))]⟩])))):=by kernel_rfl
theorem rK (G:Nat→List AV) (B:Nat) (k off n:Nat) (mb:Bool) (x:Wd) (hn:n≤9223372036854775807) (hok:Bw .u8 (G k) off n=true):ACalls (⟨Try.prog,G,B⟩:A2) 84 [.int .u32 (u x),.slice mb (.ro k) off n] [] fun v _=>v=.int .u32 (u (V3 x (O5 (G k) off n))):=by
 refine lZ (mix G B) (Og (gS G B) (Sv _)) (loop:=kM G B) (fn:=Try.f84) (c:=B4 Try.f84) (by kernel_rfl) (by kernel_rfl) (by kernel_rfl) (.cast (.cons (run_ok G B) .nil) (by kernel_rfl)) 100 ?_;rw [xH]
 have:=Cv x
 simp only [Gb,Fe,Bool.and_eq_true,decide_eq_true_eq,Z6];exact ⟨⟨this.1,this.2,trivial,hn,hok,zP⟩,trivial⟩
def Xg (C:A2):Sum1:=fun args H=>match args with
 | [.int .u32 s,.slice _ r off n]=>match D0 C H r with
  | some cs=>some (decide (0≤s)&&(decide (s<4294967296)&&(decide (n≤9223372036854775807)&&Bw .u8 cs off n)),.int .u32 (u (V3 (M4 s) (O5 cs off n))),[])
  | none=>none
 | _=>none
theorem kK (G:Nat→List AV) (B:Nat):Sd (⟨Try.prog,G,B⟩:A2) 84 (Xg (⟨Try.prog,G,B⟩:A2)):=by
 intro args H v hs h;unfold Xg at h;split at h
 ·rename_i s mb r off n;split at h
  ·rename_i cs hcs;simp only [Option.some.injEq,Prod.mk.injEq,Bool.and_eq_true,decide_eq_true_eq] at h;obtain ⟨⟨h1,h2,h3,h4⟩,rfl,rfl⟩:=h;have key:=fun B'=>rK (G1 ((cs.drop off).take n)) B' 0 0 n mb (M4 s) h3 (sK h4);rw [Qq ⟨h1,h2⟩] at key;refine Xi (C:=(⟨Try.prog,G,B⟩:A2)) (args0:=[.int .u32 s,.slice mb (.ro 0) 0 n]) (sees1 hcs off n (sL h4)) (R:=fun v=>v=.int .u32 (u (V3 (M4 s) (O5 cs off n)))) (fun B'=>?_) (by simp [I4,E6]) (by simp [sbs,sb,sig1]) (fun v hv=>by subst hv;simp [A8,O0])
   have:=key B'
   simp only [G1,pF] at this;exact this
  ·simp at h
 ·simp at h
end Go.Am
namespace Go.Am
open Go.Proofs Crc
def step_sum:Sum1:=fun args _=>match args with
 | [.int .u32 x]=>some (decide (0≤x)&&decide (x<4294967296),.int .u32 (u (V0 8 (M4 x))),[])
 | _=>none
theorem gJ (G:Nat→List AV) (B:Nat):Sd (⟨Try.prog,G,B⟩:A2) 98 step_sum:=by
 intro args H v hs h;unfold step_sum at h;split at h
 ·rename_i x;simp only [Option.some.injEq,Prod.mk.injEq,Bool.and_eq_true,decide_eq_true_eq] at h;obtain ⟨h1,rfl,rfl⟩:=h;have key:=Qa (C:=(⟨Try.prog,G,B⟩:A2)) (f:=98) (args:=[.int .u32 (u (M4 x))]) ⟨by simp [A8],by simp [O0]⟩ ⟨by simp [I4,E6],by simp [O9,O0]⟩ (fun G B=>nC G B (M4 x)) H;rw [Qq h1] at key;exact key
 ·simp at h
theorem yE (G:Nat→List AV) (B:Nat) (k off n:Nat) (mb:Bool) (s i:Int) (Q:Ex→List AV→Hp→Prop):vc (Kn (⟨Try.prog,G,B⟩:A2) (sums [(98,step_sum)]) noLoop) 100 0 (.code (A5 Try.f93 0)) (fl 25 [1,5,6] [.slice mb (.ro k) off n,.int .u32 s,.int .i64 i]) [] (lv 25 [1,5,6] Q)=(
  tst (decide (i<(↑n:Int))) ( chk (decide ((0:Int)≤i)&&decide (i<(↑n:Int))) ( chk (isI IntKind.u8 (G k) (i.toNat+off)) ( nam (Dw IntKind.u32 s (IntKind.u32.wrap (A0 (G k) (i.toNat+off)))) (fun y1=> chk (decide ((0:Int)≤y1)&&decide (y1<(4294967296:Int))) ( nam (u (V0 (8:Nat) (M4 y1))) (fun y2=> nam (IntKind.i64.wrap (i+(1:Int))) (fun y3=> Q .normal [.slice mb (.ro (k)) (off) (n),.int IntKind.u32 (y2),.int IntKind.i64 (y3)] []))))))) ( Q (.exit 0) [.slice mb (.ro (k)) (off) (n),.int IntKind.u32 (s),.int IntKind.i64 (i)] [])):=by kernel_rfl
theorem wX (G:Nat→List AV) (B:Nat) (k off n:Nat) (mb:Bool) (s i:Int) (Q:Ex→List AV→Hp→Prop):vc (Kn (⟨Try.prog,G,B⟩:A2) (sums [(84,Xg (⟨Try.prog,G,B⟩:A2))]) noLoop) 100 0 (.code (A5 Try.f57 0)) (fl 18 [3,6,7,8] [.int .u32 s,.slice mb (.ro k) off n,.int .i64 n,.int .i64 i]) [] (lv 18 [3,6,7,8] Q)=(
  tst (decide (i<(↑n:Int))) ( chk (decide ((0:Int)≤i)&&decide (i<(↑n:Int))) ( chk (Gt (G k) (i.toNat+off)) ( nam (s) (fun y1=> chk (decide ((0:Int)≤y1)&&(decide (y1<(4294967296:Int))&&(decide (B9 (G k) (i.toNat+off)≤(9223372036854775807:Nat))&&Bw IntKind.u8 (G (C9 (G k) (i.toNat+off))) (E5 (G k) (i.toNat+off)) (B9 (G k) (i.toNat+off))))) ( nam (u (V3 (M4 y1) (O5 (G (C9 (G k) (i.toNat+off))) (E5 (G k) (i.toNat+off)) (B9 (G k) (i.toNat+off))))) (fun y2=> Q .normal [.int IntKind.u32 (y2),.slice mb (.ro (k)) (off) (n),.int IntKind.i64 ((↑n:Int)),.int IntKind.i64 (IntKind.i64.wrap (i+(1:Int)))] [])))))) ( Q (.exit 0) [.int IntKind.u32 (s),.slice mb (.ro (k)) (off) (n),.int IntKind.i64 ((↑n:Int)),.int IntKind.i64 (i)] [])):=by kernel_rfl
def uX (G:Nat→List AV) (k j:Nat):List Int:=O5 (G (C9 (G k) j)) (E5 (G k) j) (B9 (G k) j)
def Lj (G:Nat→List AV) (k j:Nat):Bool:=Gt (G k) j&&(decide (B9 (G k) j≤9223372036854775807)&&Bw .u8 (G (C9 (G k) j)) (E5 (G k) j) (B9 (G k) j))
def Bv (G:Nat→List AV) (k off n:Nat):List Int:=((List.range n).map fun j=>uX G k (off+j)).flatten
theorem gL (G:Nat→List AV) (k off n:Nat):Bv G k off (n+1)=Bv G k off n++uX G k (off+n):=by simp [Bv,List.range_succ]
theorem yC (G:Nat→List AV) (B:Nat) (mb:Bool) (k off n:Nat) (s i:Int) (hc:(decide (0≤s)&&(decide (s<4294967296)&&(decide (i=0)&&(decide (n≤9223372036854775807)&&Bw .u8 (G k) off n))))=true):AWp (⟨Try.prog,G,B⟩:A2) 0 (.loop (A5 Try.f93 0)) (fl 25 [1,5,6] [.slice mb (.ro k) off n,.int .u32 s,.int .i64 i]) [] (lv 25 [1,5,6] fun e' vs'' H''=>e'=.exit 0∧wk [.undef,.int .u32 (u (V3 (M4 s) (O5 (G k) off n))),.undef] vs''∧H''=[]):=by
 simp only [Bool.and_eq_true,decide_eq_true_eq] at hc;obtain ⟨h1,h2,rfl,hn,hok⟩:=hc
 refine U8 (fun j vs H=>∃ i:Nat,i≤n∧j=n - i∧vs=[.slice mb (.ro k) off n,.int .u32 (u (V3 (M4 s) (O5 (G k) off i))),.int .i64 i]∧H=[]) n
  ⟨0,by omega,rfl,by rw [Zw,V3,Qq ⟨h1,h2⟩];rfl,rfl⟩ ?_
 rintro j vs H ⟨i,hi,rfl,rfl,rfl⟩;refine wpn (mix G B) (Og (gJ G B) (Sv _)) (Jn _ _) 100 ?_;rw [yE];simp only [Qr,Fe,Gb,Bool.and_eq_true,decide_eq_true_eq,decide_eq_false_iff_not];refine ⟨fun h=>⟨⟨by omega,h⟩,?_⟩,fun h=>?_⟩
 ·have hi':i<n:=by omega
  have e1:(i:Int).toNat+off=off+i:=by omega
  rw [e1,Pj,Z6,bX,Z6];refine ⟨Lk hok hi',Cv _,n - (i+1),by omega,.inl ⟨i+1,by omega,rfl,?_,by trivial⟩⟩;rw [C4 (by omega),Zx,Mp];rfl
 ·have:i=n:=by omega
  subst this;exact ⟨trivial,by simp [wk],trivial⟩
def sT (G:Nat→List AV) (B:Nat) (vs:List AV) (H:Hp):Option (Bool×Ex×List AV×Hp):=match vs,H with
 | [.slice mb (.ro k) off n,.int .u32 s,.int .i64 i],[]=>some (decide (0≤s)&&(decide (s<4294967296)&&(decide (i=0)&&(decide (n≤9223372036854775807)&&Bw .u8 (G k) off n))),.exit 0,[.undef,.int .u32 (u (V3 (M4 s) (O5 (G k) off n))),.undef],[])
 | _,_=>none
theorem yF (G:Nat→List AV) (B:Nat) (vs:List AV) (H:Hp) (e:Ex) (vs':List AV) (H':Hp) (h:sT G B vs H=some (true,e,vs',H')) :
  AWp (⟨Try.prog,G,B⟩:A2) 0 (.loop (A5 Try.f93 0)) (fl 25 [1,5,6] vs) H (lv 25 [1,5,6] fun e' vs'' H''=>e'=e∧wk vs' vs''∧H''=H'):=by
 unfold sT at h;split at h
 ·rename_i mb k off n s i;simp only [Option.some.injEq,Prod.mk.injEq] at h;obtain ⟨hc,rfl,rfl,rfl⟩:=h;exact yC G B mb k off n s i hc
 ·simp at h
def sU (G:Nat→List AV) (B:Nat):Loops:=fun _ F H=>Ph 25 [1,5,6] (sT G B) F H
theorem mo_ok (G:Nat→List AV) (B:Nat):Qm (⟨Try.prog,G,B⟩:A2) (A5 Try.f93 0) (sU G B):=lD (yF G B)
theorem wV (G:Nat→List AV) (B:Nat) (s:Int) (mb:Bool) (k off n:Nat) (m i:Int) (hc:(decide (0≤s)&&(decide (s<4294967296)&&(decide (i=0)&&(decide (m=n)&&(decide (n≤9223372036854775807)&&(List.range n).all (fun j=>Lj G k (off+j)))))))=true):AWp (⟨Try.prog,G,B⟩:A2) 0 (.loop (A5 Try.f57 0)) (fl 18 [3,6,7,8] [.int .u32 s,.slice mb (.ro k) off n,.int .i64 m,.int .i64 i]) [] (lv 18 [3,6,7,8] fun e' vs'' H''=>e'=.exit 0∧wk [.int .u32 (u (V3 (M4 s) (Bv G k off n))),.undef,.undef,.undef] vs''∧H''=[]):=by
 simp only [Bool.and_eq_true,decide_eq_true_eq,List.all_eq_true,List.mem_range] at hc;obtain ⟨h1,h2,rfl,rfl,hn,hok⟩:=hc
 refine U8 (fun j vs H=>∃ i:Nat,i≤n∧j=n - i∧vs=[.int .u32 (u (V3 (M4 s) (Bv G k off i))),.slice mb (.ro k) off n,.int .i64 n,.int .i64 i]∧H=[]) n
  ⟨0,by omega,rfl,by rw [show Bv G k off 0=[] from rfl,V3,Qq ⟨h1,h2⟩];rfl,rfl⟩ ?_
 rintro j vs H ⟨i,hi,rfl,rfl,rfl⟩;refine wpn (mix G B) (Og (kK G B) (Sv _)) (Jn _ _) 100 ?_;rw [wX];simp only [Qr,Fe,Gb,Bool.and_eq_true,decide_eq_true_eq,decide_eq_false_iff_not,Z6];refine ⟨fun h=>⟨⟨by omega,h⟩,?_⟩,fun h=>?_⟩
 ·have hi':i<n:=by omega
  have e1:(i:Int).toNat+off=off+i:=by omega
  have ho:=hok i hi';simp only [Lj,Bool.and_eq_true,decide_eq_true_eq] at ho;rw [e1];refine ⟨ho.1,⟨(Cv _).1,(Cv _).2,ho.2.1,ho.2.2⟩,n - (i+1),by omega,.inl ⟨i+1,by omega,rfl,?_,by trivial⟩⟩;rw [C4 (by omega),gL,Mp];rfl
 ·have:i=n:=by omega
  subst this;exact ⟨trivial,by simp [wk],trivial⟩
def qU (G:Nat→List AV) (B:Nat) (vs:List AV) (H:Hp):Option (Bool×Ex×List AV×Hp):=match vs,H with
 | [.int .u32 s,.slice mb (.ro k) off n,.int .i64 m,.int .i64 i],[]=>some (decide (0≤s)&&(decide (s<4294967296)&&(decide (i=0)&&(decide (m=n)&&(decide (n≤9223372036854775807)&&(List.range n).all (fun j=>Lj G k (off+j)))))),.exit 0,[.int .u32 (u (V3 (M4 s) (Bv G k off n))),.undef,.undef,.undef],[])
 | _,_=>none
theorem wY (G:Nat→List AV) (B:Nat) (vs:List AV) (H:Hp) (e:Ex) (vs':List AV) (H':Hp) (h:qU G B vs H=some (true,e,vs',H')) :
  AWp (⟨Try.prog,G,B⟩:A2) 0 (.loop (A5 Try.f57 0)) (fl 18 [3,6,7,8] vs) H (lv 18 [3,6,7,8] fun e' vs'' H''=>e'=e∧wk vs' vs''∧H''=H'):=by
 unfold qU at h;split at h
 ·rename_i s mb k off n m i;simp only [Option.some.injEq,Prod.mk.injEq] at h;obtain ⟨hc,rfl,rfl,rfl⟩:=h;exact wV G B s mb k off n m i hc
 ·simp at h
def qV (G:Nat→List AV) (B:Nat):Loops:=fun _ F H=>Ph 18 [3,6,7,8] (qU G B) F H
theorem su_ok (G:Nat→List AV) (B:Nat):Qm (⟨Try.prog,G,B⟩:A2) (A5 Try.f57 0) (qV G B):=lD (wY G B)
theorem mo_run (G:Nat→List AV) (B:Nat) (k off n:Nat) (mb:Bool) (s:Int) (Q:AV→Hp→Prop):vc (Kn (⟨Try.prog,G,B⟩:A2) noSum (sU G B)) 100 0 (.code (B4 Try.f93)) (J1 Try.f93 [.int .u32 s,.slice mb (.ro k) off n]) [] (J6 (⟨Try.prog,G,B⟩:A2) Try.f93 Q)=(
  nam ((0:Int)) (fun y1=> nam (Dw IntKind.u32 s (4294967295:Int)) (fun y2=> nam ((0:Int)) (fun y3=> chk (decide ((0:Int)≤y2)&&(decide (y2<(4294967296:Int))&&(decide (y3=(0:Int))&&(decide (n≤(9223372036854775807:Nat))&&Bw IntKind.u8 (G k) off n)))) ( nam (Dw IntKind.u32 (u (V3 (M4 y2) (O5 (G k) off n))) (4294967295:Int)) (fun y4=> Q (.int IntKind.u32 (y4)) [])))))):=by kernel_rfl
theorem zV (G:Nat→List AV) (B:Nat) (k off n:Nat) (mb:Bool) (Q:AV→Hp→Prop):vc (Kn (⟨Try.prog,G,B⟩:A2) noSum (qV G B)) 100 0 (.code (B4 Try.f57)) (J1 Try.f57 [.slice mb (.ro k) off n]) [] (J6 (⟨Try.prog,G,B⟩:A2) Try.f57 Q)=(
  nam ((0:Int)) (fun y1=> nam ((4294967295:Int)) (fun y2=> chk (decide ((0:Int)≤y2)&&(decide (y2<(4294967296:Int))&&(decide ((↑n:Int)=(↑n:Int))&&(decide (n≤(9223372036854775807:Nat))&&(List.range n).all fun j=>Lj G k (off+j))))) ( nam (Ti IntKind.u32 (u (V3 (M4 y2) (Bv G k off n)))) (fun y3=> Q (.int IntKind.u32 (y3)) []))))):=by kernel_rfl
theorem yD (G:Nat→List AV) (B:Nat) (k off n:Nat) (mb:Bool) (x:Wd) (hn:n≤9223372036854775807) (hok:Bw .u8 (G k) off n=true):ACalls (⟨Try.prog,G,B⟩:A2) 93 [.int .u32 (u x),.slice mb (.ro k) off n] [] fun v _=>v=.int .u32 (u (more x (O5 (G k) off n))):=by
 refine lZ (mix G B) (Ey _) (loop:=sU G B) (fn:=Try.f93) (c:=B4 Try.f93) (by kernel_rfl) (by kernel_rfl) (by kernel_rfl) (.cast (.cons (mo_ok G B) .nil) (by kernel_rfl)) 100 ?_;rw [mo_run];simp only [Gb,Fe,Bool.and_eq_true,decide_eq_true_eq,tE,Z6];exact ⟨⟨(Cv _).1,(Cv _).2,trivial,hn,hok⟩,by trivial⟩
theorem wW (G:Nat→List AV) (B:Nat) (k off n:Nat) (mb:Bool) (hn:n≤9223372036854775807) (hok:∀ j,j<n→Lj G k (off+j)=true):ACalls (⟨Try.prog,G,B⟩:A2) 57 [.slice mb (.ro k) off n] [] fun v _=>v=.int .u32 (u (sum (Bv G k off n))):=by
 refine lZ (mix G B) (Ey _) (loop:=qV G B) (fn:=Try.f57) (c:=B4 Try.f57) (by kernel_rfl) (by kernel_rfl) (by kernel_rfl) (.cast (.cons (su_ok G B) .nil) (by kernel_rfl)) 100 ?_;rw [zV];simp only [Gb,Fe,Bool.and_eq_true,decide_eq_true_eq,kNot_u,Z6,List.all_eq_true,List.mem_range];exact ⟨⟨by decide,by decide,trivial,hn,hok⟩,by trivial⟩
end Go.Am
namespace Go.Am
open Go.Proofs
set_option maxRecDepth 100000
theorem put_s (G:Nat→List AV) (B:Nat) (ks n:Nat) (h:Ef G (G ks) n):ACalls (⟨Try.prog,G,B⟩:A2) 51 [.slice true (.ro ks) 0 n,.func 52 []] [] fun v H=>v=.tup [.slice false (.rw 0) 0 ((fN (n:Int)++A9 G (G ks) n)).length,.int .i64 0]∧H=[some ⟨1,(fN (n:Int)++A9 G (G ks) n)⟩]:=by
 have l0:H5 (⟨Try.prog,G,B⟩:A2) 0 (A5 Try.f51 0) (F9 2505 (F8 [.func 52 [],.slice false (.rw 0) 0 (fN (n:Int)).length,.slice true (.ro ks) 0 n,.int .i64 (n:Int),.int .i64 0] [some ⟨1,fN (n:Int)⟩]) 0 28 [1,6,15,16,17] (.one (.exit 0) [.undef,.slice false (.rw 0) (.lit 0) (.len (.var 22 (fN (n:Int)++A9 G (G ks) n))),.undef,.undef,.undef] [some ⟨1,.var 22 (fN (n:Int)++A9 G (G ks) n)⟩])):=Cr rfl ((xU G B ks n (fN (n:Int)) (J9 _) (by have:=K6 (n:Int);omega) h).lmono fun e vs H ⟨h1,h2,h3⟩=>⟨h1,.inl ⟨h2,h3⟩⟩);have h8:=h.le8
 have u:u8s (fN (n:Int)++A9 G (G ks) n)=true:=by rw [C3,J9,Eo fun j hj=>h.u8 hj];rfl
 have key:=C7 (C:=(⟨Try.prog,G,B⟩:A2)) (f:=51) (fn:=Try.f51) (K:=Dc Try.prog [] (Ha G) [F9 2505 (F8 [.func 52 [],.slice false (.rw 0) 0 (fN (n:Int)).length,.slice true (.ro ks) 0 n,.int .i64 (n:Int),.int .i64 0] [some ⟨1,fN (n:Int)⟩]) 0 28 [1,6,15,16,17] (.one (.exit 0) [.undef,.slice false (.rw 0) (.lit 0) (.len (.var 22 (fN (n:Int)++A9 G (G ks) n))),.undef,.undef,.undef] [some ⟨1,.var 22 (fN (n:Int)++A9 G (G ks) n)⟩])] 0) (R:=fun v H=>v=.tup [.slice false (.rw 0) 0 ((fN (n:Int)++A9 G (G ks) n)).length,.int .i64 0]∧H=[some ⟨1,(fN (n:Int)++A9 G (G ks) n)⟩]) (D3 (mix G B) (by kernel_rfl) (Mr G B) (.cast (.cons (i:=0) (by kernel_rfl) rfl l0 .nil) (by kernel_rfl))) (by kernel_rfl) (by kernel_rfl) (by kernel_rfl) (fuel:=300) (n0:=20) (keep:=1) (args:=[.slice true (.ro (.var 24 ks)) (.lit 0) (.var 3 n),.func 52 []]) (H:=[]) (by
  rw [t51,Di (x:=(n:Int)) (K4.2 (by omega))]
  exact ⟨Z9 (K4.2 (by omega)),by
   show F8 _ _ [.agg [.func 52 [],.slice false (.rw 0) 0 (A1 [.int .u64 (n:Int)]).length,_,_,_],_]=true;rw [show (A1 [.int .u64 (n:Int)]).length=(fN (n:Int)).length from (I5 _).symm]
   exact G3,rfl,rfl⟩)
 exact key.keep (H:=[]) (by simp) (by simp only [List.length_cons,List.length_nil,J5,B7 u,Bool.and_self]) (by simp [A8,A4]) (by simp)
theorem put_p (G:Nat→List AV) (B:Nat) (kp m:Nat) (h:Ub (G kp) m):ACalls (⟨Try.prog,G,B⟩:A2) 53 [.slice true (.ro kp) 0 m,.func 54 []] [] fun v H=>v=.tup [.slice false (.rw 0) 0 ((fN (m:Int)++B1 (G kp) m)).length,.int .i64 0]∧H=[some ⟨1,(fN (m:Int)++B1 (G kp) m)⟩]:=by
 have l0:H5 (⟨Try.prog,G,B⟩:A2) 0 (A5 Try.f53 0) (F9 2506 (F8 [.func 54 [],.slice false (.rw 0) 0 (fN (m:Int)).length,.slice true (.ro kp) 0 m,.int .i64 (m:Int),.int .i64 0] [some ⟨1,fN (m:Int)⟩]) 0 28 [1,6,15,16,17] (.one (.exit 0) [.undef,.slice false (.rw 0) (.lit 0) (.len (.var 22 (fN (m:Int)++B1 (G kp) m))),.undef,.undef,.undef] [some ⟨1,.var 22 (fN (m:Int)++B1 (G kp) m)⟩])):=Cr rfl ((xV G B kp m (fN (m:Int)) (J9 _) (by have:=K6 (m:Int);omega) h).lmono fun e vs H ⟨h1,h2,h3⟩=>⟨h1,.inl ⟨h2,h3⟩⟩);have h8:=h.le
 have u:u8s (fN (m:Int)++B1 (G kp) m)=true:=by rw [C3,J9,Eu];rfl
 have key:=C7 (C:=(⟨Try.prog,G,B⟩:A2)) (f:=53) (fn:=Try.f53) (K:=Dc Try.prog [] (Ha G) [F9 2506 (F8 [.func 54 [],.slice false (.rw 0) 0 (fN (m:Int)).length,.slice true (.ro kp) 0 m,.int .i64 (m:Int),.int .i64 0] [some ⟨1,fN (m:Int)⟩]) 0 28 [1,6,15,16,17] (.one (.exit 0) [.undef,.slice false (.rw 0) (.lit 0) (.len (.var 22 (fN (m:Int)++B1 (G kp) m))),.undef,.undef,.undef] [some ⟨1,.var 22 (fN (m:Int)++B1 (G kp) m)⟩])] 0) (R:=fun v H=>v=.tup [.slice false (.rw 0) 0 ((fN (m:Int)++B1 (G kp) m)).length,.int .i64 0]∧H=[some ⟨1,(fN (m:Int)++B1 (G kp) m)⟩]) (D3 (mix G B) (by kernel_rfl) (Mr G B) (.cast (.cons (i:=0) (by kernel_rfl) rfl l0 .nil) (by kernel_rfl))) (by kernel_rfl) (by kernel_rfl) (by kernel_rfl) (fuel:=300) (n0:=20) (keep:=1) (args:=[.slice true (.ro (.var 25 kp)) (.lit 0) (.var 4 m),.func 54 []]) (H:=[]) (by
  rw [t53,Di (x:=(m:Int)) (K4.2 (by omega))]
  exact ⟨Z9 (K4.2 (by omega)),by
   show F8 _ _ [.agg [.func 54 [],.slice false (.rw 0) 0 (A1 [.int .u64 (m:Int)]).length,_,_,_],_]=true;rw [show (A1 [.int .u64 (m:Int)]).length=(fN (m:Int)).length from (I5 _).symm]
   exact G3,rfl,rfl⟩)
 exact key.keep (H:=[]) (by simp) (by simp only [List.length_cons,List.length_nil,J5,B7 u,Bool.and_self]) (by simp [A8,A4]) (by simp)
def X3 (j:Nat) (q:List AV→Bool) (x:EL):DSum:=fun args H=>some (.chk (.uf j q [.agg (.of args),.agg (.of [])]) (.one (.tup [.slice false (.rw H.length) (.lit 0) (.len x),.int .i64 (.lit 0)]) [.new ⟨1,x⟩]))
theorem Qw {C:A2} {f j:Nat} {vs0:List AV} {x:EL} {q:List AV→Bool} (hq:q=F8 vs0 []) (h:ACalls C f vs0 [] fun v H=>v=.tup [.slice false (.rw 0) 0 (vL C.G x).length,.int .i64 0]∧H=[some ⟨1,vL C.G x⟩]) (ha:A4 0 vs0=true) (hu:u8s (vL C.G x)=true):C5 C f (X3 j q x):=by
 intro args H o ho;simp only [X3,Option.some.injEq] at ho;subst ho;intro h1;have h1:q [.agg (vVs C.G args),.agg (P2 [])]=true:=h1;rw [hq] at h1;obtain ⟨e1,_⟩:=Rk h1;refine E0.new0 (C:=C) (args0:=vs0) (v0:=.tup [.slice false (.rw 0) 0 (vL C.G x).length,.int .i64 0]) (by simp only [C8];exact h) (B7 hu) ha e1 (by simp [A8,A4]) (by simp [vV,vVs,vR,vN,vI,C1,rens])
theorem iI {C:A2} {f j:Nat} {x:EL}:C5 C f (X3 j (fun _=>false) x):=by
 intro args H o ho;simp only [X3,Option.some.injEq] at ho;subst ho;intro h1;exact absurd h1 (by simp [vB])
end Go.Am
namespace Go.Am
open Go.Proofs Crc
set_option maxRecDepth 100000
def Qe (l:List AV):Int:=u (sum (O5 l 0 l.length))
def X9:List AV→Int:=fun xs=>match xs with
 | [.agg l]=>Qe l
 | _=>0
theorem hO {l:List AV} (h:u8s l=true):Bw .u8 l 0 l.length=true:=oO fun j hj=>by
 unfold u8s at h;rw [List.all_eq_true] at h;have h1:l[j]?=some l[j]:=List.getElem?_eq_getElem hj
 have:=h _ (List.mem_of_getElem? h1)
 rw [Nat.zero_add];unfold isI;rw [h1];unfold Bq at this;split at this
 ·rename_i e;rw [e];rfl
 ·cases this
theorem Oe:∀ {l:List AV},u8s l=true→O9 l=true
 | [],_=>rfl
 | v::l,h=>by
  simp only [u8s,List.all_cons,Bool.and_eq_true] at h
  have h1:O0 v=true:=by
   have:=h.1
   unfold Bq at this;split at this<;>first | rfl | cases this
  simp only [O9,h1,Oe (l:=l) h.2,Bool.and_self]
def sumS:DSum:=fun xs H=>match xs with
 | [.slice _ (.rw j) (.lit 0) (.lit 1)]=>match H[j]? with
  | some (some ⟨1,.of [.slice m (.rw b) (.lit 0) n]⟩)=>match H[b]? with
   | some (some ⟨1,l⟩)=>some (.chk (.eqN (.len l) n)<|.chk (.u8s l)<|.chk (.leN n (.lit 1099511627776))<|.one (.int .u32 (.uf 2507 X9 [.agg l])) [])
   | _=>none
  | _=>none
 | _=>none
theorem iA (G:Nat→List AV) (B:Nat):C5 (⟨Try.prog,G,B⟩:A2) 57 sumS:=by
 intro xs H o ho;unfold sumS at ho;split at ho
 ·rename_i mb j;split at ho
  ·rename_i m b n hj;split at ho
   ·rename_i l hl;simp only [Option.some.injEq] at ho;subst ho;intro h1 h2 h3;simp only [vB,vN] at h1 h2 h3;have e1:=Nat.eq_of_beq_eq_true h1;have h3:=A6.1 h3;have gj:=E9 (G:=G) hj;have gl:=E9 (G:=G) hl;have fl:A4 0 (vL G l)=true∧O9 (vL G l)=true:=⟨B7 h2,Oe h2⟩;refine E0.rdN (C:=(⟨Try.prog,G,B⟩:A2)) (σ:=fun k=>match k with | 0=>(.rw j,0) | _=>(.rw b,0)) (G':=fun k=>match k with | 0=>[.slice m (.ro 1) 0 (vN G n)] | 1=>vL G l | _=>[]) (args0:=[.slice mb (.ro 0) 0 1]) (fun k=>?_) rfl (fun ρ vs hv=>?_) (fun B'=>?_) ⟨rfl,rfl⟩
    ·match k with
     | 0=>
      refine .inr ⟨[.slice m (.rw b) 0 (vN G n)],?_,fun i v hv=>?_⟩
      ·simp only [D0,gj];rfl
      ·match i,hv with
       | 0,hv=>simp at hv;subst hv;exact ⟨rfl,by simp [sb]⟩
       | i+1,hv=>simp at hv
     | 1=>
      refine .inr ⟨vL G l,?_,fun i v hv=>?_⟩
      ·simp only [D0,gl];rfl
      ·obtain ⟨g1,g2⟩:=lM fl i v hv (fun k=>match k with | 0=>(.rw j,0) | _=>(.rw b,0));exact ⟨g1,by rw [g2];simpa using hv⟩
     | _+2=>exact .inl rfl
    ·simpa [vVs,vV,vR,vN,sbs,sb] using hv
    ·have key:=wW (fun k=>match k with | 0=>[.slice m (.ro 1) 0 (vN G n)] | 1=>vL G l | _=>[]) B' 0 0 1 mb (by omega) fun i hi=>by
      obtain rfl:i=0:=by omega
      show (Gt [.slice m (.ro 1) 0 (vN G n)] 0&&(decide (vN G n≤9223372036854775807)&&Bw .u8 (vL G l) 0 (vN G n)))=true;rw [←e1,hO h2,decide_eq_true (by omega)];rfl
     refine key.monoK fun v H hv=>?_;rw [hv];show AV.int .u32 (u (sum (([O5 (vL G l) 0 (vN G n)]:List (List Int)).flatten)))=.int .u32 (X9 [.agg (vL G l)]);rw [List.flatten_cons,List.flatten_nil,List.append_nil,←e1];rfl
   ·simp at ho
  ·simp at ho
 ·simp at ho
theorem t74 (G:Nat→List AV) (q1:List AV→Bool) (k n:Nat) (x:Int) (Q:Ex→List AV→Hp→Prop) (R:AV→Hp→Prop):vT G Q R (G6 (Dc Try.prog [] [(93,O8 2508 (q1) (.one (.int .u32 (.var 1 x)) []))] [] 0) 200 10 Try.f74 [.slice true (.ro (.var 24 k)) (.lit 0) (.var 3 n)] [] 0)=(
  (q1) [.agg ([.int .u32 (0),.slice true (.ro (k)) (0) (n)]:List AV),.agg ([]:List AV)]=true∧R (.int .u32 (x)) []):=by kernel_rfl
theorem sum74 (G:Nat→List AV) (B:Nat) (k:Nat) (h:u8s (G k)=true) (hl:(G k).length≤1099511627776):ACalls (⟨Try.prog,G,B⟩:A2) 74 [.slice true (.ro k) 0 (G k).length] [] fun v _=>v=.int .u32 (Qe (G k)):=by
 have key0:=yD G B k 0 (G k).length true 0#32 (by omega) (hO h);have e0:u 0#32=0:=rfl;rw [e0] at key0;have c93:C5 (⟨Try.prog,G,B⟩:A2) 93 (O8 2508 (F8 [.int .u32 0,.slice true (.ro k) 0 (G k).length] []) (.one (.int .u32 (.var 1 (Qe (G k)))) [])):=Er (v0:=.int .u32 (Qe (G k))) rfl (key0.monoK fun v H hv=>by rw [hv];rfl) rfl rfl (by simp) rfl
 have key:=C7 (C:=(⟨Try.prog,G,B⟩:A2)) (f:=74) (fn:=Try.f74) (K:=Dc Try.prog [] [(93,O8 2508 (F8 [.int .u32 0,.slice true (.ro k) 0 (G k).length] []) (.one (.int .u32 (.var 1 (Qe (G k)))) []))] [] 0) (R:=fun v _=>v=.int .u32 (Qe (G k))) (by rw [show loopsOf (B4 Try.f74)=[] by kernel_rfl];exact D3 (mix G B) (by kernel_rfl) (.cons c93 .nil) .nil) (by kernel_rfl) (by kernel_rfl) (by kernel_rfl) (fuel:=200) (n0:=10) (keep:=0) (args:=[.slice true (.ro (.var 24 k)) (.lit 0) (.var 3 (G k).length)]) (H:=[]) (by
  rw [t74]
  exact ⟨G3,rfl⟩)
 exact key.monoK fun v H h=>h
def sumD:DSum:=fun xs H=>match xs with
 | [.slice m (.rw b) (.lit 0) n]=>match H[b]? with
  | some (some ⟨1,l⟩)=>some (.chk (.eqN (.len l) n)<|.chk (.u8s l)<|.chk (.leN n (.lit 1099511627776))<|.one (.int .u32 (.uf 2507 X9 [.agg l])) [])
  | _=>none
 | _=>none
theorem wU (G:Nat→List AV) (B:Nat):C5 (⟨Try.prog,G,B⟩:A2) 74 sumD:=by
 intro xs H o ho;unfold sumD at ho;split at ho
 ·rename_i m b n;split at ho
  ·rename_i l hl;simp only [Option.some.injEq] at ho;subst ho;intro h1 h2 h3;simp only [vB,vN] at h1 h2 h3;have e1:=Nat.eq_of_beq_eq_true h1;have h3:=A6.1 h3;have gl:=E9 (G:=G) hl;have fl:A4 0 (vL G l)=true∧O9 (vL G l)=true:=⟨B7 h2,Oe h2⟩;refine E0.rdN (C:=(⟨Try.prog,G,B⟩:A2)) (σ:=fun _=>(.rw b,0)) (G':=fun k=>match k with | 0=>vL G l | _=>[]) (args0:=[.slice true (.ro 0) 0 (vL G l).length]) (fun k=>?_) rfl (fun ρ vs hv=>?_) (fun B'=>?_) ⟨rfl,rfl⟩
   ·match k with
    | 0=>
     refine .inr ⟨vL G l,?_,fun i v hv=>?_⟩
     ·simp only [D0,gl];rfl
     ·obtain ⟨g1,g2⟩:=lM fl i v hv (fun _=>(.rw b,0));exact ⟨g1,by rw [g2];simpa using hv⟩
    | _+1=>exact .inl rfl
   ·simp only [vVs,vV,vR,vN,sbs,sb,VRs] at hv ⊢;obtain ⟨v,vs',r1,r2,r3⟩:=hv;refine ⟨v,vs',r1,?_,r3⟩;rw [e1];exact N3 r2
   ·exact sum74 (fun k=>match k with | 0=>vL G l | _=>[]) B' 0 h2 (by show (vL G l).length≤_;omega)
  ·simp at ho
 ·simp at ho
end Go.Am
namespace Go.Am
open Go.Proofs Crc
set_option maxRecDepth 100000
theorem t28 (G:Nat→List AV) (q1 q2 q3:List AV→Bool) (ks kp n m:Nat) (s c:Int) (ws wp:List AV) (Q:Ex→List AV→Hp→Prop) (R:AV→Hp→Prop):vT G Q R (G6 (Dc Try.prog [] ([(20,O8 2512 (q1) (.one (.int .i64 (.var 28 c)) [])),(51,X3 2510 (q2) (.var 21 ws)),(53,X3 2511 (q3) (.var 22 wp)),(57,sumS)]++progP) [] 0) 300 20 Try.f28 [.agg (.of [.int .i64 (.var 1 s),.slice true (.ro (.var 24 ks)) (.lit 0) (.var 3 n),.slice true (.ro (.var 25 kp)) (.lit 0) (.var 4 m)])] [] 10)=(
  (q1) [.agg ([.agg ([.int .i64 (s),.slice true (.ro (ks)) (0) (n),.slice true (.ro (kp)) (0) (m)]:List AV)]:List AV),.agg ([]:List AV)]=true∧(((c:Int)==0)=true→(q2) [.agg ([.slice true (.ro (ks)) (0) (n),.func 52 []]:List AV),.agg ([]:List AV)]=true∧(q3) [.agg ([.slice true (.ro (kp)) (0) (m),.func 54 []]:List AV),.agg ([]:List AV)]=true∧inU64 [.int .u64 (IntKind.wrap .u64 (s))]=true∧Nat.beq (List.length ([.int .u8 (83),.int .u8 (84),.int .u8 (68),.int .u8 (1)]:List AV)) (4)=true∧Nat.beq (List.length (A3 (A1 [.int .u64 (IntKind.wrap .u64 (s))]))) (List.length (A1 [.int .u64 (IntKind.wrap .u64 (s))]))=true∧Nat.beq (List.length ws) (List.length ws)=true∧Nat.beq (List.length wp) (List.length wp)=true∧u8s ([.int .u8 (83),.int .u8 (84),.int .u8 (68),.int .u8 (1)]:List AV)=true∧u8s (A3 (A1 [.int .u64 (IntKind.wrap .u64 (s))]))=true∧u8s ws=true∧u8s wp=true∧leB (4+List.length (A1 [.int .u64 (IntKind.wrap .u64 (s))])+List.length ws+List.length wp) (1099511627776)=true∧Nat.beq (List.length (((([.int .u8 (83),.int .u8 (84),.int .u8 (68),.int .u8 (1)]:List AV)++(A3 (A1 [.int .u64 (IntKind.wrap .u64 (s))])))++ws)++wp)) (List.length (((([.int .u8 (83),.int .u8 (84),.int .u8 (68),.int .u8 (1)]:List AV)++(A3 (A1 [.int .u64 (IntKind.wrap .u64 (s))])))++ws)++wp))=true∧u8s (((([.int .u8 (83),.int .u8 (84),.int .u8 (68),.int .u8 (1)]:List AV)++(A3 (A1 [.int .u64 (IntKind.wrap .u64 (s))])))++ws)++wp)=true∧leB (List.length (((([.int .u8 (83),.int .u8 (84),.int .u8 (68),.int .u8 (1)]:List AV)++(A3 (A1 [.int .u64 (IntKind.wrap .u64 (s))])))++ws)++wp)) (1099511627776)=true∧
 leB (List.length (((([.int .u8 (83),.int .u8 (84),.int .u8 (68),.int .u8 (1)]:List AV)++(A3 (A1 [.int .u64 (IntKind.wrap .u64 (s))])))++ws)++wp)+4) (140737488355328)=true∧Nat.beq (List.length (((([.int .u8 (83),.int .u8 (84),.int .u8 (68),.int .u8 (1)]:List AV)++(A3 (A1 [.int .u64 (IntKind.wrap .u64 (s))])))++ws)++wp)) (List.length (((([.int .u8 (83),.int .u8 (84),.int .u8 (68),.int .u8 (1)]:List AV)++(A3 (A1 [.int .u64 (IntKind.wrap .u64 (s))])))++ws)++wp))=true∧
 R (.tup [.slice false (.rw 9) (0) (List.length (((([.int .u8 (83),.int .u8 (84),.int .u8 (68),.int .u8 (1)]:List AV)++(A3 (A1 [.int .u64 (IntKind.wrap .u64 (s))])))++ws)++wp)+4),.int .i64 (0)]) [some ⟨1,([.int .i64 (s),.slice true (.ro (ks)) (0) (n),.slice true (.ro (kp)) (0) (m)]:List AV)⟩,some ⟨1,ws⟩,some ⟨1,wp⟩,some ⟨1,([.int .u8 (83),.int .u8 (84),.int .u8 (68),.int .u8 (1)]:List AV)⟩,some ⟨1,(A3 (A1 [.int .u64 (IntKind.wrap .u64 (s))]))⟩,some ⟨1,([.slice false (.rw 3) (0) (4),.slice false (.rw 4) (0) (List.length (A1 [.int .u64 (IntKind.wrap .u64 (s))])),.slice false (.rw 1) (0) (List.length ws),.slice false (.rw 2) (0) (List.length wp)]:List AV)⟩,none,some ⟨1,([.slice false (.rw 6) (0) (List.length (((([.int .u8 (83),.int .u8 (84),.int .u8 (68),.int .u8 (1)]:List AV)++(A3 (A1 [.int .u64 (IntKind.wrap .u64 (s))])))++ws)++wp))]:List AV)⟩,some ⟨1,([.int .u8 (IntKind.wrap .u8 (O2 .u32 (X9 [.agg (((([.int .u8 (83),.int .u8 (84),.int .u8 (68),.int .u8 (1)]:List AV)++(A3 (A1 [.int .u64 (IntKind.wrap .u64 (s))])))++ws)++wp)]) (24))),.int .u8 (IntKind.wrap .u8 (O2 .u32 (X9 [.agg (((([.int .u8 (83),.int .u8 (84),.int .u8 (68),.int .u8 (1)]:List AV)++(A3 (A1 [.int .u64 (IntKind.wrap .u64 (s))])))++ws)++wp)]) (16))),.int .u8 (IntKind.wrap .u8 (O2 .u32 (X9 [.agg (((([.int .u8 (83),.int .u8 (84),.int .u8 (68),.int .u8 (1)]:List AV)++(A3 (A1 [.int .u64 (IntKind.wrap .u64 (s))])))++ws)++wp)]) (8))),.int .u8 (IntKind.wrap .u8 (X9 [.agg (((([.int .u8 (83),.int .u8 (84),.int .u8 (68),.int .u8 (1)]:List AV)++(A3 (A1 [.int .u64 (IntKind.wrap .u64 (s))])))++ws)++wp)]))]:List AV)⟩,some ⟨1,((((([.int .u8 (83),.int .u8 (84),.int .u8 (68),.int .u8 (1)]:List AV)++(A3 (A1 [.int .u64 (IntKind.wrap .u64 (s))])))++ws)++wp)++([.int .u8 (IntKind.wrap .u8 (O2 .u32 (X9 [.agg (((([.int .u8 (83),.int .u8 (84),.int .u8 (68),.int .u8 (1)]:List AV)++(A3 (A1 [.int .u64 (IntKind.wrap .u64 (s))])))++ws)++wp)]) (24))),.int .u8 (IntKind.wrap .u8 (O2 .u32 (X9 [.agg (((([.int .u8 (83),.int .u8 (84),.int .u8 (68),.int .u8 (1)]:List AV)++(A3 (A1 [.int .u64 (IntKind.wrap .u64 (s))])))++ws)++wp)]) (16))),.int .u8 (IntKind.wrap .u8 (O2 .u32 (X9 [.agg (((([.int .u8 (83),.int .u8 (84),.int .u8 (68),.int .u8 (1)]:List AV)++(A3 (A1 [.int .u64 (IntKind.wrap .u64 (s))])))++ws)++wp)]) (8))),.int .u8 (IntKind.wrap .u8 (X9 [.agg (((([.int .u8 (83),.int .u8 (84),.int .u8 (68),.int .u8 (1)]:List AV)++(A3 (A1 [.int .u64 (IntKind.wrap .u64 (s))])))++ws)++wp)]))]:List AV))⟩])∧
 (((c:Int)==0)=false→R (.tup [.nils,.int .i64 (c)]) [some ⟨1,([.int .i64 (s),.slice true (.ro (ks)) (0) (n),.slice true (.ro (kp)) (0) (m)]:List AV)⟩])):=by kernel_rfl
end Go.Am
