/-
  Wire: the numbers' form, and how it is written. Wire: signed numbers, spoil, Join, known.
-/
import Derived.Test.YthejjolnlngahaaBase5
import Derived.Test.YthejjolnlngahaaProg
import Derived.Test.YthejjolnlngahaaBase3
namespace Go.Am
open Go.Proofs
set_option maxRecDepth 100000
theorem mix (G:Nat→List AV) (B:Nat):((⟨Try.prog,G,B⟩:A2)).P.follows .mixedOrders=true:=by kernel_rfl
def Ek:Nat→Nat→List UInt8
 | 0,_=>[]
 | k+1,n=>if n<128 then [UInt8.ofNat n] else UInt8.ofNat (n % 128+128)::Ek k (n / 128)
def Fm (n:Nat):List UInt8:=Ek 10 n
theorem Re {k n:Nat} (h:n<128):Ek (k+1) n=[UInt8.ofNat n]:=by simp [Ek,h]
theorem dO {k n:Nat} (h:¬n<128):Ek (k+1) n=UInt8.ofNat (n % 128+128)::Ek k (n / 128):=by simp [Ek,h]
theorem iX:∀ (k n:Nat),(Ek k n).length≤k
 | 0,_=>Nat.le_refl _
 | k+1,n=>by
  have:=iX k (n / 128)
  unfold Ek
  split<;>simp<;>omega
theorem nfd_ne {k n:Nat}:Ek (k+1) n≠[]:=by unfold Ek;split<;>simp
def inU64 (xs:List AV):Bool:=match xs with
 | [.int _ n]=>decide (0≤n)&&decide (n≤18446744073709551615)
 | _=>false
def A1 (xs:List AV):List UInt8:=match xs with
 | [.int _ n]=>Fm n.toNat
 | _=>[]
def J3 (xs:List AV):List UInt8:=(A1 xs).dropLast
def Y5 (xs:List AV):Int:=match (A1 xs).getLast? with
 | some b=>b.toNat
 | none=>0
theorem cD {n:Nat} (h:n<256):(UInt8.ofNat n).toNat=n:=by simp [UInt8.toNat_ofNat'];omega
theorem Y8 (a b:List UInt8):A3 (a++b)=A3 a++A3 b:=by simp [A3]
theorem I5 (a:List UInt8):(A3 a).length=a.length:=by simp [A3]
theorem Ea {n:Nat} (h:n<256):A3 [UInt8.ofNat n]=[.int .u8 (n:Int)]:=by simp [A3,cD h]
theorem Z4 (k:Nat):∀ (a:List UInt8),A4 k (A3 a)=true
 | []=>rfl
 | x::a=>by simp only [A3,List.map_cons,A4,A8,Bool.true_and];exact Z4 k a
theorem Sl (θ:List Nat) (a:List UInt8):rens θ (A3 a)=A3 a:=B5 _ _ (Z4 0 a)
theorem Fw {n:Int} (h:0≤n∧n≤18446744073709551615):IntKind.u64.wrap n=n:=by
 simp only [IntKind.wrap,IntKind.signed,IntKind.bits,Bool.false_and,Bool.false_eq_true,if_false];omega
theorem Kt (n:Int):IntKind.u8.wrap n=n % 256:=by
 simp only [IntKind.wrap,IntKind.signed,IntKind.bits,Bool.false_and,Bool.false_eq_true,if_false];omega
theorem or128:∀ b:BitVec 8,(b ||| 128#8).toNat=b.toNat % 128+128:=by decide +kernel
theorem dig9 (m:Nat):Gw .u8 (IntKind.wrap .u8 (m:Int)) 128=((m % 128+128:Nat):Int):=by
 show IntKind.u8.wrap (((BitVec.ofInt 8 (IntKind.wrap .u8 (m:Int)) ||| BitVec.ofInt 8 128).toNat:Nat):Int)=_
 have e1:(BitVec.ofInt 8 (IntKind.wrap .u8 (m:Int)))=BitVec.ofNat 8 m:=by
  rw [Kt];apply BitVec.eq_of_toNat_eq;simp [BitVec.toNat_ofInt];omega
 have e2:BitVec.ofInt 8 128=128#8:=by decide
 rw [e1,e2,or128,Kt];simp [BitVec.toNat_ofNat];omega
theorem shr7 (m:Nat):O2 .u64 (m:Int) 7=((m / 128:Nat):Int):=by
 unfold O2
 have:(2:Int)^(min (7:Int).toNat IntKind.u64.bits)=128:=by decide
 rw [this,Int.fdiv_eq_ediv_of_nonneg _ (by omega)];omega
theorem dig12 (m:Nat):IntKind.wrap .u8 (IntKind.wrap .u64 (Int.tmod (m:Int) 128+128))=((m % 128+128:Nat):Int):=by
 have:Int.tmod (m:Int) 128=((m % 128:Nat):Int):=by rw [Int.tmod_eq_emod_of_nonneg (by omega)];omega
 rw [this,Fw (by omega),Kt];omega
theorem div12 {m:Nat} (h:m≤18446744073709551615):IntKind.wrap .u64 (Int.tdiv (m:Int) 128)=((m / 128:Nat):Int):=by
 have:Int.tdiv (m:Int) 128=((m / 128:Nat):Int):=by rw [Int.tdiv_eq_ediv_of_nonneg (by omega)];omega
 rw [this,Fw (by omega)]
theorem nb9 (G:Nat→List AV) (s:List AV) (m:Int) (l:Nat) (Q:Ex→List AV→Hp→Prop) (R:AV→Hp→Prop):vT G Q R (E8 (Dc Try.prog [] [] [] 0) 200 10 0 (A5 Try.f56 0) 20 [0,3] [.int .u64 (.var 1 m),.slice false (.rw 0) (.lit 0) (.var 2 l)] [some ⟨1,.var 3 s⟩])=(
  (decide ((m:Int)>127)=true→leB (l+1) (140737488355328)=true∧Nat.beq (List.length s) (l)=true∧Q .normal [.int .u64 (O2 .u64 (m) (7)),.slice false (.rw 2) (0) (l+1)] [none,some ⟨1,([.int .u8 (Gw .u8 (IntKind.wrap .u8 (m)) (128))]:List AV)⟩,some ⟨1,(s++([.int .u8 (Gw .u8 (IntKind.wrap .u8 (m)) (128))]:List AV))⟩])∧(decide ((m:Int)>127)=false→Q (.exit 0) [.int .u64 (m),.slice false (.rw 0) (0) (l)] [some ⟨1,s⟩])):=by kernel_rfl
theorem nb12 (G:Nat→List AV) (s:List AV) (m:Int) (l:Nat) (Q:Ex→List AV→Hp→Prop) (R:AV→Hp→Prop):vT G Q R (E8 (Dc Try.prog [] [] [] 0) 200 10 0 (A5 Try.f71 0) 20 [0,3] [.int .u64 (.var 1 m),.slice true (.rw 0) (.lit 0) (.var 2 l)] [some ⟨1,.var 3 s⟩])=(
  (decide ((m:Int)>127)=true→leB (l+1) (140737488355328)=true∧Nat.beq (List.length s) (l)=true∧Q .normal [.int .u64 (IntKind.wrap .u64 (Int.tdiv (m) (128))),.slice true (.rw 2) (0) (l+1)] [none,some ⟨1,([.int .u8 (IntKind.wrap .u8 (IntKind.wrap .u64 (Int.tmod (m) (128)+128)))]:List AV)⟩,some ⟨1,(s++([.int .u8 (IntKind.wrap .u8 (IntKind.wrap .u64 (Int.tmod (m) (128)+128)))]:List AV))⟩])∧(decide ((m:Int)>127)=false→Q (.exit 0) [.int .u64 (m),.slice true (.rw 0) (0) (l)] [some ⟨1,s⟩])):=by kernel_rfl
theorem dg0 (G:Nat→List AV) (B:Nat):DGood (⟨Try.prog,G,B⟩:A2) (Dc Try.prog [] [] [] 0) []:=D3 (mix G B) (by kernel_rfl) .nil .nil
def JN (mb:Bool) (n:Nat) (j:Nat) (vs:List AV) (H:Hp):Prop:=∃ (m:Nat) (s:List UInt8),m<128^(j+1)∧s.length+j=9∧m≤18446744073709551615∧s++Ek (j+1) m=Fm n∧vs=[.int .u64 (m:Int),.slice mb (.rw 0) 0 s.length]∧H=[some ⟨1,A3 s⟩]
def JX (mb:Bool) (n:Nat) (vs:List AV) (H:Hp):Prop:=∃ (m:Nat) (s:List UInt8),m<128∧s.length≤9∧s++[UInt8.ofNat m]=Fm n∧vs=[.int .u64 (m:Int),.slice mb (.rw 0) 0 s.length]∧H=[some ⟨1,A3 s⟩]
theorem dC:(18446744073709551615:Nat)<128^10:=by decide
theorem jX {mb:Bool} {n m j:Nat} {s:List UInt8} {b:Option Blk} {c:Option Blk} (h:¬m<128) (h1:m<128^(j+1)) (h2:s.length+j=9) (h3:m≤18446744073709551615) (h4:s++Ek (j+1) m=Fm n) :
  ∃ k',k'<j∧(JN mb n k' [.int .u64 ((m / 128:Nat):Int),.slice mb (.rw 2) 0 (s.length+1)] [b,c,some ⟨1,A3 s++[.int .u8 ((m % 128+128:Nat):Int)]⟩]∨∃ vs'' H'',JN mb n k' vs'' H''∧C2 0 vs'' H'' [.int .u64 ((m / 128:Nat):Int),.slice mb (.rw 2) 0 (s.length+1)] [b,c,some ⟨1,A3 s++[.int .u8 ((m % 128+128:Nat):Int)]⟩]):=by
 match j,h1,h2,h4 with
 | 0,h1,_,_=>exact absurd h1 (by simpa using h)
 | j+1,h1,h2,h4=>
  refine ⟨j,by omega,.inr ⟨_,_,⟨m / 128,s++[UInt8.ofNat (m % 128+128)],?_,by simp;omega,by omega,?_,rfl,rfl⟩,?_⟩⟩
  ·rw [Nat.div_lt_iff_lt_mul (by omega)];rw [Nat.pow_succ] at h1;exact h1
  ·rw [←h4,dO h];simp
  ·rw [Y8,Ea (by omega)];refine C2.renM (θ:=[2]) (by simp) (fun i hi=>by omega) (by decide) ⟨⟨?_,?_⟩,trivial⟩ (by simp [A4,A8]) (by simp [rens,C1,wk])
   ·rw [←Ea (by omega),←Y8];exact Z4 _ _
   ·rw [←Ea (by omega),←Y8,Sl];rfl
theorem nl9 (G:Nat→List AV) (B:Nat) (n:Nat) (hn:n≤18446744073709551615):AWp (⟨Try.prog,G,B⟩:A2) 0 (.loop (A5 Try.f56 0)) (fl 20 [0,3] [.int .u64 (n:Int),.slice false (.rw 0) 0 0]) [some ⟨1,[]⟩] (lv 20 [0,3] fun e vs H=>e=.exit 0∧JX false n vs H):=by
 refine U8 (JN false n) 9 ⟨n,[],by have:=dC;omega,rfl,hn,rfl,rfl,rfl⟩ ?_;rintro j vs H ⟨m,s,h1,h2,h3,h4,rfl,rfl⟩;refine D4 (C:=(⟨Try.prog,G,B⟩:A2)) (dg0 G B) (fuel:=200) (n0:=10) (m:=0) (c:=A5 Try.f56 0) (vs:=[.int .u64 (.var 1 (m:Int)),.slice false (.rw 0) (.lit 0) (.var 2 s.length)]) (H:=[some ⟨1,.var 3 (A3 s)⟩]) (by simp) ?_;rw [nb9,dig9,shr7];refine ⟨fun h=>⟨decide_eq_true (by omega),by rw [I5];exact Nat.beq_refl _,jX (by have:=of_decide_eq_true h;omega) h1 h2 h3 h4⟩,fun h=>?_⟩;have h:=of_decide_eq_false h;have hm:m<128:=by omega
 rw [Re hm] at h4;exact ⟨rfl,m,s,hm,by omega,h4,rfl,rfl⟩
theorem nl12 (G:Nat→List AV) (B:Nat) (n:Nat) (hn:n≤18446744073709551615):AWp (⟨Try.prog,G,B⟩:A2) 0 (.loop (A5 Try.f71 0)) (fl 20 [0,3] [.int .u64 (n:Int),.slice true (.rw 0) 0 0]) [some ⟨1,[]⟩] (lv 20 [0,3] fun e vs H=>e=.exit 0∧JX true n vs H):=by
 refine U8 (JN true n) 9 ⟨n,[],by have:=dC;omega,rfl,hn,rfl,rfl,rfl⟩ ?_;rintro j vs H ⟨m,s,h1,h2,h3,h4,rfl,rfl⟩;refine D4 (C:=(⟨Try.prog,G,B⟩:A2)) (dg0 G B) (fuel:=200) (n0:=10) (m:=0) (c:=A5 Try.f71 0) (vs:=[.int .u64 (.var 1 (m:Int)),.slice true (.rw 0) (.lit 0) (.var 2 s.length)]) (H:=[some ⟨1,.var 3 (A3 s)⟩]) (by simp) ?_;rw [nb12,dig12,div12 h3];refine ⟨fun h=>⟨decide_eq_true (by omega),by rw [I5];exact Nat.beq_refl _,jX (by have:=of_decide_eq_true h;omega) h1 h2 h3 h4⟩,fun h=>?_⟩;have h:=of_decide_eq_false h;have hm:m<128:=by omega
 rw [Re hm] at h4;exact ⟨rfl,m,s,hm,by omega,h4,rfl,rfl⟩
def nL (mb:Bool):DL:=⟨0,20,[0,3],fun vs H=>match mb,vs,H with
 | false,[.int .u64 n,.slice false (.rw 0) (.lit 0) (.lit 0)],[some ⟨1,.of []⟩]=>
  some (.chk (.uf 1101 inU64 [.int .u64 n]) (.one (.exit 0) [.int .u64 (.uf 1103 Y5 [.int .u64 n]),.slice false (.rw 0) (.lit 0) (.slen (.uf 1102 J3 [.int .u64 n]))] [some ⟨1,.bytes (.uf 1102 J3 [.int .u64 n])⟩]))
 | true,[.int .u64 n,.nils],[]=>
  some (.chk (.uf 1101 inU64 [.int .u64 n]) (.one (.exit 0) [.int .u64 (.uf 1103 Y5 [.int .u64 n]),.slice true (.rw 0) (.lit 0) (.slen (.uf 1102 J3 [.int .u64 n]))] [some ⟨1,.bytes (.uf 1102 J3 [.int .u64 n])⟩]))
 | _,_,_=>none⟩
theorem wJ {mb:Bool} {n:Int} {vs:List AV} {H:Hp} {k:IntKind} (h:JX mb n.toNat vs H):vs=[.int .u64 (Y5 [.int k n]),.slice mb (.rw 0) 0 (J3 [.int k n]).length]∧H=[some ⟨1,A3 (J3 [.int k n])⟩]:=by
 obtain ⟨m,s,h1,h2,h3,rfl,rfl⟩:=h;have e1:J3 [.int k n]=s:=by simp only [J3,A1];rw [←h3,List.dropLast_concat]
 have e2:Y5 [.int k n]=(m:Int):=by simp only [Y5,A1];rw [←h3];simp [cD (show m<256 by omega)]
 rw [e1,e2];exact ⟨rfl,rfl⟩
theorem eJ {k:IntKind} {n:Int} (h:inU64 [.int k n]=true):n=(n.toNat:Int)∧n.toNat≤18446744073709551615:=by
 simp only [inU64,Bool.and_eq_true,decide_eq_true_eq] at h;omega
theorem nL9_ok (G:Nat→List AV) (B:Nat):H5 (⟨Try.prog,G,B⟩:A2) 0 (A5 Try.f56 0) (nL false):=by
 refine .of fun vs H o ho n Q hQ=>?_;simp only [nL] at ho;split at ho
 ·rename_i n heq;simp only [Option.some.injEq] at ho;subst ho;obtain ⟨h1,h2⟩:=hQ;simp only [vB,vVs,vV] at h1;obtain ⟨e1,e2⟩:=eJ h1;refine lone ?_ h2;simp only [nL,vVs,vV,vR,vN,vL,B8,List.map_cons,List.map_nil,Option.map_some,C8,vI,vS];have key:=nl9 G B _ e2;rw [←e1] at key;refine key.lmono ?_;rintro e vs H ⟨g1,g2⟩;obtain ⟨g3,g4⟩:=wJ (k:=.u64) g2;exact ⟨g1,by rw [g3];simp [wk],g4⟩
 ·rename_i heq;cases heq
 ·simp at ho
theorem yB (G:Nat→List AV) (B:Nat):H5 (⟨Try.prog,G,B⟩:A2) 0 (A5 Try.f71 0) (nL true):=by
 refine .of fun vs H o ho n Q hQ=>?_;simp only [nL] at ho;split at ho
 ·rename_i heq;cases heq
 ·rename_i n heq;simp only [Option.some.injEq] at ho;subst ho;obtain ⟨h1,h2⟩:=hQ;simp only [vB,vVs,vV] at h1;obtain ⟨e1,e2⟩:=eJ h1;refine lone ?_ h2;simp only [nL,vVs,vV,vR,vN,vL,B8,List.map_cons,List.map_nil,Option.map_some,C8,vI,vS];have key:=nl12 G B _ e2;rw [←e1] at key
  have key:=AWp.nil (C:=(⟨Try.prog,G,B⟩:A2)) (H:=[]) (H':=[]) (F:=fl 20 [0,3] [.int .u64 (vI G n),.slice true (.rw 0) 0 0]) (F':=fl 20 [0,3] [.int .u64 (vI G n),.nils]) 1 (by simp) (sM (vs:=[.int .u64 (vI G n),.slice true (.rw 0) 0 0]) (vs':=[.int .u64 (vI G n),.nils]) ⟨Zt _,.inr ⟨rfl,rfl⟩,trivial⟩) trivial key;refine key.lmono ?_;rintro e vs H ⟨g1,g2⟩;obtain ⟨g3,g4⟩:=wJ (k:=.u64) g2;exact ⟨g1,by rw [g3];simp [wk],g4⟩
 ·simp at ho
theorem dg9 (G:Nat→List AV) (B:Nat):DGood (⟨Try.prog,G,B⟩:A2) (Dc Try.prog [] [] [nL false] 0) (loopsOf (B4 Try.f56)):=D3 (mix G B) (by kernel_rfl) .nil (.cast (.cons (i:=0) (by kernel_rfl) rfl (nL9_ok G B) .nil) (by kernel_rfl))
theorem dg12 (G:Nat→List AV) (B:Nat):DGood (⟨Try.prog,G,B⟩:A2) (Dc Try.prog [] [] [nL true] 0) (loopsOf (B4 Try.f71)):=D3 (mix G B) (by kernel_rfl) .nil (.cast (.cons (i:=0) (by kernel_rfl) rfl (yB G B) .nil) (by kernel_rfl))
theorem w9 (G:Nat→List AV) (n:Int) (Q:Ex→List AV→Hp→Prop) (R:AV→Hp→Prop):vT G Q R (G6 (Dc Try.prog [] [] [nL false] 0) 200 10 Try.f56 [.int .u64 (.var 1 n)] [] 3)=(
  inU64 [.int .u64 (n)]=true∧leB (List.length (J3 [.int .u64 (n)])+1) (140737488355328)=true∧Nat.beq (List.length (J3 [.int .u64 (n)])) (List.length (J3 [.int .u64 (n)]))=true∧R (.slice false (.rw 2) (0) (List.length (J3 [.int .u64 (n)])+1)) [none,some ⟨1,([.int .u8 (IntKind.wrap .u8 (Y5 [.int .u64 (n)]))]:List AV)⟩,some ⟨1,((A3 (J3 [.int .u64 (n)]))++([.int .u8 (IntKind.wrap .u8 (Y5 [.int .u64 (n)]))]:List AV))⟩]):=by kernel_rfl
theorem w12 (G:Nat→List AV) (n:Int) (Q:Ex→List AV→Hp→Prop) (R:AV→Hp→Prop):vT G Q R (G6 (Dc Try.prog [] [] [nL true] 0) 200 10 Try.f71 [.int .u64 (.var 1 n)] [] 3)=(
  inU64 [.int .u64 (n)]=true∧leB (List.length (J3 [.int .u64 (n)])+1) (140737488355328)=true∧Nat.beq (List.length (J3 [.int .u64 (n)])) (List.length (J3 [.int .u64 (n)]))=true∧R (.slice true (.rw 2) (0) (List.length (J3 [.int .u64 (n)])+1)) [none,some ⟨1,([.int .u8 (IntKind.wrap .u8 (Y5 [.int .u64 (n)]))]:List AV)⟩,some ⟨1,((A3 (J3 [.int .u64 (n)]))++([.int .u8 (IntKind.wrap .u8 (Y5 [.int .u64 (n)]))]:List AV))⟩]):=by kernel_rfl
theorem Vd {k:IntKind} (n:Int):A3 (J3 [.int k n])++([.int .u8 (IntKind.wrap .u8 (Y5 [.int k n]))]:List AV)=A3 (A1 [.int k n])∧(J3 [.int k n]).length+1=(A1 [.int k n]).length:=by
 have h:A1 [.int k n]≠[]:=nfd_ne;have e:J3 [.int k n]++[(A1 [.int k n]).getLast h]=A1 [.int k n]:=List.dropLast_concat_getLast h;have e2:Y5 [.int k n]=(((A1 [.int k n]).getLast h).toNat:Int):=by simp only [Y5,List.getLast?_eq_some_getLast h]
 have h3:=((A1 [.int k n]).getLast h).toNat_lt;refine ⟨?_,?_⟩
 ·rw [e2,Kt]
  have:((((A1 [.int k n]).getLast h).toNat:Int)) % 256=(((A1 [.int k n]).getLast h).toNat:Int):=by omega
  rw [this]
  conv=>rhs;rw [←e,Y8]
  rfl
 ·have:=congrArg List.length e
  simpa using this
theorem Zu (n:Nat):(Fm n).length≤10:=iX 10 n
theorem Be (xs:List AV):(A1 xs).length≤10:=by
 unfold A1;split
 ·exact Zu _
 ·simp
def Xr (mb:Bool):DSum:=fun xs H=>match xs with
 | [.int .u64 n]=>some (.chk (.uf 1101 inU64 [.int .u64 n]) (.one (.slice mb (.rw H.length) (.lit 0) (.slen (.uf 1104 A1 [.int .u64 n]))) [.new ⟨1,.bytes (.uf 1104 A1 [.int .u64 n])⟩]))
 | _=>none
theorem wH {f:FuncId} {args:List AV} {C:A2} {mb:Bool} {a:List UInt8} (h:ACalls C f args [] fun v' H'=>v'=.slice mb (.rw 2) 0 a.length∧∃ b c,H'.take 3=[b,c,some ⟨1,A3 a⟩]) :
  ACalls C f args [] fun v' H'=>v'=.slice mb (.rw 0) 0 a.length∧H'=[some ⟨1,A3 a⟩]:=by
 refine h.view fun v H' ⟨e1,b,c,e2⟩=>⟨_,_,⟨rfl,rfl⟩,?_⟩
 have e:H'=b::c::some ⟨1,A3 a⟩::H'.drop 3:=by
  have:=List.take_append_drop 3 H'
  rw [e2] at this;exact this.symm
 rw [e,e1];exact C2.renM (θ:=[2]) (by simp) (fun i hi=>absurd hi (by simp)) (by decide) ⟨⟨Z4 _ _,by rw [Sl];rfl⟩,trivial⟩ (by simp [A4,A8]) (by simp [rens,C1,wk])
theorem num9 (G:Nat→List AV) (B:Nat) (n:Int) (h:inU64 [.int .u64 n]=true):ACalls (⟨Try.prog,G,B⟩:A2) 56 [.int .u64 n] [] fun v' H'=>v'=.slice false (.rw 0) 0 (A1 [.int .u64 n]).length∧H'=[some ⟨1,A3 (A1 [.int .u64 n])⟩]:=by
 obtain ⟨g1,g2⟩:=Vd (k:=.u64) n;have hlen:=Be [.int .u64 n]
 exact wH (C7 (C:=(⟨Try.prog,G,B⟩:A2)) (f:=56) (R:=fun v' H'=>v'=.slice false (.rw 2) 0 (A1 [.int .u64 n]).length∧∃ b c,H'=[b,c,some ⟨1,A3 (A1 [.int .u64 n])⟩]) (dg9 G B) (by kernel_rfl) (by kernel_rfl) (by kernel_rfl) (fuel:=200) (n0:=10) (keep:=3) (args:=[.int .u64 (.var 1 n)]) (H:=[]) (by
  rw [w9,g1,g2]
  exact ⟨h,A6.2 (by omega),Nat.beq_refl _,rfl,_,_,rfl⟩))
theorem vD (G:Nat→List AV) (B:Nat) (n:Int) (h:inU64 [.int .u64 n]=true):ACalls (⟨Try.prog,G,B⟩:A2) 71 [.int .u64 n] [] fun v' H'=>v'=.slice true (.rw 0) 0 (A1 [.int .u64 n]).length∧H'=[some ⟨1,A3 (A1 [.int .u64 n])⟩]:=by
 obtain ⟨g1,g2⟩:=Vd (k:=.u64) n;have hlen:=Be [.int .u64 n]
 exact wH (C7 (C:=(⟨Try.prog,G,B⟩:A2)) (f:=71) (R:=fun v' H'=>v'=.slice true (.rw 2) 0 (A1 [.int .u64 n]).length∧∃ b c,H'=[b,c,some ⟨1,A3 (A1 [.int .u64 n])⟩]) (dg12 G B) (by kernel_rfl) (by kernel_rfl) (by kernel_rfl) (fuel:=200) (n0:=10) (keep:=3) (args:=[.int .u64 (.var 1 n)]) (H:=[]) (by
  rw [w12,g1,g2]
  exact ⟨h,A6.2 (by omega),Nat.beq_refl _,rfl,_,_,rfl⟩))
theorem Rb {C:A2} {f:FuncId} {mb:Bool} (h:∀ n:Int,inU64 [.int .u64 n]=true→ACalls C f [.int .u64 n] [] fun v' H'=>v'=.slice mb (.rw 0) 0 (A1 [.int .u64 n]).length∧H'=[some ⟨1,A3 (A1 [.int .u64 n])⟩]):C5 C f (Xr mb):=by
 intro xs H o ho;unfold Xr at ho;split at ho
 ·rename_i n;simp at ho;subst ho;intro hb;simp only [vB,vVs,vV] at hb;refine E0.new0 (C:=C) (args0:=[.int .u64 (vI C.G n)]) (v0:=.slice mb (.rw 0) 0 (A1 [.int .u64 (vI C.G n)]).length) ?_ (by simp only [vL,vS,vVs,vV];exact Z4 _ _) rfl (by simp only [vVs,vV]) (by simp [A8]) (by simp [vV,vR,vN,vS,vVs,C1]);simp only [C8,vL,vS,vVs,vV];exact h _ hb
 ·simp at ho
end Go.Am
namespace Go.Am
open Go.Proofs
set_option maxRecDepth 100000
def nums:List (Nat×DSum):=[(56,Xr false),(71,Xr true)]
theorem iU (G:Nat→List AV) (B:Nat):P6 (⟨Try.prog,G,B⟩:A2) nums:=.cons (Rb (num9 G B)) (.cons (Rb (vD G B)) .nil)
theorem B7 {k:Nat}:∀ {l:List AV},u8s l=true→A4 k l=true
 | [],_=>rfl
 | x::l,h=>by
  simp only [u8s,List.all_cons,Bool.and_eq_true] at h
  have:=B7 (k:=k) (l:=l) h.2
  cases x<;>simp_all [A4,A8,Bq]
theorem C3 {a b:List AV}:u8s (a++b)=(u8s a&&u8s b):=by simp [u8s]
theorem G2 {l:List AV} (h:u8s l=true):cellsB l=true:=by
 simp only [u8s,cellsB,List.all_eq_true] at h ⊢;intro v hv
 have:=h v hv
 cases v<;>simp_all [Bq,isCell]
end Go.Am
namespace Go.Am
open Go.Proofs
set_option maxRecDepth 100000
theorem w8a (G:Nat→List AV) (k o n:Nat) (Q:Ex→List AV→Hp→Prop) (R:AV→Hp→Prop):vT G Q R (G6 (Dc Try.prog [] nums [] 0) 200 10 Try.f82 [.slice true (.ro (.var 1 k)) (.var 2 o) (.var 3 n)] [] 2)=(
  inU64 [.int .u64 (IntKind.wrap .u64 (((n:Nat):Int)))]=true∧leB (o+n) (List.length (G (k)))=true∧cellsB (A7 (G (k)) (o) (n))=true∧leB (List.length (A1 [.int .u64 (IntKind.wrap .u64 (((n:Nat):Int)))])+n) (140737488355328)=true∧Nat.beq (List.length (A1 [.int .u64 (IntKind.wrap .u64 (((n:Nat):Int)))])) (List.length (A1 [.int .u64 (IntKind.wrap .u64 (((n:Nat):Int)))]))=true∧R (.slice false (.rw 1) (0) (List.length (A1 [.int .u64 (IntKind.wrap .u64 (((n:Nat):Int)))])+n)) [none,some ⟨1,((A3 (A1 [.int .u64 (IntKind.wrap .u64 (((n:Nat):Int)))]))++(A7 (G (k)) (o) (n)))⟩]):=by kernel_rfl
theorem w8b (G:Nat→List AV) (s:List AV) (o n:Nat) (Q:Ex→List AV→Hp→Prop) (R:AV→Hp→Prop):vT G Q R (G6 (Dc Try.prog [] nums [] 1) 200 10 Try.f82 [.slice true (.rw 0) (.var 2 o) (.var 3 n)] [some ⟨1,.var 1 s⟩] 3)=(
  inU64 [.int .u64 (IntKind.wrap .u64 (((n:Nat):Int)))]=true∧leB (o+n) (List.length s)=true∧cellsB (A7 s (o) (n))=true∧leB (List.length (A1 [.int .u64 (IntKind.wrap .u64 (((n:Nat):Int)))])+n) (140737488355328)=true∧Nat.beq (List.length (A1 [.int .u64 (IntKind.wrap .u64 (((n:Nat):Int)))])) (List.length (A1 [.int .u64 (IntKind.wrap .u64 (((n:Nat):Int)))]))=true∧R (.slice false (.rw 2) (0) (List.length (A1 [.int .u64 (IntKind.wrap .u64 (((n:Nat):Int)))])+n)) [some ⟨1,s⟩,none,some ⟨1,((A3 (A1 [.int .u64 (IntKind.wrap .u64 (((n:Nat):Int)))]))++(A7 s (o) (n)))⟩]):=by kernel_rfl
theorem w11a (G:Nat→List AV) (k o n:Nat) (Q:Ex→List AV→Hp→Prop) (R:AV→Hp→Prop):vT G Q R (G6 (Dc Try.prog [] nums [] 0) 200 10 Try.f72 [.slice true (.ro (.var 1 k)) (.var 2 o) (.var 3 n)] [] 2)=(
  inU64 [.int .u64 (IntKind.wrap .u64 (((n:Nat):Int)))]=true∧leB (o+n) (List.length (G (k)))=true∧cellsB (A7 (G (k)) (o) (n))=true∧leB (List.length (A1 [.int .u64 (IntKind.wrap .u64 (((n:Nat):Int)))])+n) (140737488355328)=true∧Nat.beq (List.length (A1 [.int .u64 (IntKind.wrap .u64 (((n:Nat):Int)))])) (List.length (A1 [.int .u64 (IntKind.wrap .u64 (((n:Nat):Int)))]))=true∧R (.slice true (.rw 1) (0) (List.length (A1 [.int .u64 (IntKind.wrap .u64 (((n:Nat):Int)))])+n)) [none,some ⟨1,((A3 (A1 [.int .u64 (IntKind.wrap .u64 (((n:Nat):Int)))]))++(A7 (G (k)) (o) (n)))⟩]):=by kernel_rfl
theorem w11b (G:Nat→List AV) (s:List AV) (o n:Nat) (Q:Ex→List AV→Hp→Prop) (R:AV→Hp→Prop):vT G Q R (G6 (Dc Try.prog [] nums [] 1) 200 10 Try.f72 [.slice true (.rw 0) (.var 2 o) (.var 3 n)] [some ⟨1,.var 1 s⟩] 3)=(
  inU64 [.int .u64 (IntKind.wrap .u64 (((n:Nat):Int)))]=true∧leB (o+n) (List.length s)=true∧cellsB (A7 s (o) (n))=true∧leB (List.length (A1 [.int .u64 (IntKind.wrap .u64 (((n:Nat):Int)))])+n) (140737488355328)=true∧Nat.beq (List.length (A1 [.int .u64 (IntKind.wrap .u64 (((n:Nat):Int)))])) (List.length (A1 [.int .u64 (IntKind.wrap .u64 (((n:Nat):Int)))]))=true∧R (.slice true (.rw 2) (0) (List.length (A1 [.int .u64 (IntKind.wrap .u64 (((n:Nat):Int)))])+n)) [some ⟨1,s⟩,none,some ⟨1,((A3 (A1 [.int .u64 (IntKind.wrap .u64 (((n:Nat):Int)))]))++(A7 s (o) (n)))⟩]):=by kernel_rfl
theorem dgN0 (G:Nat→List AV) (B:Nat):DGood (⟨Try.prog,G,B⟩:A2) (Dc Try.prog [] nums [] 0) []:=D3 (mix G B) (by kernel_rfl) (iU G B) .nil
theorem dgN1 (G:Nat→List AV) (B:Nat):DGood (⟨Try.prog,G,B⟩:A2) (Dc Try.prog [] nums [] 1) []:=D3 (mix G B) (by kernel_rfl) (iU G B) .nil
theorem aW {n:Nat} (h:n≤1099511627776):IntKind.wrap .u64 ((n:Nat):Int)=(n:Int):=Fw (by omega)
theorem lI {n:Nat} (h:n≤1099511627776):inU64 [.int .u64 (n:Int)]=true:=by simp [inU64];omega
theorem qA {f:FuncId} {args:List AV} {C:A2} {mb:Bool} {m:Nat} {cs:List AV} (hc:∀ j,A4 j cs=true) (h:ACalls C f args [] fun v' H'=>v'=.slice mb (.rw 1) 0 m∧H'.take 2=[none,some ⟨1,cs⟩]) :
  ACalls C f args [] fun v' H'=>v'=.slice mb (.rw 0) 0 m∧H'=[some ⟨1,cs⟩]:=by
 refine h.view fun v H' ⟨e1,e2⟩=>⟨_,_,⟨rfl,rfl⟩,?_⟩
 have e:H'=none::some ⟨1,cs⟩::H'.drop 2:=by
  have:=List.take_append_drop 2 H'
  rw [e2] at this;exact this.symm
 rw [e,e1];exact C2.renM (θ:=[1]) (by simp) (fun i hi=>absurd hi (by simp)) (by decide) ⟨⟨hc _,by rw [B5 _ _ (hc 0)];rfl⟩,trivial⟩ (by simp [A4,A8]) (by simp [rens,C1,wk])
theorem pZ {f:FuncId} {args:List AV} {C:A2} {mb:Bool} {m:Nat} {s cs:List AV} (hs:∀ j,A4 j s=true) (hc:∀ j,A4 j cs=true) (h:ACalls C f args [some ⟨1,s⟩] fun v' H'=>v'=.slice mb (.rw 2) 0 m∧H'.take 3=[some ⟨1,s⟩,none,some ⟨1,cs⟩]) :
  ACalls C f args [some ⟨1,s⟩] fun v' H'=>v'=.slice mb (.rw 1) 0 m∧H'=[some ⟨1,s⟩,some ⟨1,cs⟩]:=by
 refine h.view fun v H' ⟨e1,e2⟩=>⟨_,_,⟨rfl,rfl⟩,?_⟩
 have e:H'=some ⟨1,s⟩::none::some ⟨1,cs⟩::H'.drop 3:=by
  have:=List.take_append_drop 3 H'
  rw [e2] at this;exact this.symm
 rw [e,e1];exact C2.renM (θ:=[0,2]) (by simp) fixes1 (by decide) ⟨⟨hs _,by rw [B5 _ _ (hs 0)];rfl⟩,⟨hc _,by rw [B5 _ _ (hc 0)];rfl⟩,trivial⟩ (by simp [A4,A8]) (by simp [rens,C1,wk])
structure Ys (C:A2) (f:FuncId) (mb:Bool):Prop where
 ro:∀ k o n:Nat,n≤1099511627776→o+n≤(C.G k).length→u8s (A7 (C.G k) o n)=true→ACalls C f [.slice true (.ro k) o n] [] fun v' H'=>v'=.slice mb (.rw 0) 0 ((A1 [.int .u64 (n:Int)]).length+n)∧H'=[some ⟨1,A3 (A1 [.int .u64 (n:Int)])++A7 (C.G k) o n⟩]
 rw:∀ (s:List AV) (o n:Nat),(∀ j,A4 j s=true)→n≤1099511627776→o+n≤s.length→u8s (A7 s o n)=true→ACalls C f [.slice true (.rw 0) o n] [some ⟨1,s⟩] fun v' H'=>v'=.slice mb (.rw 1) 0 ((A1 [.int .u64 (n:Int)]).length+n)∧H'=[some ⟨1,s⟩,some ⟨1,A3 (A1 [.int .u64 (n:Int)])++A7 s o n⟩]
theorem Cq {a:List UInt8} {l:List AV} (h:u8s l=true) (j:Nat):A4 j (A3 a++l)=true:=by
 rw [J8,List.all_append,←J8,←J8,Z4,B7 h];rfl
theorem bytes8 (G:Nat→List AV) (B:Nat):Ys (⟨Try.prog,G,B⟩:A2) 82 false where
 ro k o n hn ho hu:=by
  have hl:=Be [.int .u64 (n:Int)];refine qA (Cq hu) (C7 (C:=(⟨Try.prog,G,B⟩:A2)) (fn:=Try.f82) (f:=82) (R:=fun v' H'=>v'=.slice false (.rw 1) 0 ((A1 [.int .u64 (n:Int)]).length+n)∧H'=[none,some ⟨1,A3 (A1 [.int .u64 (n:Int)])++A7 (G k) o n⟩]) (dgN0 G B) (by kernel_rfl) (by kernel_rfl) (by kernel_rfl) (fuel:=200) (n0:=10) (keep:=2) (args:=[.slice true (.ro (.var 1 k)) (.var 2 o) (.var 3 n)]) (H:=[]) ?_);rw [w8a,aW hn];exact ⟨lI hn,A6.2 ho,G2 hu,A6.2 (by omega),Nat.beq_refl _,rfl,rfl⟩
 rw s o n hs hn ho hu:=by
  have hl:=Be [.int .u64 (n:Int)];refine pZ hs (Cq hu) (C7 (C:=(⟨Try.prog,G,B⟩:A2)) (fn:=Try.f82) (f:=82) (R:=fun v' H'=>v'=.slice false (.rw 2) 0 ((A1 [.int .u64 (n:Int)]).length+n)∧H'=[some ⟨1,s⟩,none,some ⟨1,A3 (A1 [.int .u64 (n:Int)])++A7 s o n⟩]) (dgN1 G B) (by kernel_rfl) (by kernel_rfl) (by kernel_rfl) (fuel:=200) (n0:=10) (keep:=3) (args:=[.slice true (.rw 0) (.var 2 o) (.var 3 n)]) (H:=[some ⟨1,.var 1 s⟩]) ?_);rw [w8b,aW hn];exact ⟨lI hn,A6.2 ho,G2 hu,A6.2 (by omega),Nat.beq_refl _,rfl,rfl⟩
theorem yZ (G:Nat→List AV) (B:Nat):Ys (⟨Try.prog,G,B⟩:A2) 72 true where
 ro k o n hn ho hu:=by
  have hl:=Be [.int .u64 (n:Int)];refine qA (Cq hu) (C7 (C:=(⟨Try.prog,G,B⟩:A2)) (fn:=Try.f72) (f:=72) (R:=fun v' H'=>v'=.slice true (.rw 1) 0 ((A1 [.int .u64 (n:Int)]).length+n)∧H'=[none,some ⟨1,A3 (A1 [.int .u64 (n:Int)])++A7 (G k) o n⟩]) (dgN0 G B) (by kernel_rfl) (by kernel_rfl) (by kernel_rfl) (fuel:=200) (n0:=10) (keep:=2) (args:=[.slice true (.ro (.var 1 k)) (.var 2 o) (.var 3 n)]) (H:=[]) ?_);rw [w11a,aW hn];exact ⟨lI hn,A6.2 ho,G2 hu,A6.2 (by omega),Nat.beq_refl _,rfl,rfl⟩
 rw s o n hs hn ho hu:=by
  have hl:=Be [.int .u64 (n:Int)];refine pZ hs (Cq hu) (C7 (C:=(⟨Try.prog,G,B⟩:A2)) (fn:=Try.f72) (f:=72) (R:=fun v' H'=>v'=.slice true (.rw 2) 0 ((A1 [.int .u64 (n:Int)]).length+n)∧H'=[some ⟨1,s⟩,none,some ⟨1,A3 (A1 [.int .u64 (n:Int)])++A7 s o n⟩]) (dgN1 G B) (by kernel_rfl) (by kernel_rfl) (by kernel_rfl) (fuel:=200) (n0:=10) (keep:=3) (args:=[.slice true (.rw 0) (.var 2 o) (.var 3 n)]) (H:=[some ⟨1,.var 1 s⟩]) ?_);rw [w11b,aW hn];exact ⟨lI hn,A6.2 ho,G2 hu,A6.2 (by omega),Nat.beq_refl _,rfl,rfl⟩
def pW (mb:Bool) (l:EL) (o n:EN) (H:DHp):Outs:=.chk (.leN n (.lit 1099511627776)) (.chk (.leN (.add o n) (.len l)) (.chk (.u8s l) (.chk (.u8s (.sub l o n)) (.one (.slice mb (.rw H.length) (.lit 0) (.add (.slen (.uf 1104 A1 [.int .u64 (.ofN n)])) n)) [.new ⟨1,.app (.bytes (.uf 1104 A1 [.int .u64 (.ofN n)])) (.sub l o n)⟩]))))
def Wn (mb:Bool):DSum:=fun xs H=>match xs with
 | [.slice _ (.ro k) o n]=>some (pW mb (.ro k) o n H)
 | [.slice _ (.rw i) o n]=>match H[i]? with
  | some (some ⟨1,l⟩)=>some (pW mb l o n H)
  | _=>none
 | _=>none
theorem aF {C:A2} {f:FuncId} {mb:Bool} (h:Ys C f mb):C5 C f (Wn mb):=by
 intro xs H o ho
 have wkn:∀ {m:Bool} {r:Ref} {o n:Nat} {H:Hp} {K:AV→Hp→Prop},ACalls C f [.slice true r o n] H K→ACalls C f [.slice m r o n] H K:=fun h=>h.weaken fun ρ vs hv=>by
  simp only [VRs] at hv ⊢;obtain ⟨v,vs',r1,r2,r3⟩:=hv;exact ⟨v,vs',r1,N3 r2,r3⟩
 simp only [Wn] at ho;split at ho
 ·rename_i m k o n;simp only [Option.some.injEq] at ho;subst ho;intro h1 h2 h3 h4;simp only [vB,vN,vL] at h1 h2 h3 h4;refine E0.new0 (C:=C) (args0:=[.slice m (.ro (vN C.G k)) (vN C.G o) (vN C.G n)]) (v0:=.slice mb (.rw 0) 0 ((A1 [.int .u64 (vN C.G n:Int)]).length+vN C.G n)) ?_ (by simp only [vL,vS,vVs,vV,vI];exact Cq h4 _) (by simp [A4,A8]) (by simp only [vVs,vV,vR]) (by simp [A8]) (by simp [vV,vR,vN,vS,vVs,vI,C1]);simp only [C8,vL,vS,vVs,vV,vI];exact wkn (h.ro _ _ _ (A6.1 h1) (A6.1 h2) h4)
 ·rename_i m i o n;split at ho
  ·rename_i l hi;simp only [Option.some.injEq] at ho;subst ho;intro h1 h2 h3 h4;simp only [vB,vN,vL] at h1 h2 h3 h4;have hf:∀ j,A4 j (vL C.G l)=true:=fun j=>B7 h3;have key:=wkn (m:=m) (h.rw (vL C.G l) (vN C.G o) (vN C.G n) hf (A6.1 h1) (A6.1 h2) h4);have rw':∀ (b:Iw) (θ:List Nat),A4 0 (vL C.G b.cells)=true→K2 θ (C8 C.G b)=C8 C.G b:=fun b θ hb=>by simp only [K2,C8,B5 _ _ hb]
   have e1:=rw' ⟨1,l⟩;refine E0.fr (θ:=[i]) (by simp) rfl (fun k b hk=>?_) (by simp [A4,A8]) (by simp [vVs,vV,vR,rens,C1]) key (by simp) (by simp [A8]) (by simp [J5,hf,Cq h4]) (by simp [vV,vR,vN,vS,vVs,vI,C1,R3]) ?_
   ·match k with
    | 0=>simp at hk;subst hk;exact ⟨_,rfl,hf _,by simpa [K2,C8,B5 _ _ (hf 0)] using E9 (G:=C.G) hi⟩
    | k+1=>simp at hk
   ·have:=Dj (G:=C.G) hi
    simp only [C8] at this;simp [acts,Hop.act,I1,C8,T8,lay,U4,K2,vL,vS,vVs,vV,vI,vN,B5 _ _ (hf 0),B5 _ _ (Cq h4 0),this]
  ·simp at ho
 ·simp at ho
def U1 (xs:List AV):Int:=match xs with
 | [.bool true]=>1
 | _=>0
def flagS:DSum:=fun xs H=>match xs with
 | [.bool b]=>some (.one (.slice false (.rw H.length) (.lit 0) (.lit 1)) [.new ⟨1,.of [.int .u8 (.uf 1114 U1 [.bool b])]⟩])
 | _=>none
theorem w15 (G:Nat→List AV) (b:Bool) (Q:Ex→List AV→Hp→Prop) (R:AV→Hp→Prop):vT G Q R (G6 (Dc Try.prog [] [] [] 0) 200 10 Try.f83 [.bool (.var 1 b)] [] 1)=(
  (b=true→R (.slice false (.rw 0) (0) (1)) [some ⟨1,([.int .u8 (1)]:List AV)⟩])∧(b=false→R (.slice false (.rw 0) (0) (1)) [some ⟨1,([.int .u8 (0)]:List AV)⟩])):=by kernel_rfl
theorem w16 (G:Nat→List AV) (b:Bool) (Q:Ex→List AV→Hp→Prop) (R:AV→Hp→Prop):vT G Q R (G6 (Dc Try.prog [] [] [] 0) 200 10 Try.f73 [.bool (.var 1 b)] [] 1)=(
  (b=true→R (.slice false (.rw 0) (0) (1)) [some ⟨1,([.int .u8 (1)]:List AV)⟩])∧(b=false→R (.slice false (.rw 0) (0) (1)) [some ⟨1,([.int .u8 (0)]:List AV)⟩])):=by kernel_rfl
theorem dg00 (G:Nat→List AV) (B:Nat):DGood (⟨Try.prog,G,B⟩:A2) (Dc Try.prog [] [] [] 0) []:=D3 (mix G B) (by kernel_rfl) .nil .nil
theorem flag15 (G:Nat→List AV) (B:Nat) (b:Bool):ACalls (⟨Try.prog,G,B⟩:A2) 83 [.bool b] [] fun v' H'=>v'=.slice false (.rw 0) 0 1∧H'=[some ⟨1,[.int .u8 (U1 [.bool b])]⟩]:=by
 have key:=C7 (C:=(⟨Try.prog,G,B⟩:A2)) (fn:=Try.f83) (f:=83) (R:=fun v' H'=>v'=.slice false (.rw 0) 0 1∧H'=[some ⟨1,[.int .u8 (U1 [.bool b])]⟩]) (dg00 G B) (by kernel_rfl) (by kernel_rfl) (by kernel_rfl) (fuel:=200) (n0:=10) (keep:=1) (args:=[.bool (.var 1 b)]) (H:=[]) (by
  rw [w15]
  exact ⟨fun h=>by rw [h];exact ⟨rfl,rfl⟩,fun h=>by rw [h];exact ⟨rfl,rfl⟩⟩)
 exact key.keep (by simp [B8]) (by simp [J5,A4,A8]) (by simp [A8]) (by simp)
theorem flag16 (G:Nat→List AV) (B:Nat) (b:Bool):ACalls (⟨Try.prog,G,B⟩:A2) 73 [.bool b] [] fun v' H'=>v'=.slice false (.rw 0) 0 1∧H'=[some ⟨1,[.int .u8 (U1 [.bool b])]⟩]:=by
 have key:=C7 (C:=(⟨Try.prog,G,B⟩:A2)) (fn:=Try.f73) (f:=73) (R:=fun v' H'=>v'=.slice false (.rw 0) 0 1∧H'=[some ⟨1,[.int .u8 (U1 [.bool b])]⟩]) (dg00 G B) (by kernel_rfl) (by kernel_rfl) (by kernel_rfl) (fuel:=200) (n0:=10) (keep:=1) (args:=[.bool (.var 1 b)]) (H:=[]) (by
  rw [w16]
  exact ⟨fun h=>by rw [h];exact ⟨rfl,rfl⟩,fun h=>by rw [h];exact ⟨rfl,rfl⟩⟩)
 exact key.keep (by simp [B8]) (by simp [J5,A4,A8]) (by simp [A8]) (by simp)
theorem eY {C:A2} {f:FuncId} (h:∀ b,ACalls C f [.bool b] [] fun v' H'=>v'=.slice false (.rw 0) 0 1∧H'=[some ⟨1,[.int .u8 (U1 [.bool b])]⟩]):C5 C f flagS:=by
 intro xs H o ho;unfold flagS at ho;split at ho
 ·rename_i b;simp at ho;subst ho;refine E0.new0 (C:=C) (args0:=[.bool (vB C.G b)]) (v0:=.slice false (.rw 0) 0 1) ?_ (by simp [vL,vVs,vV,A4,A8]) rfl (by simp only [vVs,vV]) (by simp [A8]) (by simp [vV,vR,vN,C1]);simp only [C8,vL,vVs,vV,vI];exact h _
 ·simp at ho
end Go.Am
