/-
  Wire: the numbers' form, and how it is written. Wire: signed numbers, spoil, Join, known.
-/
import Derived.Test.YthejjolnlngahaaBase5
import Derived.Test.YthejjolnlngahaaProg
import Derived.Test.YthejjolnlngahaaBase3
namespace Go.Am
open Go.Proofs
open IntKind renaming wrap → wS
open List renaming length → wW
open Try renaming prog → zM
set_option maxRecDepth 100000
section
variable (G:Nat→List AV) (B:Nat)
noncomputable abbrev za (G:Nat→List AV) (B:Nat):A1:=⟨zM,G,B⟩
theorem mix :((za G B)).P.follows .mixedOrders=true:=by kernel_rfl
def Hi:Nat→Nat→List UInt8
 | 0,_=>[]
 | k+1,n=>if n<128 then [UInt8.ofNat n] else UInt8.ofNat (n % 128+128)::Hi k (n / 128)
def Ix (n:Nat):List UInt8:=Hi 10 n
theorem Wt {k n:Nat} (h:n<128):Hi (k+1) n=[UInt8.ofNat n]:=by simp [Hi,h]
theorem mT {k n:Nat} (h:¬n<128):Hi (k+1) n=UInt8.ofNat (n % 128+128)::Hi k (n / 128):=by simp [Hi,h]
theorem rS:∀ (k n:Nat),(Hi k n).length≤k
 | 0,_=>zA7 _
 | k+1,n=>by
  have:=rS k (n / 128)
  unfold Hi
  split<;>simp<;>omega
theorem nfd_ne {k n:Nat}:Hi (k+1) n≠[]:=by unfold Hi;split<;>simp
def inU64 (xs:List AV):Bool:=match xs with
 | [.int _ n]=>decide (0≤n)&&decide (n≤18446744073709551615)
 | _=>false
def A4 (xs:List AV):List UInt8:=match xs with
 | [.int _ n]=>Ix n.toNat
 | _=>[]
def M4 (xs:List AV):List UInt8:=(A4 xs).dropLast
def Bn (xs:List AV):Int:=match (A4 xs).getLast? with
 | some b=>b.toNat
 | none=>0
theorem lC {n:Nat} (h:n<256):(UInt8.ofNat n).toNat=n:=by simp [UInt8.toNat_ofNat'];omega
theorem Br (a b:List UInt8):A9 (a++b)=A9 a++A9 b:=by simp [A9]
theorem K9 (a:List UInt8):(A9 a).length=a.length:=by simp [A9]
theorem Hb {n:Nat} (h:n<256):A9 [UInt8.ofNat n]=[.int .u8 (n:Int)]:=by simp [A9,lC h]
theorem Bx (k:Nat):∀ (a:List UInt8),A6 k (A9 a)=true
 | []=>rfl
 | x::a=>by simp only [A9,List.map_cons,A6,B0,Bool.true_and];exact Bx k a
theorem Yf (θ:List Nat) (a:List UInt8):rens θ (A9 a)=A9 a:=B4 _ _ (Bx 0 a)
theorem Bj {n:Int} (h:0≤n∧n≤18446744073709551615):IntKind.u64.wrap n=n:=by
 simp only [wS,IntKind.signed,IntKind.bits,Bool.false_and,Bool.false_eq_true,if_false];omega
theorem Kz (n:Int):IntKind.u8.wrap n=n % 256:=by
 simp only [wS,IntKind.signed,IntKind.bits,Bool.false_and,Bool.false_eq_true,if_false];omega
theorem or128:∀ b:BitVec 8,(b ||| 128#8).toNat=b.toNat % 128+128:=by decide +kernel
theorem dig9 (m:Nat):Kh .u8 (wS .u8 (m:Int)) 128=((m % 128+128:Nat):Int):=by
 show IntKind.u8.wrap (((BitVec.ofInt 8 (wS .u8 (m:Int)) ||| BitVec.ofInt 8 128).toNat:Nat):Int)=_
 have e1:(BitVec.ofInt 8 (wS .u8 (m:Int)))=BitVec.ofNat 8 m:=by
  rw [Kz];apply BitVec.eq_of_toNat_eq;simp [BitVec.toNat_ofInt];omega
 have e2:BitVec.ofInt 8 128=128#8:=by decide
 rw [e1,e2,or128,Kz];simp [BitVec.toNat_ofNat];omega
theorem shr7 (m:Nat):S4 .u64 (m:Int) 7=((m / 128:Nat):Int):=by
 unfold S4
 have:(2:Int)^(min (7:Int).toNat IntKind.u64.bits)=128:=by decide
 rw [this,Int.fdiv_eq_ediv_of_nonneg _ (by omega)];omega
theorem dig12 (m:Nat):wS .u8 (wS .u64 (Int.tmod (m:Int) 128+128))=((m % 128+128:Nat):Int):=by
 have:Int.tmod (m:Int) 128=((m % 128:Nat):Int):=by rw [Int.tmod_eq_emod_of_nonneg (by omega)];omega
 rw [this,Bj (by omega),Kz];omega
theorem div12 {m:Nat} (h:m≤18446744073709551615):wS .u64 (Int.tdiv (m:Int) 128)=((m / 128:Nat):Int):=by
 have:Int.tdiv (m:Int) 128=((m / 128:Nat):Int):=by rw [Int.tdiv_eq_ediv_of_nonneg (by omega)];omega
 rw [this,Bj (by omega)]
theorem nb9 (s:List AV) (m:Int) (l:Nat) (Q:Ex→List AV→Hp→Prop) (R:AV→Hp→Prop):vT G Q R (H4 (Dc zM [] [] [] 0) 200 10 0 (A5 Try.f56 0) 20 [0,3] [.int .u64 (.var 1 m),.slice false (.rw 0) (.lit 0) (.var 2 l)] [some ⟨1,.var 3 s⟩])=(
  (decide ((m:Int)>127)=true→leB (l+1) 140737488355328=true∧Nat.beq (wW s) l=true∧Q .normal [.int .u64 (S4 .u64 m 7),.slice false (.rw 2) 0 (l+1)] [none,some ⟨1,([.int .u8 (Kh .u8 (wS .u8 m) 128)]:List AV)⟩,some ⟨1,(s++([.int .u8 (Kh .u8 (wS .u8 m) 128)]:List AV))⟩])∧(decide ((m:Int)>127)=false→Q (.exit 0) [.int .u64 m,.slice false (.rw 0) 0 l] [some ⟨1,s⟩])):=by kernel_rfl
theorem nb12 (s:List AV) (m:Int) (l:Nat) (Q:Ex→List AV→Hp→Prop) (R:AV→Hp→Prop):vT G Q R (H4 (Dc zM [] [] [] 0) 200 10 0 (A5 Try.f71 0) 20 [0,3] [.int .u64 (.var 1 m),.slice true (.rw 0) (.lit 0) (.var 2 l)] [some ⟨1,.var 3 s⟩])=(
  (decide ((m:Int)>127)=true→leB (l+1) 140737488355328=true∧Nat.beq (wW s) l=true∧Q .normal [.int .u64 (wS .u64 (Int.tdiv m 128)),.slice true (.rw 2) 0 (l+1)] [none,some ⟨1,([.int .u8 (wS .u8 (wS .u64 (Int.tmod m 128+128)))]:List AV)⟩,some ⟨1,(s++([.int .u8 (wS .u8 (wS .u64 (Int.tmod m 128+128)))]:List AV))⟩])∧(decide ((m:Int)>127)=false→Q (.exit 0) [.int .u64 m,.slice true (.rw 0) 0 l] [some ⟨1,s⟩])):=by kernel_rfl
theorem dg0 :DGood (za G B) (Dc zM [] [] [] 0) []:=C7 (mix G B) (by kernel_rfl) .nil .nil
def JN (mb:Bool) (n:Nat) (j:Nat) (vs:List AV) (H:Hp):Prop:=∃ (m:Nat) (s:List UInt8),m<128^(j+1)∧s.length+j=9∧m≤18446744073709551615∧s++Hi (j+1) m=Ix n∧vs=[.int .u64 (m:Int),.slice mb (.rw 0) 0 s.length]∧H=[some ⟨1,A9 s⟩]
def JX (mb:Bool) (n:Nat) (vs:List AV) (H:Hp):Prop:=∃ (m:Nat) (s:List UInt8),m<128∧s.length≤9∧s++[UInt8.ofNat m]=Ix n∧vs=[.int .u64 (m:Int),.slice mb (.rw 0) 0 s.length]∧H=[some ⟨1,A9 s⟩]
theorem mG:(18446744073709551615:Nat)<128^10:=by decide
theorem tE {mb:Bool} {n m j:Nat} {s:List UInt8} {b:Option Blk} {c:Option Blk} (h:¬m<128) (h1:m<128^(j+1)) (h2:s.length+j=9) (h3:m≤18446744073709551615) (h4:s++Hi (j+1) m=Ix n) :
  ∃ k',k'<j∧(JN mb n k' [.int .u64 ((m / 128:Nat):Int),.slice mb (.rw 2) 0 (s.length+1)] [b,c,some ⟨1,A9 s++[.int .u8 ((m % 128+128:Nat):Int)]⟩]∨∃ vs'' H'',JN mb n k' vs'' H''∧C5 0 vs'' H'' [.int .u64 ((m / 128:Nat):Int),.slice mb (.rw 2) 0 (s.length+1)] [b,c,some ⟨1,A9 s++[.int .u8 ((m % 128+128:Nat):Int)]⟩]):=by
 match j,h1,h2,h4 with
 | 0,h1,_,_=>exact absurd h1 (by simpa using h)
 | j+1,h1,h2,h4=>
  refine ⟨j,by omega,.inr ⟨_,_,⟨m / 128,s++[UInt8.ofNat (m % 128+128)],?_,by simp;omega,by omega,?_,rfl,rfl⟩,?_⟩⟩
  ·rw [Nat.div_lt_iff_lt_mul (by omega)];rw [Nat.pow_succ] at h1;exact h1
  ·rw [←h4,mT h];simp
  ·rw [Br,Hb (by omega)];refine C5.renM (θ:=[2]) (by simp) (fun i hi=>by omega) (by decide) ⟨⟨?_,?_⟩,trivial⟩ (by simp [A6,B0]) (by simp [rens,C2,wk])
   ·rw [←Hb (by omega),←Br];exact Bx _ _
   ·rw [←Hb (by omega),←Br,Yf];rfl
theorem nl9 (n:Nat) (hn:n≤18446744073709551615):AWp (za G B) 0 (.loop (A5 Try.f56 0)) (fl 20 [0,3] [.int .u64 (n:Int),.slice false (.rw 0) 0 0]) [some ⟨1,[]⟩] (lv 20 [0,3] fun e vs H=>e=.exit 0∧JX false n vs H):=by
 refine X5 (JN false n) 9 ⟨n,[],by have:=mG;omega,rfl,hn,rfl,rfl,rfl⟩ ?_;rintro j vs H ⟨m,s,h1,h2,h3,h4,rfl,rfl⟩;refine D3 (C:=(za G B)) (dg0 G B) (fuel:=200) (n0:=10) (m:=0) (c:=A5 Try.f56 0) (vs:=[.int .u64 (.var 1 (m:Int)),.slice false (.rw 0) (.lit 0) (.var 2 s.length)]) (H:=[some ⟨1,.var 3 (A9 s)⟩]) (by simp) ?_;rw [nb9,dig9,shr7];refine ⟨fun h=>⟨yI (by omega),by rw [K9];exact zA9 _,tE (by have:=zR h;omega) h1 h2 h3 h4⟩,fun h=>?_⟩;have h:=sJ h;have hm:m<128:=by omega
 rw [Wt hm] at h4;exact ⟨rfl,m,s,hm,by omega,h4,rfl,rfl⟩
theorem nl12 (n:Nat) (hn:n≤18446744073709551615):AWp (za G B) 0 (.loop (A5 Try.f71 0)) (fl 20 [0,3] [.int .u64 (n:Int),.slice true (.rw 0) 0 0]) [some ⟨1,[]⟩] (lv 20 [0,3] fun e vs H=>e=.exit 0∧JX true n vs H):=by
 refine X5 (JN true n) 9 ⟨n,[],by have:=mG;omega,rfl,hn,rfl,rfl,rfl⟩ ?_;rintro j vs H ⟨m,s,h1,h2,h3,h4,rfl,rfl⟩;refine D3 (C:=(za G B)) (dg0 G B) (fuel:=200) (n0:=10) (m:=0) (c:=A5 Try.f71 0) (vs:=[.int .u64 (.var 1 (m:Int)),.slice true (.rw 0) (.lit 0) (.var 2 s.length)]) (H:=[some ⟨1,.var 3 (A9 s)⟩]) (by simp) ?_;rw [nb12,dig12,div12 h3];refine ⟨fun h=>⟨yI (by omega),by rw [K9];exact zA9 _,tE (by have:=zR h;omega) h1 h2 h3 h4⟩,fun h=>?_⟩;have h:=sJ h;have hm:m<128:=by omega
 rw [Wt hm] at h4;exact ⟨rfl,m,s,hm,by omega,h4,rfl,rfl⟩
def nL (mb:Bool):DL:=⟨0,20,[0,3],fun vs H=>match mb,vs,H with
 | false,[.int .u64 n,.slice false (.rw 0) (.lit 0) (.lit 0)],[some ⟨1,.of []⟩]=>
  some (.chk (.uf 1101 inU64 [.int .u64 n]) (.one (.exit 0) [.int .u64 (.uf 1103 Bn [.int .u64 n]),.slice false (.rw 0) (.lit 0) (.slen (.uf 1102 M4 [.int .u64 n]))] [some ⟨1,.bytes (.uf 1102 M4 [.int .u64 n])⟩]))
 | true,[.int .u64 n,.nils],[]=>
  some (.chk (.uf 1101 inU64 [.int .u64 n]) (.one (.exit 0) [.int .u64 (.uf 1103 Bn [.int .u64 n]),.slice true (.rw 0) (.lit 0) (.slen (.uf 1102 M4 [.int .u64 n]))] [some ⟨1,.bytes (.uf 1102 M4 [.int .u64 n])⟩]))
 | _,_,_=>none⟩
theorem JX_eq {mb:Bool} {n:Int} {vs:List AV} {H:Hp} {k:IntKind} (h:JX mb n.toNat vs H):vs=[.int .u64 (Bn [.int k n]),.slice mb (.rw 0) 0 (M4 [.int k n]).length]∧H=[some ⟨1,A9 (M4 [.int k n])⟩]:=by
 obtain ⟨m,s,h1,h2,h3,rfl,rfl⟩:=h;have e1:M4 [.int k n]=s:=by simp only [M4,A4];rw [←h3,List.dropLast_concat]
 have e2:Bn [.int k n]=(m:Int):=by simp only [Bn,A4];rw [←h3];simp [lC (show m<256 by omega)]
 rw [e1,e2];exact ⟨rfl,rfl⟩
theorem nK {k:IntKind} {n:Int} (h:inU64 [.int k n]=true):n=(n.toNat:Int)∧n.toNat≤18446744073709551615:=by
 simp only [inU64,zO,qC] at h;omega
theorem nL9_ok :F5 (za G B) 0 (A5 Try.f56 0) (nL false):=by
 refine .of fun vs H o ho n Q hQ=>?_;simp only [nL] at ho;split at ho
 ·rename_i n heq;simp only [zN] at ho;subst ho;obtain ⟨h1,h2⟩:=hQ;simp only [vB,vVs,vV] at h1;obtain ⟨e1,e2⟩:=nK h1;refine lone ?_ h2;simp only [nL,vVs,vV,vR,vN,vL,B8,List.map_cons,List.map_nil,Option.map_some,C6,vI,vS];have key:=nl9 G B _ e2;rw [←e1] at key;refine key.lmono ?_;rintro e vs H ⟨g1,g2⟩;obtain ⟨g3,g4⟩:=JX_eq (k:=.u64) g2;exact ⟨g1,by rw [g3];simp [wk],g4⟩
 ·rename_i heq;cases heq
 ·simp at ho
theorem bA2 :F5 (za G B) 0 (A5 Try.f71 0) (nL true):=by
 refine .of fun vs H o ho n Q hQ=>?_;simp only [nL] at ho;split at ho
 ·rename_i heq;cases heq
 ·rename_i n heq;simp only [zN] at ho;subst ho;obtain ⟨h1,h2⟩:=hQ;simp only [vB,vVs,vV] at h1;obtain ⟨e1,e2⟩:=nK h1;refine lone ?_ h2;simp only [nL,vVs,vV,vR,vN,vL,B8,List.map_cons,List.map_nil,Option.map_some,C6,vI,vS];have key:=nl12 G B _ e2;rw [←e1] at key
  have key:=AWp.nil (C:=(za G B)) (H:=[]) (H':=[]) (F:=fl 20 [0,3] [.int .u64 (vI G n),.slice true (.rw 0) 0 0]) (F':=fl 20 [0,3] [.int .u64 (vI G n),.nils]) 1 (by simp) (aL9 (vs:=[.int .u64 (vI G n),.slice true (.rw 0) 0 0]) (vs':=[.int .u64 (vI G n),.nils]) ⟨iD _,.inr ⟨rfl,rfl⟩,trivial⟩) trivial key;refine key.lmono ?_;rintro e vs H ⟨g1,g2⟩;obtain ⟨g3,g4⟩:=JX_eq (k:=.u64) g2;exact ⟨g1,by rw [g3];simp [wk],g4⟩
 ·simp at ho
theorem dg9 :DGood (za G B) (Dc zM [] [] [nL false] 0) (loopsOf (C3 Try.f56)):=C7 (mix G B) (by kernel_rfl) .nil (.cast (.cons (i:=0) (by kernel_rfl) rfl (nL9_ok G B) .nil) (by kernel_rfl))
theorem dg12 :DGood (za G B) (Dc zM [] [] [nL true] 0) (loopsOf (C3 Try.f71)):=C7 (mix G B) (by kernel_rfl) .nil (.cast (.cons (i:=0) (by kernel_rfl) rfl (bA2 G B) .nil) (by kernel_rfl))
theorem w9 (n:Int) (Q:Ex→List AV→Hp→Prop) (R:AV→Hp→Prop):vT G Q R (H5 (Dc zM [] [] [nL false] 0) 200 10 Try.f56 [.int .u64 (.var 1 n)] [] 3)=(
  inU64 [.int .u64 n]=true∧leB (wW (M4 [.int .u64 n])+1) 140737488355328=true∧Nat.beq (wW (M4 [.int .u64 n])) (wW (M4 [.int .u64 n]))=true∧R (.slice false (.rw 2) 0 (wW (M4 [.int .u64 n])+1)) [none,some ⟨1,([.int .u8 (wS .u8 (Bn [.int .u64 n]))]:List AV)⟩,some ⟨1,((A9 (M4 [.int .u64 n]))++([.int .u8 (wS .u8 (Bn [.int .u64 n]))]:List AV))⟩]):=by kernel_rfl
theorem w12 (n:Int) (Q:Ex→List AV→Hp→Prop) (R:AV→Hp→Prop):vT G Q R (H5 (Dc zM [] [] [nL true] 0) 200 10 Try.f71 [.int .u64 (.var 1 n)] [] 3)=(
  inU64 [.int .u64 n]=true∧leB (wW (M4 [.int .u64 n])+1) 140737488355328=true∧Nat.beq (wW (M4 [.int .u64 n])) (wW (M4 [.int .u64 n]))=true∧R (.slice true (.rw 2) 0 (wW (M4 [.int .u64 n])+1)) [none,some ⟨1,([.int .u8 (wS .u8 (Bn [.int .u64 n]))]:List AV)⟩,some ⟨1,((A9 (M4 [.int .u64 n]))++([.int .u8 (wS .u8 (Bn [.int .u64 n]))]:List AV))⟩]):=by kernel_rfl
theorem aW {k:IntKind} (n:Int):A9 (M4 [.int k n])++([.int .u8 (wS .u8 (Bn [.int k n]))]:List AV)=A9 (A4 [.int k n])∧(M4 [.int k n]).length+1=(A4 [.int k n]).length:=by
 have h:A4 [.int k n]≠[]:=nfd_ne;have e:M4 [.int k n]++[(A4 [.int k n]).getLast h]=A4 [.int k n]:=List.dropLast_concat_getLast h;have e2:Bn [.int k n]=(((A4 [.int k n]).getLast h).toNat:Int):=by simp only [Bn,List.getLast?_eq_some_getLast h]
 have h3:=((A4 [.int k n]).getLast h).toNat_lt;refine ⟨?_,?_⟩
 ·rw [e2,Kz]
  have:((((A4 [.int k n]).getLast h).toNat:Int)) % 256=(((A4 [.int k n]).getLast h).toNat:Int):=by omega
  rw [this]
  conv=>rhs;rw [←e,Br]
  rfl
 ·have:=congrArg wW e
  simpa using this
theorem iE (n:Nat):(Ix n).length≤10:=rS 10 n
theorem Dr (xs:List AV):(A4 xs).length≤10:=by
 unfold A4;split
 ·exact iE _
 ·simp
def dX (mb:Bool):DSum:=fun xs H=>match xs with
 | [.int .u64 n]=>some (.chk (.uf 1101 inU64 [.int .u64 n]) (.one (.slice mb (.rw H.length) (.lit 0) (.slen (.uf 1104 A4 [.int .u64 n]))) [.new ⟨1,.bytes (.uf 1104 A4 [.int .u64 n])⟩]))
 | _=>none
theorem back3 {f:FuncId} {args:List AV} {C:A1} {mb:Bool} {a:List UInt8} (h:ACalls C f args [] fun v' H'=>v'=.slice mb (.rw 2) 0 a.length∧∃ b c,H'.take 3=[b,c,some ⟨1,A9 a⟩]) :
  ACalls C f args [] fun v' H'=>v'=.slice mb (.rw 0) 0 a.length∧H'=[some ⟨1,A9 a⟩]:=by
 refine h.view fun v H' ⟨e1,b,c,e2⟩=>⟨_,_,⟨rfl,rfl⟩,?_⟩
 have e:H'=b::c::some ⟨1,A9 a⟩::H'.drop 3:=by
  have:=List.take_append_drop 3 H'
  rw [e2] at this;exact this.symm
 rw [e,e1];exact C5.renM (θ:=[2]) (by simp) (fun i hi=>absurd hi (by simp)) (by decide) ⟨⟨Bx _ _,by rw [Yf];rfl⟩,trivial⟩ (by simp [A6,B0]) (by simp [rens,C2,wk])
theorem num9 (n:Int) (h:inU64 [.int .u64 n]=true):ACalls (za G B) 56 [.int .u64 n] [] fun v' H'=>v'=.slice false (.rw 0) 0 (A4 [.int .u64 n]).length∧H'=[some ⟨1,A9 (A4 [.int .u64 n])⟩]:=by
 obtain ⟨g1,g2⟩:=aW (k:=.u64) n;have hlen:=Dr [.int .u64 n]
 exact back3 (C8 (C:=(za G B)) (f:=56) (R:=fun v' H'=>v'=.slice false (.rw 2) 0 (A4 [.int .u64 n]).length∧∃ b c,H'=[b,c,some ⟨1,A9 (A4 [.int .u64 n])⟩]) (dg9 G B) (by kernel_rfl) (by kernel_rfl) (by kernel_rfl) (fuel:=200) (n0:=10) (keep:=3) (args:=[.int .u64 (.var 1 n)]) (H:=[]) (by
  rw [w9,g1,g2]
  exact ⟨h,A8.2 (by omega),zA9 _,rfl,_,_,rfl⟩))
theorem num12 (n:Int) (h:inU64 [.int .u64 n]=true):ACalls (za G B) 71 [.int .u64 n] [] fun v' H'=>v'=.slice true (.rw 0) 0 (A4 [.int .u64 n]).length∧H'=[some ⟨1,A9 (A4 [.int .u64 n])⟩]:=by
 obtain ⟨g1,g2⟩:=aW (k:=.u64) n;have hlen:=Dr [.int .u64 n]
 exact back3 (C8 (C:=(za G B)) (f:=71) (R:=fun v' H'=>v'=.slice true (.rw 2) 0 (A4 [.int .u64 n]).length∧∃ b c,H'=[b,c,some ⟨1,A9 (A4 [.int .u64 n])⟩]) (dg12 G B) (by kernel_rfl) (by kernel_rfl) (by kernel_rfl) (fuel:=200) (n0:=10) (keep:=3) (args:=[.int .u64 (.var 1 n)]) (H:=[]) (by
  rw [w12,g1,g2]
  exact ⟨h,A8.2 (by omega),zA9 _,rfl,_,_,rfl⟩))
theorem Wr {C:A1} {f:FuncId} {mb:Bool} (h:∀ n:Int,inU64 [.int .u64 n]=true→ACalls C f [.int .u64 n] [] fun v' H'=>v'=.slice mb (.rw 0) 0 (A4 [.int .u64 n]).length∧H'=[some ⟨1,A9 (A4 [.int .u64 n])⟩]):DSumOk C f (dX mb):=by
 intro xs H o ho;unfold dX at ho;split at ho
 ·rename_i n;simp at ho;subst ho;intro hb;simp only [vB,vVs,vV] at hb;refine E1.new0 (C:=C) (args0:=[.int .u64 (vI C.G n)]) (v0:=.slice mb (.rw 0) 0 (A4 [.int .u64 (vI C.G n)]).length) ?_ (by simp only [vL,vS,vVs,vV];exact Bx _ _) rfl (by simp only [vVs,vV]) (by simp [B0]) (by simp [vV,vR,vN,vS,vVs,C2]);simp only [C6,vL,vS,vVs,vV];exact h _ hb
 ·simp at ho
end
def nums:List (Nat×DSum):=[(56,dX false),(71,dX true)]
theorem rO (G:Nat→List AV) (B:Nat):P8 (za G B) nums:=.cons (Wr (num9 G B)) (.cons (Wr (num12 G B)) .nil)
theorem B7 {k:Nat}:∀ {l:List AV},u8s l=true→A6 k l=true
 | [],_=>rfl
 | x::l,h=>by
  simp only [u8s,List.all_cons,zO] at h
  have:=B7 (k:=k) (l:=l) h.2
  cases x<;>simp_all [A6,B0,Om]
theorem C9 {a b:List AV}:u8s (a++b)=(u8s a&&u8s b):=by simp [u8s]
theorem F9 {l:List AV} (h:u8s l=true):cellsB l=true:=by
 simp only [u8s,cellsB,qD] at h ⊢;intro v hv
 have:=h v hv
 cases v<;>simp_all [Om,isCell]
section
variable (G:Nat→List AV) (B:Nat)
theorem w8a (k o n:Nat) (Q:Ex→List AV→Hp→Prop) (R:AV→Hp→Prop):vT G Q R (H5 (Dc zM [] nums [] 0) 200 10 Try.f82 [.slice true (.ro (.var 1 k)) (.var 2 o) (.var 3 n)] [] 2)=(
  inU64 [.int .u64 (wS .u64 ((n:Int)))]=true∧leB (o+n) (wW (G k))=true∧cellsB (A0 (G k) o n)=true∧leB (wW (A4 [.int .u64 (wS .u64 ((n:Int)))])+n) 140737488355328=true∧Nat.beq (wW (A4 [.int .u64 (wS .u64 ((n:Int)))])) (wW (A4 [.int .u64 (wS .u64 ((n:Int)))]))=true∧R (.slice false (.rw 1) 0 (wW (A4 [.int .u64 (wS .u64 ((n:Int)))])+n)) [none,some ⟨1,((A9 (A4 [.int .u64 (wS .u64 ((n:Int)))]))++(A0 (G k) o n))⟩]):=by kernel_rfl
theorem w8b (s:List AV) (o n:Nat) (Q:Ex→List AV→Hp→Prop) (R:AV→Hp→Prop):vT G Q R (H5 (Dc zM [] nums [] 1) 200 10 Try.f82 [.slice true (.rw 0) (.var 2 o) (.var 3 n)] [some ⟨1,.var 1 s⟩] 3)=(
  inU64 [.int .u64 (wS .u64 ((n:Int)))]=true∧leB (o+n) (wW s)=true∧cellsB (A0 s o n)=true∧leB (wW (A4 [.int .u64 (wS .u64 ((n:Int)))])+n) 140737488355328=true∧Nat.beq (wW (A4 [.int .u64 (wS .u64 ((n:Int)))])) (wW (A4 [.int .u64 (wS .u64 ((n:Int)))]))=true∧R (.slice false (.rw 2) 0 (wW (A4 [.int .u64 (wS .u64 ((n:Int)))])+n)) [some ⟨1,s⟩,none,some ⟨1,((A9 (A4 [.int .u64 (wS .u64 ((n:Int)))]))++(A0 s o n))⟩]):=by kernel_rfl
theorem w11a (k o n:Nat) (Q:Ex→List AV→Hp→Prop) (R:AV→Hp→Prop):vT G Q R (H5 (Dc zM [] nums [] 0) 200 10 Try.f72 [.slice true (.ro (.var 1 k)) (.var 2 o) (.var 3 n)] [] 2)=(
  inU64 [.int .u64 (wS .u64 ((n:Int)))]=true∧leB (o+n) (wW (G k))=true∧cellsB (A0 (G k) o n)=true∧leB (wW (A4 [.int .u64 (wS .u64 ((n:Int)))])+n) 140737488355328=true∧Nat.beq (wW (A4 [.int .u64 (wS .u64 ((n:Int)))])) (wW (A4 [.int .u64 (wS .u64 ((n:Int)))]))=true∧R (.slice true (.rw 1) 0 (wW (A4 [.int .u64 (wS .u64 ((n:Int)))])+n)) [none,some ⟨1,((A9 (A4 [.int .u64 (wS .u64 ((n:Int)))]))++(A0 (G k) o n))⟩]):=by kernel_rfl
theorem w11b (s:List AV) (o n:Nat) (Q:Ex→List AV→Hp→Prop) (R:AV→Hp→Prop):vT G Q R (H5 (Dc zM [] nums [] 1) 200 10 Try.f72 [.slice true (.rw 0) (.var 2 o) (.var 3 n)] [some ⟨1,.var 1 s⟩] 3)=(
  inU64 [.int .u64 (wS .u64 ((n:Int)))]=true∧leB (o+n) (wW s)=true∧cellsB (A0 s o n)=true∧leB (wW (A4 [.int .u64 (wS .u64 ((n:Int)))])+n) 140737488355328=true∧Nat.beq (wW (A4 [.int .u64 (wS .u64 ((n:Int)))])) (wW (A4 [.int .u64 (wS .u64 ((n:Int)))]))=true∧R (.slice true (.rw 2) 0 (wW (A4 [.int .u64 (wS .u64 ((n:Int)))])+n)) [some ⟨1,s⟩,none,some ⟨1,((A9 (A4 [.int .u64 (wS .u64 ((n:Int)))]))++(A0 s o n))⟩]):=by kernel_rfl
theorem dgN0 :DGood (za G B) (Dc zM [] nums [] 0) []:=C7 (mix G B) (by kernel_rfl) (rO G B) .nil
theorem dgN1 :DGood (za G B) (Dc zM [] nums [] 1) []:=C7 (mix G B) (by kernel_rfl) (rO G B) .nil
theorem jP {n:Nat} (h:n≤1099511627776):wS .u64 (n:Int)=(n:Int):=Bj (by omega)
theorem vF {n:Nat} (h:n≤1099511627776):inU64 [.int .u64 (n:Int)]=true:=by simp [inU64];omega
theorem aD2 {f:FuncId} {args:List AV} {C:A1} {mb:Bool} {m:Nat} {cs:List AV} (hc:∀ j,A6 j cs=true) (h:ACalls C f args [] fun v' H'=>v'=.slice mb (.rw 1) 0 m∧H'.take 2=[none,some ⟨1,cs⟩]) :
  ACalls C f args [] fun v' H'=>v'=.slice mb (.rw 0) 0 m∧H'=[some ⟨1,cs⟩]:=by
 refine h.view fun v H' ⟨e1,e2⟩=>⟨_,_,⟨rfl,rfl⟩,?_⟩
 have e:H'=none::some ⟨1,cs⟩::H'.drop 2:=by
  have:=List.take_append_drop 2 H'
  rw [e2] at this;exact this.symm
 rw [e,e1];exact C5.renM (θ:=[1]) (by simp) (fun i hi=>absurd hi (by simp)) (by decide) ⟨⟨hc _,by rw [B4 _ _ (hc 0)];rfl⟩,trivial⟩ (by simp [A6,B0]) (by simp [rens,C2,wk])
theorem aD1 {f:FuncId} {args:List AV} {C:A1} {mb:Bool} {m:Nat} {s cs:List AV} (hs:∀ j,A6 j s=true) (hc:∀ j,A6 j cs=true) (h:ACalls C f args [some ⟨1,s⟩] fun v' H'=>v'=.slice mb (.rw 2) 0 m∧H'.take 3=[some ⟨1,s⟩,none,some ⟨1,cs⟩]) :
  ACalls C f args [some ⟨1,s⟩] fun v' H'=>v'=.slice mb (.rw 1) 0 m∧H'=[some ⟨1,s⟩,some ⟨1,cs⟩]:=by
 refine h.view fun v H' ⟨e1,e2⟩=>⟨_,_,⟨rfl,rfl⟩,?_⟩
 have e:H'=some ⟨1,s⟩::none::some ⟨1,cs⟩::H'.drop 3:=by
  have:=List.take_append_drop 3 H'
  rw [e2] at this;exact this.symm
 rw [e,e1];exact C5.renM (θ:=[0,2]) (by simp) fixes1 (by decide) ⟨⟨hs _,by rw [B4 _ _ (hs 0)];rfl⟩,⟨hc _,by rw [B4 _ _ (hc 0)];rfl⟩,trivial⟩ (by simp [A6,B0]) (by simp [rens,C2,wk])
structure fX (C:A1) (f:FuncId) (mb:Bool):Prop where
 ro:∀ k o n:Nat,n≤1099511627776→o+n≤(C.G k).length→u8s (A0 (C.G k) o n)=true→ACalls C f [.slice true (.ro k) o n] [] fun v' H'=>v'=.slice mb (.rw 0) 0 ((A4 [.int .u64 (n:Int)]).length+n)∧H'=[some ⟨1,A9 (A4 [.int .u64 (n:Int)])++A0 (C.G k) o n⟩]
 rw:∀ (s:List AV) (o n:Nat),(∀ j,A6 j s=true)→n≤1099511627776→o+n≤s.length→u8s (A0 s o n)=true→ACalls C f [.slice true (.rw 0) o n] [some ⟨1,s⟩] fun v' H'=>v'=.slice mb (.rw 1) 0 ((A4 [.int .u64 (n:Int)]).length+n)∧H'=[some ⟨1,s⟩,some ⟨1,A9 (A4 [.int .u64 (n:Int)])++A0 s o n⟩]
theorem Fe {a:List UInt8} {l:List AV} (h:u8s l=true) (j:Nat):A6 j (A9 a++l)=true:=by
 rw [O1,List.all_append,←O1,←O1,Bx,B7 h];rfl
theorem bytes8 :fX (za G B) 82 false where
 ro k o n hn ho hu:=by
  have hl:=Dr [.int .u64 (n:Int)];refine aD2 (Fe hu) (C8 (C:=(za G B)) (fn:=Try.f82) (f:=82) (R:=fun v' H'=>v'=.slice false (.rw 1) 0 ((A4 [.int .u64 (n:Int)]).length+n)∧H'=[none,some ⟨1,A9 (A4 [.int .u64 (n:Int)])++A0 (G k) o n⟩]) (dgN0 G B) (by kernel_rfl) (by kernel_rfl) (by kernel_rfl) (fuel:=200) (n0:=10) (keep:=2) (args:=[.slice true (.ro (.var 1 k)) (.var 2 o) (.var 3 n)]) (H:=[]) ?_);rw [w8a,jP hn];exact ⟨vF hn,A8.2 ho,F9 hu,A8.2 (by omega),zA9 _,rfl,rfl⟩
 rw s o n hs hn ho hu:=by
  have hl:=Dr [.int .u64 (n:Int)];refine aD1 hs (Fe hu) (C8 (C:=(za G B)) (fn:=Try.f82) (f:=82) (R:=fun v' H'=>v'=.slice false (.rw 2) 0 ((A4 [.int .u64 (n:Int)]).length+n)∧H'=[some ⟨1,s⟩,none,some ⟨1,A9 (A4 [.int .u64 (n:Int)])++A0 s o n⟩]) (dgN1 G B) (by kernel_rfl) (by kernel_rfl) (by kernel_rfl) (fuel:=200) (n0:=10) (keep:=3) (args:=[.slice true (.rw 0) (.var 2 o) (.var 3 n)]) (H:=[some ⟨1,.var 1 s⟩]) ?_);rw [w8b,jP hn];exact ⟨vF hn,A8.2 ho,F9 hu,A8.2 (by omega),zA9 _,rfl,rfl⟩
theorem bD6 :fX (za G B) 72 true where
 ro k o n hn ho hu:=by
  have hl:=Dr [.int .u64 (n:Int)];refine aD2 (Fe hu) (C8 (C:=(za G B)) (fn:=Try.f72) (f:=72) (R:=fun v' H'=>v'=.slice true (.rw 1) 0 ((A4 [.int .u64 (n:Int)]).length+n)∧H'=[none,some ⟨1,A9 (A4 [.int .u64 (n:Int)])++A0 (G k) o n⟩]) (dgN0 G B) (by kernel_rfl) (by kernel_rfl) (by kernel_rfl) (fuel:=200) (n0:=10) (keep:=2) (args:=[.slice true (.ro (.var 1 k)) (.var 2 o) (.var 3 n)]) (H:=[]) ?_);rw [w11a,jP hn];exact ⟨vF hn,A8.2 ho,F9 hu,A8.2 (by omega),zA9 _,rfl,rfl⟩
 rw s o n hs hn ho hu:=by
  have hl:=Dr [.int .u64 (n:Int)];refine aD1 hs (Fe hu) (C8 (C:=(za G B)) (fn:=Try.f72) (f:=72) (R:=fun v' H'=>v'=.slice true (.rw 2) 0 ((A4 [.int .u64 (n:Int)]).length+n)∧H'=[some ⟨1,s⟩,none,some ⟨1,A9 (A4 [.int .u64 (n:Int)])++A0 s o n⟩]) (dgN1 G B) (by kernel_rfl) (by kernel_rfl) (by kernel_rfl) (fuel:=200) (n0:=10) (keep:=3) (args:=[.slice true (.rw 0) (.var 2 o) (.var 3 n)]) (H:=[some ⟨1,.var 1 s⟩]) ?_);rw [w11b,jP hn];exact ⟨vF hn,A8.2 ho,F9 hu,A8.2 (by omega),zA9 _,rfl,rfl⟩
def aC5 (mb:Bool) (l:EL) (o n:EN) (H:DHp):Outs:=.chk (.leN n (.lit 1099511627776)) (.chk (.leN (.add o n) (.len l)) (.chk (.u8s l) (.chk (.u8s (.sub l o n)) (.one (.slice mb (.rw H.length) (.lit 0) (.add (.slen (.uf 1104 A4 [.int .u64 (.ofN n)])) n)) [.new ⟨1,.app (.bytes (.uf 1104 A4 [.int .u64 (.ofN n)])) (.sub l o n)⟩]))))
def cF (mb:Bool):DSum:=fun xs H=>match xs with
 | [.slice _ (.ro k) o n]=>some (aC5 mb (.ro k) o n H)
 | [.slice _ (.rw i) o n]=>match H[i]? with
  | some (some ⟨1,l⟩)=>some (aC5 mb l o n H)
  | _=>none
 | _=>none
theorem iU {C:A1} {f:FuncId} {mb:Bool} (h:fX C f mb):DSumOk C f (cF mb):=by
 intro xs H o ho
 have wkn:∀ {m:Bool} {r:Ref} {o n:Nat} {H:Hp} {K:AV→Hp→Prop},ACalls C f [.slice true r o n] H K→ACalls C f [.slice m r o n] H K:=fun h=>h.weaken fun ρ vs hv=>by
  simp only [VRs] at hv ⊢;obtain ⟨v,vs',r1,r2,r3⟩:=hv;exact ⟨v,vs',r1,Dj r2,r3⟩
 simp only [cF] at ho;split at ho
 ·rename_i m k o n;simp only [zN] at ho;subst ho;intro h1 h2 h3 h4;simp only [vB,vN,vL] at h1 h2 h3 h4;refine E1.new0 (C:=C) (args0:=[.slice m (.ro (vN C.G k)) (vN C.G o) (vN C.G n)]) (v0:=.slice mb (.rw 0) 0 ((A4 [.int .u64 (vN C.G n:Int)]).length+vN C.G n)) ?_ (by simp only [vL,vS,vVs,vV,vI];exact Fe h4 _) (by simp [A6,B0]) (by simp only [vVs,vV,vR]) (by simp [B0]) (by simp [vV,vR,vN,vS,vVs,vI,C2]);simp only [C6,vL,vS,vVs,vV,vI];exact wkn (h.ro _ _ _ (A8.1 h1) (A8.1 h2) h4)
 ·rename_i m i o n;split at ho
  ·rename_i l hi;simp only [zN] at ho;subst ho;intro h1 h2 h3 h4;simp only [vB,vN,vL] at h1 h2 h3 h4;have hf:∀ j,A6 j (vL C.G l)=true:=fun j=>B7 h3;have key:=wkn (m:=m) (h.rw (vL C.G l) (vN C.G o) (vN C.G n) hf (A8.1 h1) (A8.1 h2) h4);have rw':∀ (b:DBlk) (θ:List Nat),A6 0 (vL C.G b.cells)=true→I7 θ (C6 C.G b)=C6 C.G b:=fun b θ hb=>by simp only [I7,C6,B4 _ _ hb]
   have e1:=rw' ⟨1,l⟩;refine E1.fr (θ:=[i]) (by simp) rfl (fun k b hk=>?_) (by simp [A6,B0]) (by simp [vVs,vV,vR,rens,C2]) key (by simp) (by simp [B0]) (by simp [I1,hf,Fe h4]) (by simp [vV,vR,vN,vS,vVs,vI,C2,J5]) ?_
   ·match k with
    | 0=>simp at hk;subst hk;exact ⟨_,rfl,hf _,by simpa [I7,C6,B4 _ _ (hf 0)] using G4 (G:=C.G) hi⟩
    | k+1=>simp at hk
   ·have:=Cp (G:=C.G) hi
    simp only [C6] at this;simp [acts,Hop.act,I6,C6,T6,lay,P9,I7,vL,vS,vVs,vV,vI,vN,B4 _ _ (hf 0),B4 _ _ (Fe h4 0),this]
  ·simp at ho
 ·simp at ho
def Z1 (xs:List AV):Int:=match xs with
 | [.bool true]=>1
 | _=>0
def flagS:DSum:=fun xs H=>match xs with
 | [.bool b]=>some (.one (.slice false (.rw H.length) (.lit 0) (.lit 1)) [.new ⟨1,.of [.int .u8 (.uf 1114 Z1 [.bool b])]⟩])
 | _=>none
theorem w15 (b:Bool) (Q:Ex→List AV→Hp→Prop) (R:AV→Hp→Prop):vT G Q R (H5 (Dc zM [] [] [] 0) 200 10 Try.f83 [.bool (.var 1 b)] [] 1)=(
  (b=true→R (.slice false (.rw 0) 0 1) [some ⟨1,([.int .u8 1]:List AV)⟩])∧(b=false→R (.slice false (.rw 0) 0 1) [some ⟨1,([.int .u8 0]:List AV)⟩])):=by kernel_rfl
theorem w16 (b:Bool) (Q:Ex→List AV→Hp→Prop) (R:AV→Hp→Prop):vT G Q R (H5 (Dc zM [] [] [] 0) 200 10 Try.f73 [.bool (.var 1 b)] [] 1)=(
  (b=true→R (.slice false (.rw 0) 0 1) [some ⟨1,([.int .u8 1]:List AV)⟩])∧(b=false→R (.slice false (.rw 0) 0 1) [some ⟨1,([.int .u8 0]:List AV)⟩])):=by kernel_rfl
theorem dg00 :DGood (za G B) (Dc zM [] [] [] 0) []:=C7 (mix G B) (by kernel_rfl) .nil .nil
theorem flag15 (b:Bool):ACalls (za G B) 83 [.bool b] [] fun v' H'=>v'=.slice false (.rw 0) 0 1∧H'=[some ⟨1,[.int .u8 (Z1 [.bool b])]⟩]:=by
 have key:=C8 (C:=(za G B)) (fn:=Try.f83) (f:=83) (R:=fun v' H'=>v'=.slice false (.rw 0) 0 1∧H'=[some ⟨1,[.int .u8 (Z1 [.bool b])]⟩]) (dg00 G B) (by kernel_rfl) (by kernel_rfl) (by kernel_rfl) (fuel:=200) (n0:=10) (keep:=1) (args:=[.bool (.var 1 b)]) (H:=[]) (by
  rw [w15]
  exact ⟨fun h=>by rw [h];exact ⟨rfl,rfl⟩,fun h=>by rw [h];exact ⟨rfl,rfl⟩⟩)
 exact key.keep (by simp [B8]) (by simp [I1,A6,B0]) (by simp [B0]) (by simp)
theorem flag16 (b:Bool):ACalls (za G B) 73 [.bool b] [] fun v' H'=>v'=.slice false (.rw 0) 0 1∧H'=[some ⟨1,[.int .u8 (Z1 [.bool b])]⟩]:=by
 have key:=C8 (C:=(za G B)) (fn:=Try.f73) (f:=73) (R:=fun v' H'=>v'=.slice false (.rw 0) 0 1∧H'=[some ⟨1,[.int .u8 (Z1 [.bool b])]⟩]) (dg00 G B) (by kernel_rfl) (by kernel_rfl) (by kernel_rfl) (fuel:=200) (n0:=10) (keep:=1) (args:=[.bool (.var 1 b)]) (H:=[]) (by
  rw [w16]
  exact ⟨fun h=>by rw [h];exact ⟨rfl,rfl⟩,fun h=>by rw [h];exact ⟨rfl,rfl⟩⟩)
 exact key.keep (by simp [B8]) (by simp [I1,A6,B0]) (by simp [B0]) (by simp)
theorem nW {C:A1} {f:FuncId} (h:∀ b,ACalls C f [.bool b] [] fun v' H'=>v'=.slice false (.rw 0) 0 1∧H'=[some ⟨1,[.int .u8 (Z1 [.bool b])]⟩]):DSumOk C f flagS:=by
 intro xs H o ho;unfold flagS at ho;split at ho
 ·rename_i b;simp at ho;subst ho;refine E1.new0 (C:=C) (args0:=[.bool (vB C.G b)]) (v0:=.slice false (.rw 0) 0 1) ?_ (by simp [vL,vVs,vV,A6,B0]) rfl (by simp only [vVs,vV]) (by simp [B0]) (by simp [vV,vR,vN,C2]);simp only [C6,vL,vVs,vV,vI];exact h _
 ·simp at ho
end
end Go.Am
