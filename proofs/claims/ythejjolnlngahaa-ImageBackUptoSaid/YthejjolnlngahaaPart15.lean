/-
  ImageBack: places moved twice are moved by both: the plain law. Wire: the numbers' form, and how it is written.
-/
import Derived.Test.YthejjolnlngahaaPart14
import Derived.Test.YthejjolnlngahaaBase5
import Derived.Test.YthejjolnlngahaaProg
import Derived.Test.YthejjolnlngahaaBase3
namespace Go.Am
open Go.Proofs
set_option maxRecDepth 100000
theorem bN_set {b:List Nat} {o q x:Nat} (hq:q<b.length):bN (b.set q x) o=if o=q then x else bN b o:=by
 unfold bN;rw [List.getD_eq_getElem?_getD,List.getD_eq_getElem?_getD,qX];by_cases h:q=o
 ·rw [if_pos h,if_pos h.symm,if_pos hq];rfl
 ·rw [if_neg h,if_neg fun e=>h e.symm]
theorem Wc {b:List Nat} {a v o:Nat}:∀ {q:Nat},a+q≤b.length→bN (Bh b a v q) o=if a≤o∧o<a+q then v / 256^(o - a) % 256 else bN b o
 | 0,_=>by rw [Bh,if_neg (by omega)]
 | q+1,h=>by
  rw [Bh,bN_set (by rw [Wb];omega),Wc (q:=q) (by omega)];by_cases h1:o=a+q
  ·rw [if_pos h1,if_pos (by omega),show o - a=q by omega]
  ·rw [if_neg h1];by_cases h2:a≤o∧o<a+q
   ·rw [if_pos h2,if_pos (by omega)]
   ·rw [if_neg h2,if_neg (by omega)]
theorem iN {b c:List Nat} {a:Nat}:∀ {q:Nat},(∀ i,i<q→bN b (a+i)=bN c (a+i))→leN b a q=leN c a q
 | 0,_=>rfl
 | q+1,h=>by rw [leN,leN,iN (q:=q) fun i hi=>h i (by omega),h q (by omega)]
theorem aX5 (v q:Nat):v % 256^(q+1)=v % 256^q+v / 256^q % 256*256^q:=by
 rw [Nat.pow_succ,Nat.mod_mul,Nat.mul_comm (256^q)]
theorem sG {b:List Nat} {a v:Nat}:∀ {q:Nat},(∀ i,i<q→bN b (a+i)=v / 256^i % 256)→leN b a q=v % 256^q
 | 0,_=>by rw [leN,Nat.pow_zero,Nat.mod_one]
 | q+1,h=>by rw [leN,sG (q:=q) fun i hi=>h i (by omega),h q (by omega),aX5]
theorem sV {b:List Nat} {a:Nat} (hb:Ao b):∀ {q i:Nat},i<q→leN b a q / 256^i % 256=bN b (a+i)
 | 0,i,h=>absurd h (Nat.not_lt_zero i)
 | q+1,i,h=>by
  have hp:0<256^i:=Nat.pow_pos (by omega);by_cases e:i=q
  ·subst e;rw [leN,Nat.add_mul_div_right _ _ hp,Nat.div_eq_of_lt (bM hb i),Nat.zero_add,Nat.mod_eq_of_lt (vZ hb)]
  ·rw [leN,←sV hb (q:=q) (i:=i) (by omega)];obtain ⟨d,rfl⟩:∃ d,q=i+(d+1):=⟨q - i - 1,by omega⟩;rw [Nat.pow_add,Nat.pow_succ,show bN b (a+(i+(d+1)))*(256^i*(256^d*256))=(bN b (a+(i+(d+1)))*256^d*256)*256^i by simp [Nat.mul_comm,Nat.mul_left_comm,Nat.mul_assoc],Nat.add_mul_div_right _ _ hp,Nat.add_mul_mod_self_right]
def dI (cs:List AV) (n:Nat) (ps:List AV) (i:Nat):Nat:=C9 cs n (xP ps i) (hP ps i)
def aI (cs:List AV) (n:Nat) (ps:List AV) (i:Nat):Nat:=Bx cs n (xP ps i) (hP ps i)
def wI (ps:List AV) (i:Nat):Nat:=wdN (hP ps i)
def Pd (D:Nat→List Nat) (cs:List AV) (n:Nat) (ps:List AV) (i:Nat):Nat:=leN (D (dI cs n ps i)) (aI cs n ps i) (wI ps i)
def Dr (D:Nat→List Nat) (cs:List AV) (n z:Nat) (ps:List AV) (i:Nat):Nat:=(Pd D cs n ps i+z) % 4294967296
structure U8 (cs:List AV) (n:Nat) (ps:List AV) (m:Nat) (D:Nat→List Nat):Prop where
 spot:∀ i,i<m→pH cs n (xP ps i) (hP ps i)
 ord:∀ i j,i<j→j<m→xP ps i+P4 (hP ps i)≤xP ps j
 len:∀ j,j<n→(D j).length=sN cs j
 by_:∀ j,Ao (D j)
theorem jV {h:Bool}:P4 h=(wdN h:Int):=by unfold P4 wdN;split<;>rfl
section
variable {cs:List AV} {n:Nat} {ps:List AV} {m:Nat} {D:Nat→List Nat}
theorem U8.at (P:U8 cs n ps m D) {i:Nat} (hi:i<m):(aI cs n ps i:Int)=xP ps i - sA cs (dI cs n ps i)∧aI cs n ps i+wI ps i≤(D (dI cs n ps i)).length∧dI cs n ps i<n:=by
 have s:=P.spot i hi;have h1:=s.le;have h2:=s.fit;have e:(aI cs n ps i:Int)=xP ps i - sA cs (dI cs n ps i):=by unfold aI Bx dI;omega
 refine ⟨e,?_,s.lt⟩;have h3:=P.len _ s.lt;rw [jV] at h2;have h3:(D (dI cs n ps i)).length=sN cs (dI cs n ps i):=h3;have h2:xP ps i - sA cs (dI cs n ps i)+(wI ps i:Int)≤(sN cs (dI cs n ps i):Int):=h2;omega
theorem U8.disj (P:U8 cs n ps m D) {i k:Nat} (h:i<k) (hk:k<m) (e:dI cs n ps i=dI cs n ps k):aI cs n ps i+wI ps i≤aI cs n ps k:=by
 have h1:=(P.at (i:=i) (by omega)).1;have h2:=(P.at hk).1;have h3:=P.ord i k h hk;rw [jV] at h3;have h3:xP ps i+(wI ps i:Int)≤xP ps k:=h3;rw [e] at h1;omega
def Zm (cs:List AV) (n:Nat) (ps:List AV) (j b i:Nat):Prop:=dI cs n ps i=j∧aI cs n ps i≤b∧b<aI cs n ps i+wI ps i
theorem U8.one (P:U8 cs n ps m D) {j b i k:Nat} (hi:i<m) (hk:k<m) (h1:Zm cs n ps j b i) (h2:Zm cs n ps j b k):i=k:=by
 obtain ⟨a1,a2,a3⟩:=h1;obtain ⟨b1,b2,b3⟩:=h2;rcases Nat.lt_trichotomy i k with h | h | h
 ·have:=P.disj h hk (a1.trans b1.symm);omega
 ·exact h
 ·have:=P.disj h hi (b1.trans a1.symm);omega
theorem mvD_step {z k j:Nat}:J7 D cs n z ps (k+1) j=if j=dI cs n ps k then Bh (J7 D cs n z ps k (dI cs n ps k)) (aI cs n ps k) (Dr (J7 D cs n z ps k) cs n z ps k) (wI ps k) else J7 D cs n z ps k j:=rfl
theorem U8.out (P:U8 cs n ps m D) {z j b:Nat}:∀ {k:Nat},k≤m→(∀ i,i<k→¬Zm cs n ps j b i)→bN (J7 D cs n z ps k j) b=bN (D j) b
 | 0,_,_=>rfl
 | k+1,hk,h=>by
  have ih:=P.out (z:=z) (j:=j) (b:=b) (k:=k) (by omega) fun i hi=>h i (by omega);rw [mvD_step];split
  ·rename_i e;subst e;obtain ⟨_,p2,_⟩:=P.at (i:=k) (by omega);rw [Wc (by rw [mvD_len];exact p2),if_neg fun q=>h k (by omega) ⟨rfl,q.1,q.2⟩,ih]
  ·exact ih
theorem U8.v0 (P:U8 cs n ps m D) {z i:Nat} (hi:i<m):Pd (J7 D cs n z ps i) cs n ps i=Pd D cs n ps i:=by
 unfold Pd;refine iN fun q hq=>P.out (by omega) fun k hk h=>?_
 have:=P.disj hk hi h.1
 have:=h.2.2
 omega
theorem U8.hit (P:U8 cs n ps m D) {z j b i:Nat} (h:Zm cs n ps j b i):∀ {k:Nat},k≤m→i<k→bN (J7 D cs n z ps k j) b=Dr D cs n z ps i / 256^(b - aI cs n ps i) % 256
 | 0,_,hi=>absurd hi (Nat.not_lt_zero i)
 | k+1,hk,hi=>by
  rw [mvD_step];by_cases e:i=k
  ·subst e;obtain ⟨_,p2,_⟩:=P.at (i:=i) (by omega);rw [if_pos h.1.symm,Wc (by rw [mvD_len];exact p2),if_pos ⟨h.2.1,h.2.2⟩];unfold Dr;rw [P.v0 (by omega)]
  ·have ih:=P.hit (z:=z) h (k:=k) (by omega) (by omega);split
   ·rename_i e2;subst e2;obtain ⟨_,p2,_⟩:=P.at (i:=k) (by omega);rw [Wc (by rw [mvD_len];exact p2),if_neg,ih];intro q;exact e (P.one (by omega) (by omega) h ⟨rfl,q.1,q.2⟩)
   ·exact ih
theorem U8.bad (P:U8 cs n ps m D) {z i:Nat} (hi:i<m):Ie D cs n z ps i=(hP ps i&&decide (65535<Dr D cs n z ps i)):=by
 have e:Dr (J7 D cs n z ps i) cs n z ps i=Dr D cs n z ps i:=by unfold Dr;rw [P.v0 hi]
 show (hP ps i&&decide (65535<Dr (J7 D cs n z ps i) cs n z ps i))=_;rw [e]
theorem wZ {z:Nat}:I4 D cs n z ps m=m↔∀ i,i<m→Ie D cs n z ps i=false:=by
 obtain ⟨h1,h2,h3⟩:=K5 (p:=Ie D cs n z ps) (k:=m);unfold I4;constructor
 ·intro e i hi;exact h3 i (by rw [e];exact hi)
 ·intro h;rcases Nat.lt_or_ge (M4 (Ie D cs n z ps) m) m with q | q
  ·have:=h2 q
   rw [h _ q] at this;cases this
  ·omega
theorem U8.stop (P:U8 cs n ps m D) {z:Nat}:I4 D cs n z ps m=m↔∀ i,i<m→hP ps i=true→Dr D cs n z ps i≤65535:=by
 rw [wZ];constructor
 ·intro h i hi hh
  have:=h i hi
  rw [P.bad hi,hh,Bool.true_and] at this
  have:=yP this
  omega
 ·intro h i hi;rw [P.bad hi];cases hh:hP ps i with
  | false=>rfl
  | true=>
   have:=h i hi hh
   rw [Bool.true_and];exact yR (by omega)
theorem U8.vm (P:U8 cs n ps m D) {z i:Nat} (hs:I4 D cs n z ps m=m) (hi:i<m):Pd (J7 D cs n z ps m) cs n ps i=Dr D cs n z ps i:=by
 unfold Pd
 rw [sG (v:=Dr D cs n z ps i) fun q hq=>by
  rw [P.hit (z:=z) (i:=i) ⟨rfl,by omega,by omega⟩ (zA1 _) hi,show aI cs n ps i+q - aI cs n ps i=q by omega]]
 refine Nat.mod_eq_of_lt ?_;have h2:=P.stop.1 hs i hi;have h1:Dr D cs n z ps i<4294967296:=Nat.mod_lt _ (by omega);unfold wI wdN;cases hh:hP ps i with
 | true=>have:=h2 hh;show _<256^2;omega
 | false=>exact h1
theorem U8.mv (P:U8 cs n ps m D) {z:Nat}:U8 cs n ps m (J7 D cs n z ps m):=⟨P.spot,P.ord,fun j hj=>by rw [mvD_len,P.len j hj],fun j=>Ux P.by_ m j⟩
theorem U8.vz (P:U8 cs n ps m D) {z w i:Nat} (hs:I4 D cs n z ps m=m) (hi:i<m):Dr (J7 D cs n z ps m) cs n w ps i=Dr D cs n (z+w) ps i:=by
 show (Pd (J7 D cs n z ps m) cs n ps i+w) % 4294967296=(Pd D cs n ps i+(z+w)) % 4294967296;rw [P.vm hs hi];unfold Dr;omega
theorem bN_ext {b c:List Nat} (hl:b.length=c.length) (h:∀ o,bN b o=bN c o):b=c:=by
 refine List.ext_getElem hl fun i h1 h2=>?_
 have:=h i
 unfold bN at this;rw [List.getD_eq_getElem?_getD,List.getD_eq_getElem?_getD,yO h1,yO h2] at this;exact this
theorem U8.twice (P:U8 cs n ps m D) {z w:Nat} (hs:I4 D cs n z ps m=m):J7 (J7 D cs n z ps m) cs n w ps m=J7 D cs n (z+w) ps m:=by
 funext j;refine bN_ext (by simp only [mvD_len]) fun o=>?_;by_cases h:∃ i,i<m∧Zm cs n ps j o i
 ·obtain ⟨i,hi,h⟩:=h;rw [P.mv.hit h (zA1 _) hi,P.hit h (zA1 _) hi,P.vz hs hi]
 ·have h':∀ i,i<m→¬Zm cs n ps j o i:=fun i hi q=>h ⟨i,hi,q⟩;rw [P.mv.out (zA1 _) h',P.out (zA1 _) h',P.out (zA1 _) h']
theorem U8.twice_stop (P:U8 cs n ps m D) {z w:Nat} (hs:I4 D cs n z ps m=m):I4 (J7 D cs n z ps m) cs n w ps m=m↔I4 D cs n (z+w) ps m=m:=by
 rw [P.mv.stop,P.stop];constructor
 ·intro h i hi hh;rw [←P.vz hs hi];exact h i hi hh
 ·intro h i hi hh;rw [P.vz hs hi];exact h i hi hh
theorem U8.nil (P:U8 cs n ps m D):J7 D cs n 0 ps m=D∧I4 D cs n 0 ps m=m:=by
 have key:∀ i,Dr D cs n 0 ps i=Pd D cs n ps i∧(hP ps i=true→Pd D cs n ps i≤65535):=fun i=>by
  have:=bM (P.by_ (dI cs n ps i)) (a:=aI cs n ps i) (wI ps i)
  unfold Dr Pd;unfold wI wdN at this ⊢;cases hh:hP ps i with
  | true=>
   rw [hh] at this
   have:leN (D (dI cs n ps i)) (aI cs n ps i) 2<256^2:=this
   exact ⟨by show (leN (D (dI cs n ps i)) (aI cs n ps i) 2+0) % 4294967296=leN (D (dI cs n ps i)) (aI cs n ps i) 2;omega,fun _=>by show leN (D (dI cs n ps i)) (aI cs n ps i) 2≤65535;omega⟩
  | false=>
   rw [hh] at this
   have:leN (D (dI cs n ps i)) (aI cs n ps i) 4<256^4:=this
   exact ⟨by show (leN (D (dI cs n ps i)) (aI cs n ps i) 4+0) % 4294967296=leN (D (dI cs n ps i)) (aI cs n ps i) 4;omega,fun h=>by cases h⟩
 refine ⟨?_,P.stop.2 fun i _ hh=>?_⟩
 ·funext j;refine bN_ext (by simp only [mvD_len]) fun o=>?_;by_cases h:∃ i,i<m∧Zm cs n ps j o i
  ·obtain ⟨i,hi,h⟩:=h;rw [P.hit h (zA1 _) hi,(key i).1];unfold Pd;rw [h.1,sV (P.by_ j) (by have:=h.2;omega),show aI cs n ps i+(o - aI cs n ps i)=o by have:=h.2;omega]
  ·exact P.out (zA1 _) fun i hi q=>h ⟨i,hi,q⟩
 ·rw [(key i).1];exact (key i).2 hh
end
theorem aZ8 {cs cs1:List AV} {n:Nat} {w:Int} (hA:∀ j,j<n→sA cs1 j=sA cs j+w) (hN:∀ j,j<n→sN cs1 j=sN cs j) (x:Int) (h:Bool):C9 cs1 n (x+w) h=C9 cs n x h:=by
 refine Ko fun k hk=>?_;unfold Eb;rw [hA k hk,hN k hk,show x+w - (sA cs k+w)=x - sA cs k by omega];congr 1;exact decide_eq_decide.2 (by omega)
theorem mvD_up {D:Nat→List Nat} {cs cs1 ps ps1:List AV} {n m z:Nat} {w:Int} (hA:∀ j,j<n→sA cs1 j=sA cs j+w) (hN:∀ j,j<n→sN cs1 j=sN cs j) (hX:∀ i,i<m→xP ps1 i=xP ps i+w) (hH:∀ i,i<m→hP ps1 i=hP ps i) (hd:∀ i,i<m→dI cs n ps i<n):∀ k,k≤m→J7 D cs1 n z ps1 k=J7 D cs n z ps k∧(k<m→Ie D cs1 n z ps1 k=Ie D cs n z ps k):=by
 have e:∀ i,i<m→dI cs1 n ps1 i=dI cs n ps i∧aI cs1 n ps1 i=aI cs n ps i∧wI ps1 i=wI ps i:=fun i hi=>by
  have e1:dI cs1 n ps1 i=dI cs n ps i:=by unfold dI;rw [hX i hi,hH i hi,aZ8 hA hN]
  refine ⟨e1,?_,by unfold wI;rw [hH i hi]⟩;show (xP ps1 i - sA cs1 (dI cs1 n ps1 i)).toNat=(xP ps i - sA cs (dI cs n ps i)).toNat;rw [e1,hX i hi,hA _ (hd i hi),show xP ps i+w - (sA cs (dI cs n ps i)+w)=xP ps i - sA cs (dI cs n ps i) by omega]
 have v:∀ (D:Nat→List Nat) i,i<m→Dr D cs1 n z ps1 i=Dr D cs n z ps i:=fun D i hi=>by
  obtain ⟨e1,e2,e3⟩:=e i hi;unfold Dr Pd;rw [e1,e2,e3]
 have main:∀ k,k≤m→J7 D cs1 n z ps1 k=J7 D cs n z ps k:=by
  intro k
  induction k with
  | zero=>intro _;rfl
  | succ k ih=>
   intro hk;obtain ⟨e1,e2,e3⟩:=e k (by omega);funext j;rw [mvD_step,mvD_step,ih (by omega),e1,e2,e3,v _ k (by omega)]
 intro k hk;refine ⟨main k hk,fun hlt=>?_⟩;show (hP ps1 k&&decide (65535<Dr (J7 D cs1 n z ps1 k) cs1 n z ps1 k))=(hP ps k&&decide (65535<Dr (J7 D cs n z ps k) cs n z ps k));rw [main k hk,v _ k hlt,hH k hlt]
theorem aF0 {D:Nat→List Nat} {cs cs1 ps ps1:List AV} {n m z:Nat} (h:∀ k,k<m→Ie D cs1 n z ps1 k=Ie D cs n z ps k):I4 D cs1 n z ps1 m=I4 D cs n z ps m:=Ko h
section
variable (G:Nat→List AV) (B:Nat)
theorem mix :((⟨Try.prog,G,B⟩:A0)).P.follows .mixedOrders=true:=by kernel_rfl
def Qc:Nat→Nat→List UInt8
 | 0,_=>[]
 | k+1,n=>if n<128 then [UInt8.ofNat n] else UInt8.ofNat (n % 128+128)::Qc k (n / 128)
def Wu (n:Nat):List UInt8:=Qc 10 n
theorem rZ {k n:Nat} (h:n<128):Qc (k+1) n=[UInt8.ofNat n]:=by simp [Qc,h]
theorem aJ2 {k n:Nat} (h:¬n<128):Qc (k+1) n=UInt8.ofNat (n % 128+128)::Qc k (n / 128):=by simp [Qc,h]
theorem sB:∀ (k n:Nat),(Qc k n).length≤k
 | 0,_=>zA1 _
 | k+1,n=>by
  have:=sB k (n / 128)
  unfold Qc
  split<;>simp<;>omega
theorem nfd_ne {k n:Nat}:Qc (k+1) n≠[]:=by unfold Qc;split<;>simp
def inU64 (xs:List AV):Bool:=match xs with
 | [.int _ n]=>decide (0≤n)&&decide (n≤18446744073709551615)
 | _=>false
def A6 (xs:List AV):List UInt8:=match xs with
 | [.int _ n]=>Wu n.toNat
 | _=>[]
def L7 (xs:List AV):List UInt8:=(A6 xs).dropLast
def Bk (xs:List AV):Int:=match (A6 xs).getLast? with
 | some b=>b.toNat
 | none=>0
theorem lD {n:Nat} (h:n<256):(UInt8.ofNat n).toNat=n:=by simp [UInt8.toNat_ofNat'];omega
theorem Et (a b:List UInt8):B3 (a++b)=B3 a++B3 b:=by simp [B3]
theorem R1 (a:List UInt8):(B3 a).length=a.length:=by simp [B3]
theorem Ss {n:Nat} (h:n<256):B3 [UInt8.ofNat n]=[.int .u8 (n:Int)]:=by simp [B3,lD h]
theorem Bs (k:Nat):∀ (a:List UInt8),A3 k (B3 a)=true
 | []=>rfl
 | x::a=>by simp only [B3,List.map_cons,A3,A8,Bool.true_and];exact Bs k a
theorem Yg (θ:List Nat) (a:List UInt8):rens θ (B3 a)=B3 a:=B9 _ _ (Bs 0 a)
theorem Iu {n:Int} (h:0≤n∧n≤18446744073709551615):IntKind.u64.wrap n=n:=by
 simp only [IntKind.wrap,IntKind.signed,IntKind.bits,Bool.false_and,Bool.false_eq_true,if_false];omega
theorem Hh (n:Int):IntKind.u8.wrap n=n % 256:=by
 simp only [IntKind.wrap,IntKind.signed,IntKind.bits,Bool.false_and,Bool.false_eq_true,if_false];omega
theorem or128:∀ b:BitVec 8,(b ||| 128#8).toNat=b.toNat % 128+128:=by decide +kernel
theorem dig9 (m:Nat):Gp .u8 (IntKind.wrap .u8 (m:Int)) 128=((m % 128+128:Nat):Int):=by
 show IntKind.u8.wrap (((BitVec.ofInt 8 (IntKind.wrap .u8 (m:Int)) ||| BitVec.ofInt 8 128).toNat:Nat):Int)=_
 have e1:(BitVec.ofInt 8 (IntKind.wrap .u8 (m:Int)))=BitVec.ofNat 8 m:=by
  rw [Hh];apply BitVec.eq_of_toNat_eq;simp [BitVec.toNat_ofInt];omega
 have e2:BitVec.ofInt 8 128=128#8:=by decide
 rw [e1,e2,or128,Hh];simp [BitVec.toNat_ofNat];omega
theorem shr7 (m:Nat):O0 .u64 (m:Int) 7=((m / 128:Nat):Int):=by
 unfold O0
 have:(2:Int)^(min (7:Int).toNat IntKind.u64.bits)=128:=by decide
 rw [this,Int.fdiv_eq_ediv_of_nonneg _ (by omega)];omega
theorem dig12 (m:Nat):IntKind.wrap .u8 (IntKind.wrap .u64 (Int.tmod (m:Int) 128+128))=((m % 128+128:Nat):Int):=by
 have:Int.tmod (m:Int) 128=((m % 128:Nat):Int):=by rw [Int.tmod_eq_emod_of_nonneg (by omega)];omega
 rw [this,Iu (by omega),Hh];omega
theorem div12 {m:Nat} (h:m≤18446744073709551615):IntKind.wrap .u64 (Int.tdiv (m:Int) 128)=((m / 128:Nat):Int):=by
 have:Int.tdiv (m:Int) 128=((m / 128:Nat):Int):=by rw [Int.tdiv_eq_ediv_of_nonneg (by omega)];omega
 rw [this,Iu (by omega)]
theorem nb9 (s:List AV) (m:Int) (l:Nat) (Q:Ex→List AV→Hp→Prop) (R:AV→Hp→Prop):vT G Q R (G3 (Dc Try.prog [] [] [] 0) 200 10 0 (A2 Try.f56 0) 20 [0,3] [.int .u64 (.var 1 m),.slice false (.rw 0) (.lit 0) (.var 2 l)] [some ⟨1,.var 3 s⟩])=(
  (decide ((m:Int)>127)=true→leB (l+1) 140737488355328=true∧Nat.beq (List.length s) l=true∧Q .normal [.int .u64 (O0 .u64 m 7),.slice false (.rw 2) 0 (l+1)] [none,some ⟨1,([.int .u8 (Gp .u8 (IntKind.wrap .u8 m) 128)]:List AV)⟩,some ⟨1,(s++([.int .u8 (Gp .u8 (IntKind.wrap .u8 m) 128)]:List AV))⟩])∧(decide ((m:Int)>127)=false→Q (.exit 0) [.int .u64 m,.slice false (.rw 0) 0 l] [some ⟨1,s⟩])):=by kernel_rfl
theorem nb12 (s:List AV) (m:Int) (l:Nat) (Q:Ex→List AV→Hp→Prop) (R:AV→Hp→Prop):vT G Q R (G3 (Dc Try.prog [] [] [] 0) 200 10 0 (A2 Try.f71 0) 20 [0,3] [.int .u64 (.var 1 m),.slice true (.rw 0) (.lit 0) (.var 2 l)] [some ⟨1,.var 3 s⟩])=(
  (decide ((m:Int)>127)=true→leB (l+1) 140737488355328=true∧Nat.beq (List.length s) l=true∧Q .normal [.int .u64 (IntKind.wrap .u64 (Int.tdiv m 128)),.slice true (.rw 2) 0 (l+1)] [none,some ⟨1,([.int .u8 (IntKind.wrap .u8 (IntKind.wrap .u64 (Int.tmod m 128+128)))]:List AV)⟩,some ⟨1,(s++([.int .u8 (IntKind.wrap .u8 (IntKind.wrap .u64 (Int.tmod m 128+128)))]:List AV))⟩])∧(decide ((m:Int)>127)=false→Q (.exit 0) [.int .u64 m,.slice true (.rw 0) 0 l] [some ⟨1,s⟩])):=by kernel_rfl
theorem dg0 :L6 (⟨Try.prog,G,B⟩:A0) (Dc Try.prog [] [] [] 0) []:=D7 (mix G B) (by kernel_rfl) .nil .nil
def JN (mb:Bool) (n:Nat) (j:Nat) (vs:List AV) (H:Hp):Prop:=∃ (m:Nat) (s:List UInt8),m<128^(j+1)∧s.length+j=9∧m≤18446744073709551615∧s++Qc (j+1) m=Wu n∧vs=[.int .u64 (m:Int),.slice mb (.rw 0) 0 s.length]∧H=[some ⟨1,B3 s⟩]
def JX (mb:Bool) (n:Nat) (vs:List AV) (H:Hp):Prop:=∃ (m:Nat) (s:List UInt8),m<128∧s.length≤9∧s++[UInt8.ofNat m]=Wu n∧vs=[.int .u64 (m:Int),.slice mb (.rw 0) 0 s.length]∧H=[some ⟨1,B3 s⟩]
theorem yA:(18446744073709551615:Nat)<128^10:=by decide
theorem tK {mb:Bool} {n m j:Nat} {s:List UInt8} {b:Option Blk} {c:Option Blk} (h:¬m<128) (h1:m<128^(j+1)) (h2:s.length+j=9) (h3:m≤18446744073709551615) (h4:s++Qc (j+1) m=Wu n) :
  ∃ k',k'<j∧(JN mb n k' [.int .u64 ((m / 128:Nat):Int),.slice mb (.rw 2) 0 (s.length+1)] [b,c,some ⟨1,B3 s++[.int .u8 ((m % 128+128:Nat):Int)]⟩]∨∃ vs'' H'',JN mb n k' vs'' H''∧C2 0 vs'' H'' [.int .u64 ((m / 128:Nat):Int),.slice mb (.rw 2) 0 (s.length+1)] [b,c,some ⟨1,B3 s++[.int .u8 ((m % 128+128:Nat):Int)]⟩]):=by
 match j,h1,h2,h4 with
 | 0,h1,_,_=>exact absurd h1 (by simpa using h)
 | j+1,h1,h2,h4=>
  refine ⟨j,by omega,.inr ⟨_,_,⟨m / 128,s++[UInt8.ofNat (m % 128+128)],?_,by simp;omega,by omega,?_,rfl,rfl⟩,?_⟩⟩
  ·rw [Nat.div_lt_iff_lt_mul (by omega)];rw [Nat.pow_succ] at h1;exact h1
  ·rw [←h4,aJ2 h];simp
  ·rw [Et,Ss (by omega)];refine C2.renM (θ:=[2]) (by simp) (fun i hi=>by omega) (by decide) ⟨⟨?_,?_⟩,trivial⟩ (by simp [A3,A8]) (by simp [rens,C0,wk])
   ·rw [←Ss (by omega),←Et];exact Bs _ _
   ·rw [←Ss (by omega),←Et,Yg];rfl
theorem nl9 (n:Nat) (hn:n≤18446744073709551615):AWp (⟨Try.prog,G,B⟩:A0) 0 (.loop (A2 Try.f56 0)) (fl 20 [0,3] [.int .u64 (n:Int),.slice false (.rw 0) 0 0]) [some ⟨1,[]⟩] (lv 20 [0,3] fun e vs H=>e=.exit 0∧JX false n vs H):=by
 refine Bf (JN false n) 9 ⟨n,[],by have:=yA;omega,rfl,hn,rfl,rfl,rfl⟩ ?_;rintro j vs H ⟨m,s,h1,h2,h3,h4,rfl,rfl⟩;refine D1 (C:=(⟨Try.prog,G,B⟩:A0)) (dg0 G B) (fuel:=200) (n0:=10) (m:=0) (c:=A2 Try.f56 0) (vs:=[.int .u64 (.var 1 (m:Int)),.slice false (.rw 0) (.lit 0) (.var 2 s.length)]) (H:=[some ⟨1,.var 3 (B3 s)⟩]) (by simp) ?_;rw [nb9,dig9,shr7];refine ⟨fun h=>⟨yM (by omega),by rw [R1];exact zA3 _,tK (by have:=yL h;omega) h1 h2 h3 h4⟩,fun h=>?_⟩;have h:=yP h;have hm:m<128:=by omega
 rw [rZ hm] at h4;exact ⟨rfl,m,s,hm,by omega,h4,rfl,rfl⟩
theorem nl12 (n:Nat) (hn:n≤18446744073709551615):AWp (⟨Try.prog,G,B⟩:A0) 0 (.loop (A2 Try.f71 0)) (fl 20 [0,3] [.int .u64 (n:Int),.slice true (.rw 0) 0 0]) [some ⟨1,[]⟩] (lv 20 [0,3] fun e vs H=>e=.exit 0∧JX true n vs H):=by
 refine Bf (JN true n) 9 ⟨n,[],by have:=yA;omega,rfl,hn,rfl,rfl,rfl⟩ ?_;rintro j vs H ⟨m,s,h1,h2,h3,h4,rfl,rfl⟩;refine D1 (C:=(⟨Try.prog,G,B⟩:A0)) (dg0 G B) (fuel:=200) (n0:=10) (m:=0) (c:=A2 Try.f71 0) (vs:=[.int .u64 (.var 1 (m:Int)),.slice true (.rw 0) (.lit 0) (.var 2 s.length)]) (H:=[some ⟨1,.var 3 (B3 s)⟩]) (by simp) ?_;rw [nb12,dig12,div12 h3];refine ⟨fun h=>⟨yM (by omega),by rw [R1];exact zA3 _,tK (by have:=yL h;omega) h1 h2 h3 h4⟩,fun h=>?_⟩;have h:=yP h;have hm:m<128:=by omega
 rw [rZ hm] at h4;exact ⟨rfl,m,s,hm,by omega,h4,rfl,rfl⟩
def nL (mb:Bool):DL:=⟨0,20,[0,3],fun vs H=>match mb,vs,H with
 | false,[.int .u64 n,.slice false (.rw 0) (.lit 0) (.lit 0)],[some ⟨1,.of []⟩]=>
  some (.chk (.uf 1101 inU64 [.int .u64 n]) (.one (.exit 0) [.int .u64 (.uf 1103 Bk [.int .u64 n]),.slice false (.rw 0) (.lit 0) (.slen (.uf 1102 L7 [.int .u64 n]))] [some ⟨1,.bytes (.uf 1102 L7 [.int .u64 n])⟩]))
 | true,[.int .u64 n,.nils],[]=>
  some (.chk (.uf 1101 inU64 [.int .u64 n]) (.one (.exit 0) [.int .u64 (.uf 1103 Bk [.int .u64 n]),.slice true (.rw 0) (.lit 0) (.slen (.uf 1102 L7 [.int .u64 n]))] [some ⟨1,.bytes (.uf 1102 L7 [.int .u64 n])⟩]))
 | _,_,_=>none⟩
theorem JX_eq {mb:Bool} {n:Int} {vs:List AV} {H:Hp} {k:IntKind} (h:JX mb n.toNat vs H):vs=[.int .u64 (Bk [.int k n]),.slice mb (.rw 0) 0 (L7 [.int k n]).length]∧H=[some ⟨1,B3 (L7 [.int k n])⟩]:=by
 obtain ⟨m,s,h1,h2,h3,rfl,rfl⟩:=h;have e1:L7 [.int k n]=s:=by simp only [L7,A6];rw [←h3,List.dropLast_concat]
 have e2:Bk [.int k n]=(m:Int):=by simp only [Bk,A6];rw [←h3];simp [lD (show m<256 by omega)]
 rw [e1,e2];exact ⟨rfl,rfl⟩
theorem nQ {k:IntKind} {n:Int} (h:inU64 [.int k n]=true):n=(n.toNat:Int)∧n.toNat≤18446744073709551615:=by
 simp only [inU64,zN,xE] at h;omega
theorem nL9_ok :H5 (⟨Try.prog,G,B⟩:A0) 0 (A2 Try.f56 0) (nL false):=by
 refine .of fun vs H o ho n Q hQ=>?_;simp only [nL] at ho;split at ho
 ·rename_i n heq;simp only [zK] at ho;subst ho;obtain ⟨h1,h2⟩:=hQ;simp only [vB,vVs,vV] at h1;obtain ⟨e1,e2⟩:=nQ h1;refine lone ?_ h2;simp only [nL,vVs,vV,vR,vN,vL,B7,List.map_cons,List.map_nil,Option.map_some,D8,vI,vS];have key:=nl9 G B _ e2;rw [←e1] at key;refine key.lmono ?_;rintro e vs H ⟨g1,g2⟩;obtain ⟨g3,g4⟩:=JX_eq (k:=.u64) g2;exact ⟨g1,by rw [g3];simp [wk],g4⟩
 ·rename_i heq;cases heq
 ·simp at ho
theorem aX0 :H5 (⟨Try.prog,G,B⟩:A0) 0 (A2 Try.f71 0) (nL true):=by
 refine .of fun vs H o ho n Q hQ=>?_;simp only [nL] at ho;split at ho
 ·rename_i heq;cases heq
 ·rename_i n heq;simp only [zK] at ho;subst ho;obtain ⟨h1,h2⟩:=hQ;simp only [vB,vVs,vV] at h1;obtain ⟨e1,e2⟩:=nQ h1;refine lone ?_ h2;simp only [nL,vVs,vV,vR,vN,vL,B7,List.map_cons,List.map_nil,Option.map_some,D8,vI,vS];have key:=nl12 G B _ e2;rw [←e1] at key
  have key:=AWp.nil (C:=(⟨Try.prog,G,B⟩:A0)) (H:=[]) (H':=[]) (F:=fl 20 [0,3] [.int .u64 (vI G n),.slice true (.rw 0) 0 0]) (F':=fl 20 [0,3] [.int .u64 (vI G n),.nils]) 1 (by simp) (aJ0 (vs:=[.int .u64 (vI G n),.slice true (.rw 0) 0 0]) (vs':=[.int .u64 (vI G n),.nils]) ⟨iK _,.inr ⟨rfl,rfl⟩,trivial⟩) trivial key;refine key.lmono ?_;rintro e vs H ⟨g1,g2⟩;obtain ⟨g3,g4⟩:=JX_eq (k:=.u64) g2;exact ⟨g1,by rw [g3];simp [wk],g4⟩
 ·simp at ho
theorem dg9 :L6 (⟨Try.prog,G,B⟩:A0) (Dc Try.prog [] [] [nL false] 0) (B5 (C6 Try.f56)):=D7 (mix G B) (by kernel_rfl) .nil (.cast (.cons (i:=0) (by kernel_rfl) rfl (nL9_ok G B) .nil) (by kernel_rfl))
theorem dg12 :L6 (⟨Try.prog,G,B⟩:A0) (Dc Try.prog [] [] [nL true] 0) (B5 (C6 Try.f71)):=D7 (mix G B) (by kernel_rfl) .nil (.cast (.cons (i:=0) (by kernel_rfl) rfl (aX0 G B) .nil) (by kernel_rfl))
theorem w9 (n:Int) (Q:Ex→List AV→Hp→Prop) (R:AV→Hp→Prop):vT G Q R (G0 (Dc Try.prog [] [] [nL false] 0) 200 10 Try.f56 [.int .u64 (.var 1 n)] [] 3)=(
  inU64 [.int .u64 n]=true∧leB (List.length (L7 [.int .u64 n])+1) 140737488355328=true∧Nat.beq (List.length (L7 [.int .u64 n])) (List.length (L7 [.int .u64 n]))=true∧R (.slice false (.rw 2) 0 (List.length (L7 [.int .u64 n])+1)) [none,some ⟨1,([.int .u8 (IntKind.wrap .u8 (Bk [.int .u64 n]))]:List AV)⟩,some ⟨1,((B3 (L7 [.int .u64 n]))++([.int .u8 (IntKind.wrap .u8 (Bk [.int .u64 n]))]:List AV))⟩]):=by kernel_rfl
theorem w12 (n:Int) (Q:Ex→List AV→Hp→Prop) (R:AV→Hp→Prop):vT G Q R (G0 (Dc Try.prog [] [] [nL true] 0) 200 10 Try.f71 [.int .u64 (.var 1 n)] [] 3)=(
  inU64 [.int .u64 n]=true∧leB (List.length (L7 [.int .u64 n])+1) 140737488355328=true∧Nat.beq (List.length (L7 [.int .u64 n])) (List.length (L7 [.int .u64 n]))=true∧R (.slice true (.rw 2) 0 (List.length (L7 [.int .u64 n])+1)) [none,some ⟨1,([.int .u8 (IntKind.wrap .u8 (Bk [.int .u64 n]))]:List AV)⟩,some ⟨1,((B3 (L7 [.int .u64 n]))++([.int .u8 (IntKind.wrap .u8 (Bk [.int .u64 n]))]:List AV))⟩]):=by kernel_rfl
theorem aZ {k:IntKind} (n:Int):B3 (L7 [.int k n])++([.int .u8 (IntKind.wrap .u8 (Bk [.int k n]))]:List AV)=B3 (A6 [.int k n])∧(L7 [.int k n]).length+1=(A6 [.int k n]).length:=by
 have h:A6 [.int k n]≠[]:=nfd_ne;have e:L7 [.int k n]++[(A6 [.int k n]).getLast h]=A6 [.int k n]:=List.dropLast_concat_getLast h;have e2:Bk [.int k n]=(((A6 [.int k n]).getLast h).toNat:Int):=by simp only [Bk,List.getLast?_eq_some_getLast h]
 have h3:=((A6 [.int k n]).getLast h).toNat_lt;refine ⟨?_,?_⟩
 ·rw [e2,Hh]
  have:((((A6 [.int k n]).getLast h).toNat:Int)) % 256=(((A6 [.int k n]).getLast h).toNat:Int):=by omega
  rw [this]
  conv=>rhs;rw [←e,Et]
  rfl
 ·have:=congrArg List.length e
  simpa using this
theorem iL (n:Nat):(Wu n).length≤10:=sB 10 n
theorem Dl (xs:List AV):(A6 xs).length≤10:=by
 unfold A6;split
 ·exact iL _
 ·simp
def eV (mb:Bool):DSum:=fun xs H=>match xs with
 | [.int .u64 n]=>some (.chk (.uf 1101 inU64 [.int .u64 n]) (.one (.slice mb (.rw H.length) (.lit 0) (.slen (.uf 1104 A6 [.int .u64 n]))) [.new ⟨1,.bytes (.uf 1104 A6 [.int .u64 n])⟩]))
 | _=>none
theorem back3 {f:FuncId} {args:List AV} {C:A0} {mb:Bool} {a:List UInt8} (h:ACalls C f args [] fun v' H'=>v'=.slice mb (.rw 2) 0 a.length∧∃ b c,H'.take 3=[b,c,some ⟨1,B3 a⟩]) :
  ACalls C f args [] fun v' H'=>v'=.slice mb (.rw 0) 0 a.length∧H'=[some ⟨1,B3 a⟩]:=by
 refine h.view fun v H' ⟨e1,b,c,e2⟩=>⟨_,_,⟨rfl,rfl⟩,?_⟩
 have e:H'=b::c::some ⟨1,B3 a⟩::H'.drop 3:=by
  have:=List.take_append_drop 3 H'
  rw [e2] at this;exact this.symm
 rw [e,e1];exact C2.renM (θ:=[2]) (by simp) (fun i hi=>absurd hi (by simp)) (by decide) ⟨⟨Bs _ _,by rw [Yg];rfl⟩,trivial⟩ (by simp [A3,A8]) (by simp [rens,C0,wk])
theorem num9 (n:Int) (h:inU64 [.int .u64 n]=true):ACalls (⟨Try.prog,G,B⟩:A0) 56 [.int .u64 n] [] fun v' H'=>v'=.slice false (.rw 0) 0 (A6 [.int .u64 n]).length∧H'=[some ⟨1,B3 (A6 [.int .u64 n])⟩]:=by
 obtain ⟨g1,g2⟩:=aZ (k:=.u64) n;have hlen:=Dl [.int .u64 n]
 exact back3 (C1 (C:=(⟨Try.prog,G,B⟩:A0)) (f:=56) (R:=fun v' H'=>v'=.slice false (.rw 2) 0 (A6 [.int .u64 n]).length∧∃ b c,H'=[b,c,some ⟨1,B3 (A6 [.int .u64 n])⟩]) (dg9 G B) (by kernel_rfl) (by kernel_rfl) (by kernel_rfl) (fuel:=200) (n0:=10) (keep:=3) (args:=[.int .u64 (.var 1 n)]) (H:=[]) (by
  rw [w9,g1,g2]
  exact ⟨h,B2.2 (by omega),zA3 _,rfl,_,_,rfl⟩))
theorem num12 (n:Int) (h:inU64 [.int .u64 n]=true):ACalls (⟨Try.prog,G,B⟩:A0) 71 [.int .u64 n] [] fun v' H'=>v'=.slice true (.rw 0) 0 (A6 [.int .u64 n]).length∧H'=[some ⟨1,B3 (A6 [.int .u64 n])⟩]:=by
 obtain ⟨g1,g2⟩:=aZ (k:=.u64) n;have hlen:=Dl [.int .u64 n]
 exact back3 (C1 (C:=(⟨Try.prog,G,B⟩:A0)) (f:=71) (R:=fun v' H'=>v'=.slice true (.rw 2) 0 (A6 [.int .u64 n]).length∧∃ b c,H'=[b,c,some ⟨1,B3 (A6 [.int .u64 n])⟩]) (dg12 G B) (by kernel_rfl) (by kernel_rfl) (by kernel_rfl) (fuel:=200) (n0:=10) (keep:=3) (args:=[.int .u64 (.var 1 n)]) (H:=[]) (by
  rw [w12,g1,g2]
  exact ⟨h,B2.2 (by omega),zA3 _,rfl,_,_,rfl⟩))
theorem Ws {C:A0} {f:FuncId} {mb:Bool} (h:∀ n:Int,inU64 [.int .u64 n]=true→ACalls C f [.int .u64 n] [] fun v' H'=>v'=.slice mb (.rw 0) 0 (A6 [.int .u64 n]).length∧H'=[some ⟨1,B3 (A6 [.int .u64 n])⟩]):D4 C f (eV mb):=by
 intro xs H o ho;unfold eV at ho;split at ho
 ·rename_i n;simp at ho;subst ho;intro hb;simp only [vB,vVs,vV] at hb;refine E0.new0 (C:=C) (args0:=[.int .u64 (vI C.G n)]) (v0:=.slice mb (.rw 0) 0 (A6 [.int .u64 (vI C.G n)]).length) ?_ (by simp only [vL,vS,vVs,vV];exact Bs _ _) rfl (by simp only [vVs,vV]) (by simp [A8]) (by simp [vV,vR,vN,vS,vVs,C0]);simp only [D8,vL,vS,vVs,vV];exact h _ hb
 ·simp at ho
end
def nums:List (Nat×DSum):=[(56,eV false),(71,eV true)]
theorem rU (G:Nat→List AV) (B:Nat):Q8 (⟨Try.prog,G,B⟩:A0) nums:=.cons (Ws (num9 G B)) (.cons (Ws (num12 G B)) .nil)
theorem C4 {k:Nat}:∀ {l:List AV},u8s l=true→A3 k l=true
 | [],_=>rfl
 | x::l,h=>by
  simp only [u8s,List.all_cons,zN] at h
  have:=C4 (k:=k) (l:=l) h.2
  cases x<;>simp_all [A3,A8,Fc]
theorem E4 {a b:List AV}:u8s (a++b)=(u8s a&&u8s b):=by simp [u8s]
theorem L8 {l:List AV} (h:u8s l=true):cellsB l=true:=by
 simp only [u8s,cellsB,xM] at h ⊢;intro v hv
 have:=h v hv
 cases v<;>simp_all [Fc,isCell]
section
variable (G:Nat→List AV) (B:Nat)
theorem w8a (k o n:Nat) (Q:Ex→List AV→Hp→Prop) (R:AV→Hp→Prop):vT G Q R (G0 (Dc Try.prog [] nums [] 0) 200 10 Try.f82 [.slice true (.ro (.var 1 k)) (.var 2 o) (.var 3 n)] [] 2)=(
  inU64 [.int .u64 (IntKind.wrap .u64 ((n:Int)))]=true∧leB (o+n) (List.length (G k))=true∧cellsB (A9 (G k) o n)=true∧leB (List.length (A6 [.int .u64 (IntKind.wrap .u64 ((n:Int)))])+n) 140737488355328=true∧Nat.beq (List.length (A6 [.int .u64 (IntKind.wrap .u64 ((n:Int)))])) (List.length (A6 [.int .u64 (IntKind.wrap .u64 ((n:Int)))]))=true∧R (.slice false (.rw 1) 0 (List.length (A6 [.int .u64 (IntKind.wrap .u64 ((n:Int)))])+n)) [none,some ⟨1,((B3 (A6 [.int .u64 (IntKind.wrap .u64 ((n:Int)))]))++(A9 (G k) o n))⟩]):=by kernel_rfl
theorem w8b (s:List AV) (o n:Nat) (Q:Ex→List AV→Hp→Prop) (R:AV→Hp→Prop):vT G Q R (G0 (Dc Try.prog [] nums [] 1) 200 10 Try.f82 [.slice true (.rw 0) (.var 2 o) (.var 3 n)] [some ⟨1,.var 1 s⟩] 3)=(
  inU64 [.int .u64 (IntKind.wrap .u64 ((n:Int)))]=true∧leB (o+n) (List.length s)=true∧cellsB (A9 s o n)=true∧leB (List.length (A6 [.int .u64 (IntKind.wrap .u64 ((n:Int)))])+n) 140737488355328=true∧Nat.beq (List.length (A6 [.int .u64 (IntKind.wrap .u64 ((n:Int)))])) (List.length (A6 [.int .u64 (IntKind.wrap .u64 ((n:Int)))]))=true∧R (.slice false (.rw 2) 0 (List.length (A6 [.int .u64 (IntKind.wrap .u64 ((n:Int)))])+n)) [some ⟨1,s⟩,none,some ⟨1,((B3 (A6 [.int .u64 (IntKind.wrap .u64 ((n:Int)))]))++(A9 s o n))⟩]):=by kernel_rfl
theorem w11a (k o n:Nat) (Q:Ex→List AV→Hp→Prop) (R:AV→Hp→Prop):vT G Q R (G0 (Dc Try.prog [] nums [] 0) 200 10 Try.f72 [.slice true (.ro (.var 1 k)) (.var 2 o) (.var 3 n)] [] 2)=(
  inU64 [.int .u64 (IntKind.wrap .u64 ((n:Int)))]=true∧leB (o+n) (List.length (G k))=true∧cellsB (A9 (G k) o n)=true∧leB (List.length (A6 [.int .u64 (IntKind.wrap .u64 ((n:Int)))])+n) 140737488355328=true∧Nat.beq (List.length (A6 [.int .u64 (IntKind.wrap .u64 ((n:Int)))])) (List.length (A6 [.int .u64 (IntKind.wrap .u64 ((n:Int)))]))=true∧R (.slice true (.rw 1) 0 (List.length (A6 [.int .u64 (IntKind.wrap .u64 ((n:Int)))])+n)) [none,some ⟨1,((B3 (A6 [.int .u64 (IntKind.wrap .u64 ((n:Int)))]))++(A9 (G k) o n))⟩]):=by kernel_rfl
theorem w11b (s:List AV) (o n:Nat) (Q:Ex→List AV→Hp→Prop) (R:AV→Hp→Prop):vT G Q R (G0 (Dc Try.prog [] nums [] 1) 200 10 Try.f72 [.slice true (.rw 0) (.var 2 o) (.var 3 n)] [some ⟨1,.var 1 s⟩] 3)=(
  inU64 [.int .u64 (IntKind.wrap .u64 ((n:Int)))]=true∧leB (o+n) (List.length s)=true∧cellsB (A9 s o n)=true∧leB (List.length (A6 [.int .u64 (IntKind.wrap .u64 ((n:Int)))])+n) 140737488355328=true∧Nat.beq (List.length (A6 [.int .u64 (IntKind.wrap .u64 ((n:Int)))])) (List.length (A6 [.int .u64 (IntKind.wrap .u64 ((n:Int)))]))=true∧R (.slice true (.rw 2) 0 (List.length (A6 [.int .u64 (IntKind.wrap .u64 ((n:Int)))])+n)) [some ⟨1,s⟩,none,some ⟨1,((B3 (A6 [.int .u64 (IntKind.wrap .u64 ((n:Int)))]))++(A9 s o n))⟩]):=by kernel_rfl
theorem dgN0 :L6 (⟨Try.prog,G,B⟩:A0) (Dc Try.prog [] nums [] 0) []:=D7 (mix G B) (by kernel_rfl) (rU G B) .nil
theorem dgN1 :L6 (⟨Try.prog,G,B⟩:A0) (Dc Try.prog [] nums [] 1) []:=D7 (mix G B) (by kernel_rfl) (rU G B) .nil
theorem jU {n:Nat} (h:n≤1099511627776):IntKind.wrap .u64 (n:Int)=(n:Int):=Iu (by omega)
theorem vC {n:Nat} (h:n≤1099511627776):inU64 [.int .u64 (n:Int)]=true:=by simp [inU64];omega
theorem aB4 {f:FuncId} {args:List AV} {C:A0} {mb:Bool} {m:Nat} {cs:List AV} (hc:∀ j,A3 j cs=true) (h:ACalls C f args [] fun v' H'=>v'=.slice mb (.rw 1) 0 m∧H'.take 2=[none,some ⟨1,cs⟩]) :
  ACalls C f args [] fun v' H'=>v'=.slice mb (.rw 0) 0 m∧H'=[some ⟨1,cs⟩]:=by
 refine h.view fun v H' ⟨e1,e2⟩=>⟨_,_,⟨rfl,rfl⟩,?_⟩
 have e:H'=none::some ⟨1,cs⟩::H'.drop 2:=by
  have:=List.take_append_drop 2 H'
  rw [e2] at this;exact this.symm
 rw [e,e1];exact C2.renM (θ:=[1]) (by simp) (fun i hi=>absurd hi (by simp)) (by decide) ⟨⟨hc _,by rw [B9 _ _ (hc 0)];rfl⟩,trivial⟩ (by simp [A3,A8]) (by simp [rens,C0,wk])
theorem aB3 {f:FuncId} {args:List AV} {C:A0} {mb:Bool} {m:Nat} {s cs:List AV} (hs:∀ j,A3 j s=true) (hc:∀ j,A3 j cs=true) (h:ACalls C f args [some ⟨1,s⟩] fun v' H'=>v'=.slice mb (.rw 2) 0 m∧H'.take 3=[some ⟨1,s⟩,none,some ⟨1,cs⟩]) :
  ACalls C f args [some ⟨1,s⟩] fun v' H'=>v'=.slice mb (.rw 1) 0 m∧H'=[some ⟨1,s⟩,some ⟨1,cs⟩]:=by
 refine h.view fun v H' ⟨e1,e2⟩=>⟨_,_,⟨rfl,rfl⟩,?_⟩
 have e:H'=some ⟨1,s⟩::none::some ⟨1,cs⟩::H'.drop 3:=by
  have:=List.take_append_drop 3 H'
  rw [e2] at this;exact this.symm
 rw [e,e1];exact C2.renM (θ:=[0,2]) (by simp) fixes1 (by decide) ⟨⟨hs _,by rw [B9 _ _ (hs 0)];rfl⟩,⟨hc _,by rw [B9 _ _ (hc 0)];rfl⟩,trivial⟩ (by simp [A3,A8]) (by simp [rens,C0,wk])
structure gE (C:A0) (f:FuncId) (mb:Bool):Prop where
 ro:∀ k o n:Nat,n≤1099511627776→o+n≤(C.G k).length→u8s (A9 (C.G k) o n)=true→ACalls C f [.slice true (.ro k) o n] [] fun v' H'=>v'=.slice mb (.rw 0) 0 ((A6 [.int .u64 (n:Int)]).length+n)∧H'=[some ⟨1,B3 (A6 [.int .u64 (n:Int)])++A9 (C.G k) o n⟩]
 rw:∀ (s:List AV) (o n:Nat),(∀ j,A3 j s=true)→n≤1099511627776→o+n≤s.length→u8s (A9 s o n)=true→ACalls C f [.slice true (.rw 0) o n] [some ⟨1,s⟩] fun v' H'=>v'=.slice mb (.rw 1) 0 ((A6 [.int .u64 (n:Int)]).length+n)∧H'=[some ⟨1,s⟩,some ⟨1,B3 (A6 [.int .u64 (n:Int)])++A9 s o n⟩]
theorem Fj {a:List UInt8} {l:List AV} (h:u8s l=true) (j:Nat):A3 j (B3 a++l)=true:=by
 rw [L2,List.all_append,←L2,←L2,Bs,C4 h];rfl
theorem bytes8 :gE (⟨Try.prog,G,B⟩:A0) 82 false where
 ro k o n hn ho hu:=by
  have hl:=Dl [.int .u64 (n:Int)];refine aB4 (Fj hu) (C1 (C:=(⟨Try.prog,G,B⟩:A0)) (fn:=Try.f82) (f:=82) (R:=fun v' H'=>v'=.slice false (.rw 1) 0 ((A6 [.int .u64 (n:Int)]).length+n)∧H'=[none,some ⟨1,B3 (A6 [.int .u64 (n:Int)])++A9 (G k) o n⟩]) (dgN0 G B) (by kernel_rfl) (by kernel_rfl) (by kernel_rfl) (fuel:=200) (n0:=10) (keep:=2) (args:=[.slice true (.ro (.var 1 k)) (.var 2 o) (.var 3 n)]) (H:=[]) ?_);rw [w8a,jU hn];exact ⟨vC hn,B2.2 ho,L8 hu,B2.2 (by omega),zA3 _,rfl,rfl⟩
 rw s o n hs hn ho hu:=by
  have hl:=Dl [.int .u64 (n:Int)];refine aB3 hs (Fj hu) (C1 (C:=(⟨Try.prog,G,B⟩:A0)) (fn:=Try.f82) (f:=82) (R:=fun v' H'=>v'=.slice false (.rw 2) 0 ((A6 [.int .u64 (n:Int)]).length+n)∧H'=[some ⟨1,s⟩,none,some ⟨1,B3 (A6 [.int .u64 (n:Int)])++A9 s o n⟩]) (dgN1 G B) (by kernel_rfl) (by kernel_rfl) (by kernel_rfl) (fuel:=200) (n0:=10) (keep:=3) (args:=[.slice true (.rw 0) (.var 2 o) (.var 3 n)]) (H:=[some ⟨1,.var 1 s⟩]) ?_);rw [w8b,jU hn];exact ⟨vC hn,B2.2 ho,L8 hu,B2.2 (by omega),zA3 _,rfl,rfl⟩
theorem bA7 :gE (⟨Try.prog,G,B⟩:A0) 72 true where
 ro k o n hn ho hu:=by
  have hl:=Dl [.int .u64 (n:Int)];refine aB4 (Fj hu) (C1 (C:=(⟨Try.prog,G,B⟩:A0)) (fn:=Try.f72) (f:=72) (R:=fun v' H'=>v'=.slice true (.rw 1) 0 ((A6 [.int .u64 (n:Int)]).length+n)∧H'=[none,some ⟨1,B3 (A6 [.int .u64 (n:Int)])++A9 (G k) o n⟩]) (dgN0 G B) (by kernel_rfl) (by kernel_rfl) (by kernel_rfl) (fuel:=200) (n0:=10) (keep:=2) (args:=[.slice true (.ro (.var 1 k)) (.var 2 o) (.var 3 n)]) (H:=[]) ?_);rw [w11a,jU hn];exact ⟨vC hn,B2.2 ho,L8 hu,B2.2 (by omega),zA3 _,rfl,rfl⟩
 rw s o n hs hn ho hu:=by
  have hl:=Dl [.int .u64 (n:Int)];refine aB3 hs (Fj hu) (C1 (C:=(⟨Try.prog,G,B⟩:A0)) (fn:=Try.f72) (f:=72) (R:=fun v' H'=>v'=.slice true (.rw 2) 0 ((A6 [.int .u64 (n:Int)]).length+n)∧H'=[some ⟨1,s⟩,none,some ⟨1,B3 (A6 [.int .u64 (n:Int)])++A9 s o n⟩]) (dgN1 G B) (by kernel_rfl) (by kernel_rfl) (by kernel_rfl) (fuel:=200) (n0:=10) (keep:=3) (args:=[.slice true (.rw 0) (.var 2 o) (.var 3 n)]) (H:=[some ⟨1,.var 1 s⟩]) ?_);rw [w11b,jU hn];exact ⟨vC hn,B2.2 ho,L8 hu,B2.2 (by omega),zA3 _,rfl,rfl⟩
def aA7 (mb:Bool) (l:EL) (o n:EN) (H:DHp):Outs:=.chk (.leN n (.lit 1099511627776)) (.chk (.leN (.add o n) (.len l)) (.chk (.u8s l) (.chk (.u8s (.sub l o n)) (.one (.slice mb (.rw H.length) (.lit 0) (.add (.slen (.uf 1104 A6 [.int .u64 (.ofN n)])) n)) [.new ⟨1,.app (.bytes (.uf 1104 A6 [.int .u64 (.ofN n)])) (.sub l o n)⟩]))))
def cM (mb:Bool):DSum:=fun xs H=>match xs with
 | [.slice _ (.ro k) o n]=>some (aA7 mb (.ro k) o n H)
 | [.slice _ (.rw i) o n]=>match H[i]? with
  | some (some ⟨1,l⟩)=>some (aA7 mb l o n H)
  | _=>none
 | _=>none
theorem jA {C:A0} {f:FuncId} {mb:Bool} (h:gE C f mb):D4 C f (cM mb):=by
 intro xs H o ho
 have wkn:∀ {m:Bool} {r:Ref} {o n:Nat} {H:Hp} {K:AV→Hp→Prop},ACalls C f [.slice true r o n] H K→ACalls C f [.slice m r o n] H K:=fun h=>h.weaken fun ρ vs hv=>by
  simp only [VRs] at hv ⊢;obtain ⟨v,vs',r1,r2,r3⟩:=hv;exact ⟨v,vs',r1,T1 r2,r3⟩
 simp only [cM] at ho;split at ho
 ·rename_i m k o n;simp only [zK] at ho;subst ho;intro h1 h2 h3 h4;simp only [vB,vN,vL] at h1 h2 h3 h4;refine E0.new0 (C:=C) (args0:=[.slice m (.ro (vN C.G k)) (vN C.G o) (vN C.G n)]) (v0:=.slice mb (.rw 0) 0 ((A6 [.int .u64 (vN C.G n:Int)]).length+vN C.G n)) ?_ (by simp only [vL,vS,vVs,vV,vI];exact Fj h4 _) (by simp [A3,A8]) (by simp only [vVs,vV,vR]) (by simp [A8]) (by simp [vV,vR,vN,vS,vVs,vI,C0]);simp only [D8,vL,vS,vVs,vV,vI];exact wkn (h.ro _ _ _ (B2.1 h1) (B2.1 h2) h4)
 ·rename_i m i o n;split at ho
  ·rename_i l hi;simp only [zK] at ho;subst ho;intro h1 h2 h3 h4;simp only [vB,vN,vL] at h1 h2 h3 h4;have hf:∀ j,A3 j (vL C.G l)=true:=fun j=>C4 h3;have key:=wkn (m:=m) (h.rw (vL C.G l) (vN C.G o) (vN C.G n) hf (B2.1 h1) (B2.1 h2) h4);have rw':∀ (b:Nd) (θ:List Nat),A3 0 (vL C.G b.cells)=true→K3 θ (D8 C.G b)=D8 C.G b:=fun b θ hb=>by simp only [K3,D8,B9 _ _ hb]
   have e1:=rw' ⟨1,l⟩;refine E0.fr (θ:=[i]) (by simp) rfl (fun k b hk=>?_) (by simp [A3,A8]) (by simp [vVs,vV,vR,rens,C0]) key (by simp) (by simp [A8]) (by simp [H9,hf,Fj h4]) (by simp [vV,vR,vN,vS,vVs,vI,C0,N7]) ?_
   ·match k with
    | 0=>simp at hk;subst hk;exact ⟨_,rfl,hf _,by simpa [K3,D8,B9 _ _ (hf 0)] using I3 (G:=C.G) hi⟩
    | k+1=>simp at hk
   ·have:=Gd (G:=C.G) hi
    simp only [D8] at this;simp [acts,Hop.act,J6,D8,X3,lay,R9,K3,vL,vS,vVs,vV,vI,vN,B9 _ _ (hf 0),B9 _ _ (Fj h4 0),this]
  ·simp at ho
 ·simp at ho
def Es (xs:List AV):Int:=match xs with
 | [.bool true]=>1
 | _=>0
def flagS:DSum:=fun xs H=>match xs with
 | [.bool b]=>some (.one (.slice false (.rw H.length) (.lit 0) (.lit 1)) [.new ⟨1,.of [.int .u8 (.uf 1114 Es [.bool b])]⟩])
 | _=>none
theorem w15 (b:Bool) (Q:Ex→List AV→Hp→Prop) (R:AV→Hp→Prop):vT G Q R (G0 (Dc Try.prog [] [] [] 0) 200 10 Try.f83 [.bool (.var 1 b)] [] 1)=(
  (b=true→R (.slice false (.rw 0) 0 1) [some ⟨1,([.int .u8 1]:List AV)⟩])∧(b=false→R (.slice false (.rw 0) 0 1) [some ⟨1,([.int .u8 0]:List AV)⟩])):=by kernel_rfl
theorem w16 (b:Bool) (Q:Ex→List AV→Hp→Prop) (R:AV→Hp→Prop):vT G Q R (G0 (Dc Try.prog [] [] [] 0) 200 10 Try.f73 [.bool (.var 1 b)] [] 1)=(
  (b=true→R (.slice false (.rw 0) 0 1) [some ⟨1,([.int .u8 1]:List AV)⟩])∧(b=false→R (.slice false (.rw 0) 0 1) [some ⟨1,([.int .u8 0]:List AV)⟩])):=by kernel_rfl
theorem dg00 :L6 (⟨Try.prog,G,B⟩:A0) (Dc Try.prog [] [] [] 0) []:=D7 (mix G B) (by kernel_rfl) .nil .nil
theorem flag15 (b:Bool):ACalls (⟨Try.prog,G,B⟩:A0) 83 [.bool b] [] fun v' H'=>v'=.slice false (.rw 0) 0 1∧H'=[some ⟨1,[.int .u8 (Es [.bool b])]⟩]:=by
 have key:=C1 (C:=(⟨Try.prog,G,B⟩:A0)) (fn:=Try.f83) (f:=83) (R:=fun v' H'=>v'=.slice false (.rw 0) 0 1∧H'=[some ⟨1,[.int .u8 (Es [.bool b])]⟩]) (dg00 G B) (by kernel_rfl) (by kernel_rfl) (by kernel_rfl) (fuel:=200) (n0:=10) (keep:=1) (args:=[.bool (.var 1 b)]) (H:=[]) (by
  rw [w15]
  exact ⟨fun h=>by rw [h];exact ⟨rfl,rfl⟩,fun h=>by rw [h];exact ⟨rfl,rfl⟩⟩)
 exact key.keep (by simp [B7]) (by simp [H9,A3,A8]) (by simp [A8]) (by simp)
theorem flag16 (b:Bool):ACalls (⟨Try.prog,G,B⟩:A0) 73 [.bool b] [] fun v' H'=>v'=.slice false (.rw 0) 0 1∧H'=[some ⟨1,[.int .u8 (Es [.bool b])]⟩]:=by
 have key:=C1 (C:=(⟨Try.prog,G,B⟩:A0)) (fn:=Try.f73) (f:=73) (R:=fun v' H'=>v'=.slice false (.rw 0) 0 1∧H'=[some ⟨1,[.int .u8 (Es [.bool b])]⟩]) (dg00 G B) (by kernel_rfl) (by kernel_rfl) (by kernel_rfl) (fuel:=200) (n0:=10) (keep:=1) (args:=[.bool (.var 1 b)]) (H:=[]) (by
  rw [w16]
  exact ⟨fun h=>by rw [h];exact ⟨rfl,rfl⟩,fun h=>by rw [h];exact ⟨rfl,rfl⟩⟩)
 exact key.keep (by simp [B7]) (by simp [H9,A3,A8]) (by simp [A8]) (by simp)
theorem oG {C:A0} {f:FuncId} (h:∀ b,ACalls C f [.bool b] [] fun v' H'=>v'=.slice false (.rw 0) 0 1∧H'=[some ⟨1,[.int .u8 (Es [.bool b])]⟩]):D4 C f flagS:=by
 intro xs H o ho;unfold flagS at ho;split at ho
 ·rename_i b;simp at ho;subst ho;refine E0.new0 (C:=C) (args0:=[.bool (vB C.G b)]) (v0:=.slice false (.rw 0) 0 1) ?_ (by simp [vL,vVs,vV,A3,A8]) rfl (by simp only [vVs,vV]) (by simp [A8]) (by simp [vV,vR,vN,C0]);simp only [D8,vL,vVs,vV,vI];exact h _
 ·simp at ho
end
end Go.Am
