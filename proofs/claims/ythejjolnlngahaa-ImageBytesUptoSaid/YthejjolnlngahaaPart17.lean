/-
  Wire: a number is read, by both sides. Wire: a flag and bytes are read.
-/
import Derived.Test.YthejjolnlngahaaPart8
import Derived.Test.YthejjolnlngahaaBase5
namespace Go.Am
open Go.Proofs
set_option maxRecDepth 100000
theorem rb20 (G:Nat→List AV) (s:List AV) (n:Nat) (a v t h:Int) (Q:Ex→List AV→Hp→Prop) (R:AV→Hp→Prop):vT G Q R (E8 (Dc Try.prog [] [] [] 2) 200 10 2 (A5 Try.f86 0) 61 [0,2,3,4,5,6] [.ptr (.rw 0) (.lit 0),.int .u64 (.lit 0),.int .i64 (.lit 0),.int .u64 (.var 1 v),.int .i64 (.var 2 t),.int .u64 (.var 3 h)] [some ⟨1,.of [.slice false (.rw 1) (.lit 0) (.var 4 n),.int .i64 (.var 5 a)]⟩,some ⟨1,.var 6 s⟩])=(
  (decide ((t:Int)<((n:Nat):Int))=true→decide ((0:Int)≤t)=true∧decide ((t:Int)<((n:Nat):Int))=true∧isI .u8 s (Int.toNat (t))=true∧(((h:Int)==63)=true→(decide ((A0 s (Int.toNat (t)):Int)>1)=true→Q (.exit 0) [.ptr (.rw 0) (0),.int .u64 (0),.int .i64 (0),.int .u64 (v),.int .i64 (t),.int .u64 (h)] [some ⟨1,([.slice false (.rw 1) (0) (n),.int .i64 (a)]:List AV)⟩,some ⟨1,s⟩])∧(decide ((A0 s (Int.toNat (t)):Int)>1)=false→decide ((h:Int)>0)=true∧(((A0 s (Int.toNat (t)):Int)==0)=true→Q (.exit 0) [.ptr (.rw 0) (0),.int .u64 (0),.int .i64 (0),.int .u64 (v),.int .i64 (t),.int .u64 (h)] [some ⟨1,([.slice false (.rw 1) (0) (n),.int .i64 (a)]:List AV)⟩,some ⟨1,s⟩])∧(((A0 s (Int.toNat (t)):Int)==0)=false→decide ((0:Int)≤h)=true∧decide ((A0 s (Int.toNat (t)):Int)<128)=true∧Q .ret [.ptr (.rw 0) (0),.int .u64 (Gw .u64 (v) (Cl .u64 (IntKind.wrap .u64 (L7 .u8 (A0 s (Int.toNat (t))) (127))) (h))),.int .i64 (0),.int .u64 (Gw .u64 (v) (Cl .u64 (IntKind.wrap .u64 (L7 .u8 (A0 s (Int.toNat (t))) (127))) (h))),.int .i64 (IntKind.wrap .i64 (t+1)),.int .u64 (h)] [some ⟨1,([.slice false (.rw 1) (0) (n),.int .i64 (IntKind.wrap .i64 (t+1))]:List AV)⟩,some ⟨1,s⟩])))∧(((h:Int)==63)=false→(decide ((h:Int)>0)=true→(((A0 s (Int.toNat (t)):Int)==0)=true→Q (.exit 0) [.ptr (.rw 0) (0),.int .u64 (0),.int .i64 (0),.int .u64 (v),.int .i64 (t),.int .u64 (h)] [some ⟨1,([.slice false (.rw 1) (0) (n),.int .i64 (a)]:List AV)⟩,some ⟨1,s⟩])∧(((A0 s (Int.toNat (t)):Int)==0)=false→decide ((0:Int)≤h)=true∧(decide ((A0 s (Int.toNat (t)):Int)<128)=true→
 Q .ret [.ptr (.rw 0) (0),.int .u64 (Gw .u64 (v) (Cl .u64 (IntKind.wrap .u64 (L7 .u8 (A0 s (Int.toNat (t))) (127))) (h))),.int .i64 (0),.int .u64 (Gw .u64 (v) (Cl .u64 (IntKind.wrap .u64 (L7 .u8 (A0 s (Int.toNat (t))) (127))) (h))),.int .i64 (IntKind.wrap .i64 (t+1)),.int .u64 (h)] [some ⟨1,([.slice false (.rw 1) (0) (n),.int .i64 (IntKind.wrap .i64 (t+1))]:List AV)⟩,some ⟨1,s⟩])∧(decide ((A0 s (Int.toNat (t)):Int)<128)=false→Q .normal [.ptr (.rw 0) (0),.int .u64 (0),.int .i64 (0),.int .u64 (Gw .u64 (v) (Cl .u64 (IntKind.wrap .u64 (L7 .u8 (A0 s (Int.toNat (t))) (127))) (h))),.int .i64 (IntKind.wrap .i64 (t+1)),.int .u64 (IntKind.wrap .u64 (h+7))] [some ⟨1,([.slice false (.rw 1) (0) (n),.int .i64 (a)]:List AV)⟩,some ⟨1,s⟩])))∧(decide ((h:Int)>0)=false→decide ((0:Int)≤h)=true∧(decide ((A0 s (Int.toNat (t)):Int)<128)=true→Q .ret [.ptr (.rw 0) (0),.int .u64 (Gw .u64 (v) (Cl .u64 (IntKind.wrap .u64 (L7 .u8 (A0 s (Int.toNat (t))) (127))) (h))),.int .i64 (0),.int .u64 (Gw .u64 (v) (Cl .u64 (IntKind.wrap .u64 (L7 .u8 (A0 s (Int.toNat (t))) (127))) (h))),.int .i64 (IntKind.wrap .i64 (t+1)),.int .u64 (h)] [some ⟨1,([.slice false (.rw 1) (0) (n),.int .i64 (IntKind.wrap .i64 (t+1))]:List AV)⟩,some ⟨1,s⟩])∧(decide ((A0 s (Int.toNat (t)):Int)<128)=false→Q .normal [.ptr (.rw 0) (0),.int .u64 (0),.int .i64 (0),.int .u64 (Gw .u64 (v) (Cl .u64 (IntKind.wrap .u64 (L7 .u8 (A0 s (Int.toNat (t))) (127))) (h))),.int .i64 (IntKind.wrap .i64 (t+1)),.int .u64 (IntKind.wrap .u64 (h+7))] [some ⟨1,([.slice false (.rw 1) (0) (n),.int .i64 (a)]:List AV)⟩,some ⟨1,s⟩]))))∧(decide ((t:Int)<((n:Nat):Int))=false→
 Q (.exit 0) [.ptr (.rw 0) (0),.int .u64 (0),.int .i64 (0),.int .u64 (v),.int .i64 (t),.int .u64 (h)] [some ⟨1,([.slice false (.rw 1) (0) (n),.int .i64 (a)]:List AV)⟩,some ⟨1,s⟩])):=by kernel_rfl
def Ab (s:List AV) (t:Nat):Nat→Nat→Option (Nat×Nat)
 | 0,_=>none
 | f+1,k=>if t+k<s.length then
   if (k=9∧1<(A0 s (t+k)).toNat)∨(0<k∧(A0 s (t+k)).toNat=0) then none
   else if (A0 s (t+k)).toNat<128 then some ((A0 s (t+k)).toNat,1)
   else (Ab s t f (k+1)).map fun p=>((A0 s (t+k)).toNat % 128+128*p.1,p.2+1)
  else none
def wrd (s:List AV) (t:Nat):Option (Nat×Nat):=Ab s t 10 0
def upd (acc k:Nat) (p:Nat×Nat):Nat×Nat:=(acc+128^k*p.1,k+p.2)
def b8:AV→Bool
 | .int .u8 n=>decide (0≤n)&&decide (n≤255)
 | _=>false
def V5 (l:List AV):Bool:=l.all b8
theorem jS {l:List AV} (h:V5 l=true) {i:Nat} (hi:i<l.length):isI .u8 l i=true∧0≤A0 l i∧A0 l i≤255:=by
 simp only [V5,List.all_eq_true] at h
 have:=h l[i] (List.getElem_mem hi)
 have e:=List.getElem?_eq_getElem hi;generalize l[i]=x at this e;cases x with
 | int k n=>cases k<;>simp_all [b8,isI,A0]
 | _=>simp [b8] at this
theorem W8 {l:List AV} (h:V5 l=true):u8s l=true:=by
 simp only [V5,u8s,List.all_eq_true] at h ⊢;intro v hv
 have:=h v hv
 cases v with
 | int k n=>cases k<;>simp_all [b8,Bq]
 | _=>simp [b8] at this
theorem qR (n:Int):IntKind.u64.wrap n=n % 18446744073709551616:=by
 simp only [IntKind.wrap,IntKind.signed,IntKind.bits,Bool.false_and,Bool.false_eq_true,if_false];omega
theorem pow9 {k:Nat} (h:k≤9):128^k≤9223372036854775808:=by
 have:=Nat.pow_le_pow_right (n:=128) (by omega) h
 have e:128^9=9223372036854775808:=by decide
 omega
theorem pow8 {k:Nat} (h:k≤8):128^k≤72057594037927936:=by
 have:=Nat.pow_le_pow_right (n:=128) (by omega) h
 have e:128^8=72057594037927936:=by decide
 omega
theorem jN {k d:Nat} (h:k≤9) (hd:d<128) (h9:k=9→d≤1):d*128^k≤9223372036854775808:=by
 by_cases e:k=9
 ·subst e
  have:=h9 rfl
  have e:128^9=9223372036854775808:=by decide
  rw [e];omega
 ·have:=pow8 (k:=k) (by omega)
  have:d*128^k≤127*72057594037927936:=Nat.mul_le_mul (by omega) this
  omega
theorem and127:∀ b:BitVec 8,(b &&& 127#8).toNat=b.toNat % 128:=by decide +kernel
theorem low7 {c:Int} (h0:0≤c) (h1:c≤255):IntKind.wrap .u64 (L7 .u8 c 127)=((c.toNat % 128:Nat):Int):=by
 have e:L7 .u8 c 127=((c.toNat % 128:Nat):Int):=by
  show IntKind.u8.wrap (((BitVec.ofInt 8 c &&& BitVec.ofInt 8 127).toNat:Nat):Int)=_;have e2:BitVec.ofInt 8 127=127#8:=by decide
  rw [e2,and127,Kt,BitVec.toNat_ofInt];omega
 rw [e,Fw (by omega)]
theorem wP (k:Nat):(2:Int)^(7*k)=((128^k:Nat):Int):=by
 rw [Int.pow_mul]
 have:(2:Int)^7=128:=by decide
 rw [this];simp
theorem xC {k d:Nat} (h:k≤9) (hd:d<128) (h9:k=9→d≤1):Cl .u64 (d:Int) ((7*k:Nat):Int)=((d*128^k:Nat):Int):=by
 unfold Cl
 have:min ((7*k:Nat):Int).toNat IntKind.u64.bits=7*k:=by
  show min ((7*k:Nat):Int).toNat 64=7*k;omega
 rw [this,wP,qR]
 have:=jN h hd h9
 rw [←Int.natCast_mul];omega
theorem or_dig {k d acc:Nat} (h:k≤9) (hd:d<128) (h9:k=9→d≤1) (ha:acc<128^k):Gw .u64 (acc:Int) ((d*128^k:Nat):Int)=((acc+d*128^k:Nat):Int):=by
 have hf:=jN h hd h9;have hp:=pow9 h;show IntKind.u64.wrap (((BitVec.ofInt 64 (acc:Int) ||| BitVec.ofInt 64 ((d*128^k:Nat):Int)).toNat:Nat):Int)=_;have e1:(BitVec.ofInt 64 (acc:Int)).toNat=acc:=by rw [BitVec.toNat_ofInt];omega
 have e2:(BitVec.ofInt 64 ((d*128^k:Nat):Int)).toNat=d*128^k:=by rw [BitVec.toNat_ofInt];omega
 rw [BitVec.toNat_or,e1,e2];have e3:(128:Nat)^k=2^(7*k):=by rw [Nat.pow_mul]
 have e4:=Nat.two_pow_add_eq_or_of_lt (i:=7*k) (b:=acc) (by rw [←e3];exact ha) d;rw [←e3] at e4
 have e5:acc ||| d*128^k=acc+d*128^k:=by
  rw [Nat.or_comm,Nat.mul_comm,←e4,Nat.add_comm]
 rw [e5,Fw (by omega)]
abbrev Qo (s:List AV) (t k:Nat):Prop:=(k=9∧1<(A0 s (t+k)).toNat)∨(0<k∧(A0 s (t+k)).toNat=0)
theorem mO {s:List AV} {a k:Nat} (hk:k≤9) (h:¬a+k<s.length∨Qo s a k):Ab s a (10 - k) k=none:=by
 have e:10 - k=(9 - k)+1:=by omega
 rw [e,Ab];rcases h with h | h
 ·rw [if_neg h]
 ·by_cases hl:a+k<s.length
  ·rw [if_pos hl,if_pos h]
  ·rw [if_neg hl]
theorem Mb {s:List AV} {a k acc:Nat} (hs:wrd s a=(Ab s a (10 - k) k).map (upd acc k)) (hk:k≤9) (h:¬a+k<s.length∨Qo s a k):wrd s a=none:=by
 rw [hs,mO hk h];rfl
theorem qJ {s:List AV} {a k acc:Nat} (hs:wrd s a=(Ab s a (10 - k) k).map (upd acc k)) (hk:k≤9) (hl:a+k<s.length) (hb:¬Qo s a k) (hc:(A0 s (a+k)).toNat<128) :
  wrd s a=some (acc+(A0 s (a+k)).toNat*128^k,k+1):=by
 have e:10 - k=(9 - k)+1:=by omega
 rw [hs,e,Ab,if_pos hl,if_neg hb,if_pos hc];simp [upd,Nat.mul_comm]
theorem bV {s:List AV} {a k acc:Nat} (hs:wrd s a=(Ab s a (10 - k) k).map (upd acc k)) (hk:k≤9) (hl:a+k<s.length) (hb:¬Qo s a k) (hc:¬(A0 s (a+k)).toNat<128) :
  k≤8∧wrd s a=(Ab s a (10 - (k+1)) (k+1)).map (upd (acc+(A0 s (a+k)).toNat % 128*128^k) (k+1)):=by
 have h8:k≤8:=by
  rcases Nat.lt_or_ge k 9 with h | h
  ·omega
  ·exfalso;apply hb;left;omega
 refine ⟨h8,?_⟩;have e:10 - k=(9 - k)+1:=by omega
 have e2:10 - (k+1)=9 - k:=by omega
 rw [hs,e,Ab,if_pos hl,if_neg hb,if_neg hc,e2,Option.map_map];congr 1;funext p;simp only [Function.comp,upd,Prod.mk.injEq];refine ⟨?_,by omega⟩;rw [Nat.pow_succ,Nat.mul_add,Nat.mul_comm (128^k) (_ % 128),Nat.mul_assoc,Nat.add_assoc]
def bD (n a:Nat):Option Blk:=some ⟨1,[.slice false (.rw 1) 0 n,.int .i64 (a:Int)]⟩
theorem fX {k acc d:Nat} (h:acc<128^k) (hd:d<128):acc+d*128^k<128^(k+1):=by
 have:d*128^k≤127*128^k:=Nat.mul_le_mul (by omega) (Nat.le_refl _)
 rw [Nat.pow_succ];omega
theorem dg02 (G:Nat→List AV) (B:Nat):DGood (⟨Try.prog,G,B⟩:A2) (Dc Try.prog [] [] [] 2) []:=D3 (mix G B) (by kernel_rfl) .nil .nil
theorem rl20 (G:Nat→List AV) (B:Nat) (s:List AV) (n a:Nat) (hb:V5 s=true) (hn:s.length=n) (h62:n≤4611686018427387904) (ha:a≤n) :
  AWp (⟨Try.prog,G,B⟩:A2) 2 (.loop (A5 Try.f86 0)) (fl 61 [0,2,3,4,5,6] [.ptr (.rw 0) 0,.int .u64 0,.int .i64 0,.int .u64 0,.int .i64 (a:Int),.int .u64 0]) [bD n a,some ⟨1,s⟩]
   (lv 61 [0,2,3,4,5,6] fun e vs H=>(e=.exit 0∧wrd s a=none∧wk [.ptr (.rw 0) 0,.int .u64 0,.int .i64 0,.undef,.undef,.undef] vs∧H=[bD n a,some ⟨1,s⟩])
    ∨ (e=.ret∧∃ v j,wrd s a=some (v,j)∧wk [.ptr (.rw 0) 0,.int .u64 (v:Int),.int .i64 0,.undef,.undef,.undef] vs∧H=[bD n (a+j),some ⟨1,s⟩])):=by
 refine U8 (fun j vs H=>∃ k acc:Nat,k≤9∧j=9 - k∧acc<128^k∧wrd s a=(Ab s a (10 - k) k).map (upd acc k)∧vs=[.ptr (.rw 0) 0,.int .u64 0,.int .i64 0,.int .u64 (acc:Int),.int .i64 ((a+k:Nat):Int),.int .u64 ((7*k:Nat):Int)]∧H=[bD n a,some ⟨1,s⟩]) 9
  ⟨0,0,by omega,rfl,by simp,by rw [show upd 0 0=id from by funext p;simp [upd]];simp [wrd],rfl,rfl⟩ ?_
 rintro j vs H ⟨k,acc,hk,rfl,hacc,hs,rfl,rfl⟩
 refine D4 (C:=(⟨Try.prog,G,B⟩:A2)) (dg02 G B) (fuel:=200) (n0:=10) (m:=2) (c:=A5 Try.f86 0) (vs:=[.ptr (.rw 0) (.lit 0),.int .u64 (.lit 0),.int .i64 (.lit 0),.int .u64 (.var 1 (acc:Int)),.int .i64 (.var 2 ((a+k:Nat):Int)),.int .u64 (.var 3 ((7*k:Nat):Int))])
  (H:=[some ⟨1,.of [.slice false (.rw 1) (.lit 0) (.var 4 n),.int .i64 (.var 5 (a:Int))]⟩,some ⟨1,.var 6 s⟩]) (by simp) ?_
 rw [rb20,Int.toNat_natCast];have i1:IntKind.wrap .i64 (((a+k:Nat):Int)+1)=((a+k+1:Nat):Int):=by rw [C4 (by omega)];omega
 have i2:IntKind.wrap .u64 (((7*k:Nat):Int)+7)=((7*(k+1):Nat):Int):=by rw [Fw (by omega)];omega
 rw [i1,i2];by_cases hl:a+k<s.length
 ·obtain ⟨g1,g2,g3⟩:=jS hb hl;have hc:A0 s (a+k)=((A0 s (a+k)).toNat:Int):=by omega
  have hd:(A0 s (a+k)).toNat % 128<128:=Nat.mod_lt _ (by omega);have g0:decide ((0:Int)≤((a+k:Nat):Int))=true:=decide_eq_true (by omega);have g7:decide ((0:Int)≤((7*k:Nat):Int))=true:=decide_eq_true (by omega);rw [low7 g2 g3]
  -- the number with one digit more
  have vals:¬Qo s a k→Gw .u64 (acc:Int) (Cl .u64 (((A0 s (a+k)).toNat % 128:Nat):Int) ((7*k:Nat):Int))=((acc+(A0 s (a+k)).toNat % 128*128^k:Nat):Int):=fun hb=>by
   have h9:k=9→(A0 s (a+k)).toNat % 128≤1:=fun h=>by
    have:¬1<(A0 s (a+k)).toNat:=fun h1=>hb (.inl ⟨h,h1⟩)
    omega
   rw [xC hk hd h9,or_dig hk hd h9 hacc]
  have ret:¬Qo s a k→(A0 s (a+k)).toNat<128→wrd s a=some (acc+(A0 s (a+k)).toNat % 128*128^k,k+1):=fun hb hc=>by
   have:=qJ hs hk hl hb hc
   rwa [Nat.mod_eq_of_lt hc]
  refine ⟨fun _=>⟨g0,decide_eq_true (by omega),g1,fun h63=>⟨fun h=>?_,fun h=>⟨decide_eq_true (by have:=eq_of_beq h63;omega),fun h0=>?_,fun h0=>?_⟩⟩,fun h63=>⟨fun hp=>⟨fun h0=>?_,fun h0=>⟨g7,fun hlt=>?_,fun hlt=>?_⟩⟩,fun hp=>⟨g7,fun hlt=>?_,fun hlt=>?_⟩⟩⟩,fun h=>absurd (of_decide_eq_false h) (by omega)⟩
  all_goals try simp only [decide_eq_true_eq,decide_eq_false_iff_not,beq_iff_eq,beq_eq_false_iff_ne,ne_eq] at *
  ·exact .inl ⟨by trivial,Mb hs hk (.inr (.inl ⟨by omega,by omega⟩)),by simp [wk],rfl⟩
  ·exact .inl ⟨by trivial,Mb hs hk (.inr (.inr ⟨by omega,by omega⟩)),by simp [wk],rfl⟩
  ·have nb:¬Qo s a k:=by rintro (⟨_,h2⟩ | ⟨_,h2⟩)<;>omega
   rw [vals nb];exact ⟨by omega,by omega,.inr ⟨by trivial,_,_,ret nb (by omega),by simp [wk],rfl⟩⟩
  ·exact .inl ⟨by trivial,Mb hs hk (.inr (.inr ⟨by omega,by omega⟩)),by simp [wk],rfl⟩
  ·have nb:¬Qo s a k:=by rintro (⟨_,h2⟩ | ⟨_,h2⟩)<;>omega
   rw [vals nb];exact .inr ⟨by trivial,_,_,ret nb (by omega),by simp [wk],rfl⟩
  ·have nb:¬Qo s a k:=by rintro (⟨_,h2⟩ | ⟨_,h2⟩)<;>omega
   rw [vals nb];obtain ⟨n1,n2⟩:=bV hs hk hl nb (by omega);exact ⟨9 - (k+1),by omega,.inl ⟨k+1,_,by omega,rfl,fX hacc hd,n2,rfl,rfl⟩⟩
  ·have nb:¬Qo s a k:=by rintro (⟨_,h2⟩ | ⟨_,h2⟩)<;>omega
   rw [vals nb];exact .inr ⟨by trivial,_,_,ret nb (by omega),by simp [wk],rfl⟩
  ·have nb:¬Qo s a k:=by rintro (⟨_,h2⟩ | ⟨_,h2⟩)<;>omega
   rw [vals nb];obtain ⟨n1,n2⟩:=bV hs hk hl nb (by omega);exact ⟨9 - (k+1),by omega,.inl ⟨k+1,_,by omega,rfl,fX hacc hd,n2,rfl,rfl⟩⟩
 ·refine ⟨fun h=>absurd (of_decide_eq_true h) (by omega),fun _=>.inl ⟨by trivial,Mb hs hk (.inl hl),by simp [wk],rfl⟩⟩
def Jg (xs:List AV):Bool:=match xs with
 | [.agg l,.int _ t]=>(wrd l t.toNat).isSome
 | _=>false
def C0 (xs:List AV):Int:=match xs with
 | [.agg l,.int _ t]=>match wrd l t.toNat with
  | some (v,_)=>v
  | none=>0
 | _=>0
def I6 (xs:List AV):Int:=match xs with
 | [.agg l,.int _ t]=>match wrd l t.toNat with
  | some _=>0
  | none=>4
 | _=>4
def B3 (xs:List AV):Int:=match xs with
 | [.agg l,.int _ t]=>match wrd l t.toNat with
  | some (_,j)=>((t.toNat+j:Nat):Int)
  | none=>t
 | _=>0
def okRdU (xs:List AV):Bool:=match xs with
 | [.agg l,.ptr _ n,.int _ a]=>V5 l&&(Nat.beq l.length n&&(leB n 4611686018427387904&&(decide (0≤a)&&decide (a≤(n:Int)))))
 | _=>false
structure RdOk (l:List AV) (n:Nat) (a:Int):Prop where
 b:V5 l=true
 len:l.length=n
 big:n≤4611686018427387904
 pos:a=(a.toNat:Int)
 le:a.toNat≤n
theorem X6 {l:List AV} {r:Ref} {n:Nat} {k:IntKind} {a:Int}:okRdU [.agg l,.ptr r n,.int k a]=true↔RdOk l n a:=by
 simp only [okRdU,Bool.and_eq_true,A6,decide_eq_true_eq];exact ⟨fun ⟨h1,h2,h3,h4,h5⟩=>⟨h1,Nat.eq_of_beq_eq_true h2,h3,by omega,by omega⟩,fun h=>⟨h.b,by rw [h.len];exact Nat.beq_refl _,h.big,by have:=h.pos;omega,by have:=h.pos;have:=h.le;omega⟩⟩
def rL20:DL:=⟨0,61,[0,2,3,4,5,6],fun vs H=>match vs,H with
 | [.ptr (.rw 0) (.lit 0),.int .u64 (.lit 0),.int .i64 (.lit 0),.int .u64 (.lit 0),.int .i64 a,.int .u64 (.lit 0)],[some ⟨1,.of [.slice false (.rw 1) (.lit 0) n,.int .i64 b]⟩,some ⟨1,l⟩]=>
  some (.chk (.uf 1120 okRdU [.agg l,.ptr (.rw 0) n,.int .i64 a])<|.chk (.cmp .eql a b)<|.tst (.uf 1121 Jg [.agg l,.int .i64 a])
   (.one .ret [.ptr (.rw 0) (.lit 0),.int .u64 (.uf 1122 C0 [.agg l,.int .i64 a]),.int .i64 (.lit 0),.undef,.undef,.undef] [some ⟨1,.of [.slice false (.rw 1) (.lit 0) n,.int .i64 (.uf 1124 B3 [.agg l,.int .i64 a])]⟩,some ⟨1,l⟩])
   (.one (.exit 0) [.ptr (.rw 0) (.lit 0),.int .u64 (.lit 0),.int .i64 (.lit 0),.undef,.undef,.undef] [some ⟨1,.of [.slice false (.rw 1) (.lit 0) n,.int .i64 b]⟩,some ⟨1,l⟩]))
 | _,_=>none⟩
theorem xT (G:Nat→List AV) (B:Nat):H5 (⟨Try.prog,G,B⟩:A2) 2 (A5 Try.f86 0) rL20:=by
 refine .of fun vs H o ho n Q hQ=>?_;simp only [rL20] at ho;split at ho
 ·rename_i a n b l;simp only [Option.some.injEq] at ho;subst ho;obtain ⟨h1,h2,h3,h4⟩:=hQ;simp only [vB,vVs,vV,vR,vN] at h1 h2 h3 h4;have ok:=X6.1 h1;have h2:vI G a=vI G b:=by simpa [Nn] using h2
  simp only [rL20,vVs,vV,vR,vN,vI,vL,B8,List.map_cons,List.map_nil,Option.map_some,C8];rw [←h2,ok.pos];refine (rl20 G B _ _ _ ok.b ok.len ok.big ok.le).lmono ?_;rintro e vs'' H'' (⟨rfl,g1,g2,rfl⟩ | ⟨rfl,v,j,g1,g2,rfl⟩)
  ·have:=h4 (by simp [Jg,g1])
   refine .inl ⟨_,g2,?_⟩;simp only [I0,vVs,vV,vR,vN,vI,vB,vL,B8,List.map_cons,List.map_nil,Option.map_some,C8] at this;rw [←h2,ok.pos] at this;exact this
  ·have:=h3 (by simp [Jg,g1])
   refine .inl ⟨_,g2,?_⟩;simp only [I0,vVs,vV,vR,vN,vI,vB,vL,B8,List.map_cons,List.map_nil,Option.map_some,C8,C0,B3,g1] at this;exact this
 ·simp at ho
theorem dgR20 (G:Nat→List AV) (B:Nat):DGood (⟨Try.prog,G,B⟩:A2) (Dc Try.prog [87] [] [rL20] 2) (loopsOf (B4 Try.f86)):=D3 (mix G B) (by kernel_rfl) .nil (.cast (.cons (i:=0) (by kernel_rfl) rfl (xT G B) .nil) (by kernel_rfl))
theorem w20 (G:Nat→List AV) (s:List AV) (n:Nat) (a:Int) (Q:Ex→List AV→Hp→Prop) (R:AV→Hp→Prop):vT G Q R (G6 (Dc Try.prog [87] [] [rL20] 2) 200 10 Try.f86 [.ptr (.rw 0) (.lit 0)] [some ⟨1,.of [.slice false (.rw 1) (.lit 0) (.var 4 n),.int .i64 (.var 5 a)]⟩,some ⟨1,.var 6 s⟩] 2)=(
  okRdU [.agg s,.ptr (.rw 0) (n),.int .i64 (a)]=true∧((a:Int)==a)=true∧(Jg [.agg s,.int .i64 (a)]=true→R (.tup [.int .u64 (C0 [.agg s,.int .i64 (a)]),.int .i64 (0)]) [some ⟨1,([.slice false (.rw 1) (0) (n),.int .i64 (B3 [.agg s,.int .i64 (a)])]:List AV)⟩,some ⟨1,s⟩])∧(Jg [.agg s,.int .i64 (a)]=false→R (.tup [.int .u64 (0),.int .i64 (4)]) [some ⟨1,([.slice false (.rw 1) (0) (n),.int .i64 (a)]:List AV)⟩,some ⟨1,s⟩])):=by kernel_rfl
theorem xO {l:List AV} {k:IntKind} {a:Int}:(Jg [.agg l,.int k a]=true→I6 [.agg l,.int k a]=0)∧(Jg [.agg l,.int k a]=false→I6 [.agg l,.int k a]=4∧C0 [.agg l,.int k a]=0∧B3 [.agg l,.int k a]=a):=by
 simp only [Jg,I6,C0,B3];cases wrd l a.toNat with
 | none=>exact ⟨fun h=>by simp at h,fun _=>⟨rfl,rfl,rfl⟩⟩
 | some p=>exact ⟨fun _=>rfl,fun h=>by simp at h⟩
theorem read20 (G:Nat→List AV) (B:Nat) (s:List AV) (n:Nat) (a:Int) (h:okRdU [.agg s,.ptr (.rw 0) n,.int .i64 a]=true):ACalls (⟨Try.prog,G,B⟩:A2) 86 [.ptr (.rw 0) 0] [some ⟨1,[.slice false (.rw 1) 0 n,.int .i64 a]⟩,some ⟨1,s⟩]
  fun v' H'=>v'=.tup [.int .u64 (C0 [.agg s,.int .i64 a]),.int .i64 (I6 [.agg s,.int .i64 a])]∧H'=[some ⟨1,[.slice false (.rw 1) 0 n,.int .i64 (B3 [.agg s,.int .i64 a])]⟩,some ⟨1,s⟩]:=by
 have hf:∀ j,A4 j s=true:=fun j=>B7 (W8 (X6.1 h).b)
 have key:=C7 (C:=(⟨Try.prog,G,B⟩:A2)) (fn:=Try.f86) (f:=86) (R:=fun v' H'=>v'=.tup [.int .u64 (C0 [.agg s,.int .i64 a]),.int .i64 (I6 [.agg s,.int .i64 a])]∧H'=[some ⟨1,[.slice false (.rw 1) 0 n,.int .i64 (B3 [.agg s,.int .i64 a])]⟩,some ⟨1,s⟩])
  (dgR20 G B) (by kernel_rfl) (by kernel_rfl) (by kernel_rfl) (fuel:=200) (n0:=10) (keep:=2) (args:=[.ptr (.rw 0) (.lit 0)]) (H:=[some ⟨1,.of [.slice false (.rw 1) (.lit 0) (.var 4 n),.int .i64 (.var 5 a)]⟩,some ⟨1,.var 6 s⟩]) (by
  rw [w20];obtain ⟨g1,g2⟩:=xO (l:=s) (k:=.i64) (a:=a);refine ⟨h,beq_self_eq_true a,fun hk=>?_,fun hk=>?_⟩
  ·rw [g1 hk];exact ⟨rfl,rfl⟩
  ·obtain ⟨e1,e2,e3⟩:=g2 hk
   rw [e1,e2,e3];exact ⟨rfl,rfl⟩)
 exact ACalls.keep (H:=[some ⟨1,[.slice false (.rw 1) 0 n,.int .i64 a]⟩,some ⟨1,s⟩]) key (by simp) (by simp [J5,A4,A8,hf]) (by simp [A8,A4]) (by simp)
def readS:DSum:=fun xs H=>match xs with
 | [.ptr (.rw i) (.lit 0)]=>match H[i]? with
  | some (some ⟨1,.of [.slice false (.rw m) (.lit 0) n,.int .i64 a]⟩)=>match H[m]? with
   | some (some ⟨1,l⟩)=>match Nat.beq i m with
    | true=>none
    | false=>some (.chk (.uf 1120 okRdU [.agg l,.ptr (.rw 0) n,.int .i64 a]) (.one (.tup [.int .u64 (.uf 1122 C0 [.agg l,.int .i64 a]),.int .i64 (.uf 1123 I6 [.agg l,.int .i64 a])]) [.set i ⟨1,.of [.slice false (.rw m) (.lit 0) n,.int .i64 (.uf 1124 B3 [.agg l,.int .i64 a])]⟩]))
   | _=>none
  | _=>none
 | _=>none
theorem cX (G:Nat→List AV) (B:Nat):C5 (⟨Try.prog,G,B⟩:A2) 86 readS:=by
 intro xs H o ho;simp only [readS] at ho;split at ho
 ·rename_i i;split at ho
  ·rename_i m n a hi;split at ho
   ·rename_i l hm;split at ho
    ·simp at ho
    ·rename_i him;have him:i≠m:=fun h=>by rw [h,Nat.beq_refl] at him;simp at him
     simp only [Option.some.injEq] at ho;subst ho;intro h1;simp only [vB,vVs,vV,vR,vN] at h1;have hf:∀ j,A4 j (vL G l)=true:=fun j=>B7 (W8 (X6.1 h1).b);have key:=read20 G B (vL G l) (vN G n) (vI G a) h1;refine E0.fr (θ:=[i,m]) (by simp [him]) rfl (fun k b hk=>?_) (by simp [A4,A8]) (by simp [vVs,vV,vR,vN,rens,C1]) key (by simp) (by simp [A8,A4]) (by simp [J5,hf,A4,A8]) (by simp [vV,vVs,vI,C1,rens]) ?_
     ·match k with
      | 0=>simp at hk;subst hk;exact ⟨_,rfl,by simp [A4,A8],by simpa [K2,C8,vL,vVs,vV,vR,vN,rens,C1] using E9 (G:=G) hi⟩
      | 1=>simp at hk;subst hk;exact ⟨_,rfl,hf _,by simpa [K2,C8,B5 _ _ (hf 0)] using E9 (G:=G) hm⟩
      | k+2=>simp at hk
     ·have hs:=Dj (G:=G) hm;simp only [C8] at hs;simp only [List.map_cons,List.map_nil,acts,Hop.act,I1,C8,T8,lay,U4,K2,Option.map_some,B5 _ _ (hf 0),List.length_cons,List.length_nil,List.drop_succ_cons,List.drop_nil,List.append_nil,vL,vVs,vV,vR,vN,vI];rw [List.set_comm _ _ him,hs];simp [rens,C1,R3]
   ·simp at ho
  ·simp at ho
 ·simp at ho
end Go.Am
namespace Go.Am
open Go.Proofs
set_option maxRecDepth 100000
def readQ:List (Nat×DSum):=[(86,readS)]
theorem rT (G:Nat→List AV) (B:Nat):P6 (⟨Try.prog,G,B⟩:A2) readQ:=.cons (cX G B) .nil
theorem dgQ (G:Nat→List AV) (B:Nat):DGood (⟨Try.prog,G,B⟩:A2) (Dc Try.prog [92,87,88] readQ [] 2) []:=D3 (mix G B) (by kernel_rfl) (rT G B) .nil
theorem w23 (G:Nat→List AV) (s:List AV) (n:Nat) (a:Int) (Q:Ex→List AV→Hp→Prop) (R:AV→Hp→Prop):vT G Q R (G6 (Dc Try.prog [92,87,88] readQ [] 2) 200 10 Try.f91 [.ptr (.rw 0) (.lit 0)] [some ⟨1,.of [.slice false (.rw 1) (.lit 0) (.var 4 n),.int .i64 (.var 5 a)]⟩,some ⟨1,.var 6 s⟩] 2)=(
  (((IntKind.wrap .i64 (((n:Nat):Int) - a):Int)==0)=true→R (.tup [.bool (false),.int .i64 (4)]) [some ⟨1,([.slice false (.rw 1) (0) (n),.int .i64 (a)]:List AV)⟩,some ⟨1,s⟩])∧(((IntKind.wrap .i64 (((n:Nat):Int) - a):Int)==0)=false→decide ((0:Int)≤a)=true∧decide ((a:Int)<((n:Nat):Int))=true∧isI .u8 s (Int.toNat (a))=true∧(decide ((A0 s (Int.toNat (a)):Int)>1)=true→R (.tup [.bool (false),.int .i64 (4)]) [some ⟨1,([.slice false (.rw 1) (0) (n),.int .i64 (a)]:List AV)⟩,some ⟨1,s⟩])∧(decide ((A0 s (Int.toNat (a)):Int)>1)=false→decide ((0:Int)≤IntKind.wrap .i64 (IntKind.wrap .i64 (a+1) - 1))=true∧decide ((IntKind.wrap .i64 (IntKind.wrap .i64 (a+1) - 1):Int)<((n:Nat):Int))=true∧isI .u8 s (Int.toNat (IntKind.wrap .i64 (IntKind.wrap .i64 (a+1) - 1)))=true∧R (.tup [.bool (((A0 s (Int.toNat (IntKind.wrap .i64 (IntKind.wrap .i64 (a+1) - 1))):Int)==1)),.int .i64 (0)]) [some ⟨1,([.slice false (.rw 1) (0) (n),.int .i64 (IntKind.wrap .i64 (a+1))]:List AV)⟩,some ⟨1,s⟩]))):=by kernel_rfl
theorem w22 (G:Nat→List AV) (s:List AV) (n:Nat) (a m:Int) (Q:Ex→List AV→Hp→Prop) (R:AV→Hp→Prop):vT G Q R (G6 (Dc Try.prog [92,87,88] readQ [] 2) 200 10 Try.f89 [.ptr (.rw 0) (.lit 0),.int .i64 (.var 7 m)] [some ⟨1,.of [.slice false (.rw 1) (.lit 0) (.var 4 n),.int .i64 (.var 5 a)]⟩,some ⟨1,.var 6 s⟩] 4)=(
  (decide ((m:Int)<0)=true→R (.tup [.nils,.int .i64 (2)]) [some ⟨1,([.slice false (.rw 1) (0) (n),.int .i64 (a)]:List AV)⟩,some ⟨1,s⟩])∧(decide ((m:Int)<0)=false→okRdU [.agg s,.ptr (.rw 0) (n),.int .i64 (a)]=true∧(((I6 [.agg s,.int .i64 (a)]:Int)==0)=true→(decide ((C0 [.agg s,.int .i64 (a)]:Int)>IntKind.wrap .u64 (m))=true→R (.tup [.nils,.int .i64 (3)]) [some ⟨1,([.slice false (.rw 1) (0) (n),.int .i64 (a)]:List AV)⟩,some ⟨1,s⟩])∧(decide ((C0 [.agg s,.int .i64 (a)]:Int)>IntKind.wrap .u64 (m))=false→((I6 [.agg s,.int .i64 (a)]:Int)==0)=true∧(decide ((IntKind.wrap .i64 (C0 [.agg s,.int .i64 (a)]):Int)>IntKind.wrap .i64 (((n:Nat):Int) - B3 [.agg s,.int .i64 (a)]))=true→R (.tup [.nils,.int .i64 (4)]) [some ⟨1,([.slice false (.rw 1) (0) (n),.int .i64 (a)]:List AV)⟩,some ⟨1,s⟩])∧(decide ((IntKind.wrap .i64 (C0 [.agg s,.int .i64 (a)]):Int)>IntKind.wrap .i64 (((n:Nat):Int) - B3 [.agg s,.int .i64 (a)]))=false→decide ((0:Int)≤IntKind.wrap .i64 (IntKind.wrap .i64 (B3 [.agg s,.int .i64 (a)]+IntKind.wrap .i64 (C0 [.agg s,.int .i64 (a)])) - IntKind.wrap .i64 (C0 [.agg s,.int .i64 (a)])))=true∧decide ((IntKind.wrap .i64 (IntKind.wrap .i64 (B3 [.agg s,.int .i64 (a)]+IntKind.wrap .i64 (C0 [.agg s,.int .i64 (a)])) - IntKind.wrap .i64 (C0 [.agg s,.int .i64 (a)])):Int)≤IntKind.wrap .i64 (B3 [.agg s,.int .i64 (a)]+IntKind.wrap .i64 (C0 [.agg s,.int .i64 (a)])))=true∧decide ((IntKind.wrap .i64 (B3 [.agg s,.int .i64 (a)]+IntKind.wrap .i64 (C0 [.agg s,.int .i64 (a)])):Int)≤((n:Nat):Int))=true∧
 leB (Int.toNat (IntKind.wrap .i64 (IntKind.wrap .i64 (B3 [.agg s,.int .i64 (a)]+IntKind.wrap .i64 (C0 [.agg s,.int .i64 (a)])) - IntKind.wrap .i64 (C0 [.agg s,.int .i64 (a)])))+((Int.toNat (IntKind.wrap .i64 (B3 [.agg s,.int .i64 (a)]+IntKind.wrap .i64 (C0 [.agg s,.int .i64 (a)])))) - (Int.toNat (IntKind.wrap .i64 (IntKind.wrap .i64 (B3 [.agg s,.int .i64 (a)]+IntKind.wrap .i64 (C0 [.agg s,.int .i64 (a)])) - IntKind.wrap .i64 (C0 [.agg s,.int .i64 (a)])))))) (List.length s)=true∧cellsB (A7 s (Int.toNat (IntKind.wrap .i64 (IntKind.wrap .i64 (B3 [.agg s,.int .i64 (a)]+IntKind.wrap .i64 (C0 [.agg s,.int .i64 (a)])) - IntKind.wrap .i64 (C0 [.agg s,.int .i64 (a)])))) ((Int.toNat (IntKind.wrap .i64 (B3 [.agg s,.int .i64 (a)]+IntKind.wrap .i64 (C0 [.agg s,.int .i64 (a)])))) - (Int.toNat (IntKind.wrap .i64 (IntKind.wrap .i64 (B3 [.agg s,.int .i64 (a)]+IntKind.wrap .i64 (C0 [.agg s,.int .i64 (a)])) - IntKind.wrap .i64 (C0 [.agg s,.int .i64 (a)]))))))=true∧leB ((Int.toNat (IntKind.wrap .i64 (B3 [.agg s,.int .i64 (a)]+IntKind.wrap .i64 (C0 [.agg s,.int .i64 (a)])))) - (Int.toNat (IntKind.wrap .i64 (IntKind.wrap .i64 (B3 [.agg s,.int .i64 (a)]+IntKind.wrap .i64 (C0 [.agg s,.int .i64 (a)])) - IntKind.wrap .i64 (C0 [.agg s,.int .i64 (a)]))))) (140737488355328)=true∧
 R (.tup [.slice false (.rw 3) (0) ((Int.toNat (IntKind.wrap .i64 (B3 [.agg s,.int .i64 (a)]+IntKind.wrap .i64 (C0 [.agg s,.int .i64 (a)])))) - (Int.toNat (IntKind.wrap .i64 (IntKind.wrap .i64 (B3 [.agg s,.int .i64 (a)]+IntKind.wrap .i64 (C0 [.agg s,.int .i64 (a)])) - IntKind.wrap .i64 (C0 [.agg s,.int .i64 (a)]))))),.int .i64 (0)]) [some ⟨1,([.slice false (.rw 1) (0) (n),.int .i64 (IntKind.wrap .i64 (B3 [.agg s,.int .i64 (a)]+IntKind.wrap .i64 (C0 [.agg s,.int .i64 (a)])))]:List AV)⟩,some ⟨1,s⟩,none,some ⟨1,(A7 s (Int.toNat (IntKind.wrap .i64 (IntKind.wrap .i64 (B3 [.agg s,.int .i64 (a)]+IntKind.wrap .i64 (C0 [.agg s,.int .i64 (a)])) - IntKind.wrap .i64 (C0 [.agg s,.int .i64 (a)])))) ((Int.toNat (IntKind.wrap .i64 (B3 [.agg s,.int .i64 (a)]+IntKind.wrap .i64 (C0 [.agg s,.int .i64 (a)])))) - (Int.toNat (IntKind.wrap .i64 (IntKind.wrap .i64 (B3 [.agg s,.int .i64 (a)]+IntKind.wrap .i64 (C0 [.agg s,.int .i64 (a)])) - IntKind.wrap .i64 (C0 [.agg s,.int .i64 (a)]))))))⟩])))∧(((I6 [.agg s,.int .i64 (a)]:Int)==0)=false→(!(((I6 [.agg s,.int .i64 (a)]:Int)==0)))=true∧(!(((I6 [.agg s,.int .i64 (a)]:Int)==0)))=true∧(!(((I6 [.agg s,.int .i64 (a)]:Int)==0)))=true∧R (.tup [.nils,.int .i64 (I6 [.agg s,.int .i64 (a)])]) [some ⟨1,([.slice false (.rw 1) (0) (n),.int .i64 (a)]:List AV)⟩,some ⟨1,s⟩]))):=by kernel_rfl
def Ig (l:List AV) (a:Nat):Bool:=decide (a<l.length)&&decide (A0 l a≤1)
def Gr (xs:List AV):Bool:=match xs with
 | [.agg l,.int _ a]=>Ig l a.toNat&&(A0 l a.toNat==1)
 | _=>false
def Ki (xs:List AV):Int:=match xs with
 | [.agg l,.int _ a]=>if Ig l a.toNat then 0 else 4
 | _=>4
def Mn (xs:List AV):Int:=match xs with
 | [.agg l,.int _ a]=>if Ig l a.toNat then a+1 else a
 | _=>0
theorem flag23 (G:Nat→List AV) (B:Nat) (s:List AV) (n:Nat) (a:Int) (h:okRdU [.agg s,.ptr (.rw 0) n,.int .i64 a]=true):ACalls (⟨Try.prog,G,B⟩:A2) 91 [.ptr (.rw 0) 0] [some ⟨1,[.slice false (.rw 1) 0 n,.int .i64 a]⟩,some ⟨1,s⟩]
  fun v' H'=>v'=.tup [.bool (Gr [.agg s,.int .i64 a]),.int .i64 (Ki [.agg s,.int .i64 a])]∧H'=[some ⟨1,[.slice false (.rw 1) 0 n,.int .i64 (Mn [.agg s,.int .i64 a])]⟩,some ⟨1,s⟩]:=by
 have ok:=X6.1 h;have hf:∀ j,A4 j s=true:=fun j=>B7 (W8 ok.b);have hp:=ok.pos;have hle:=ok.le;have hbig:=ok.big;have hlen:=ok.len
 have key:=C7 (C:=(⟨Try.prog,G,B⟩:A2)) (fn:=Try.f91) (f:=91) (R:=fun v' H'=>v'=.tup [.bool (Gr [.agg s,.int .i64 a]),.int .i64 (Ki [.agg s,.int .i64 a])]∧H'=[some ⟨1,[.slice false (.rw 1) 0 n,.int .i64 (Mn [.agg s,.int .i64 a])]⟩,some ⟨1,s⟩])
  (dgQ G B) (by kernel_rfl) (by kernel_rfl) (by kernel_rfl) (fuel:=200) (n0:=10) (keep:=2) (args:=[.ptr (.rw 0) (.lit 0)]) (H:=[some ⟨1,.of [.slice false (.rw 1) (.lit 0) (.var 4 n),.int .i64 (.var 5 a)]⟩,some ⟨1,.var 6 s⟩]) (by
  rw [w23];have w1:IntKind.wrap .i64 (((n:Nat):Int) - a)=(n:Int) - a:=C4 (by omega);have w2:IntKind.wrap .i64 (a+1)=a+1:=C4 (by omega);have w3:IntKind.wrap .i64 (a+1 - 1)=a:=by rw [C4 (by omega)];omega
  rw [w1,w2,w3];refine ⟨fun h0=>?_,fun h0=>?_⟩
  ·have h0:=eq_of_beq h0
   have:Ig s a.toNat=false:=by simp [Ig];omega
   simp [Gr,Ki,Mn,this]
  ·have h0:=ne_of_beq_false h0;have hl:a.toNat<s.length:=by omega
   obtain ⟨g1,g2,g3⟩:=jS ok.b hl;have p0:decide ((0:Int)≤a)=true:=decide_eq_true (by omega);have p1:decide (a<((n:Nat):Int))=true:=decide_eq_true (by omega);refine ⟨p0,p1,g1,fun hc=>?_,fun hc=>⟨p0,p1,g1,?_⟩⟩
   ·have hc:=of_decide_eq_true hc
    have:Ig s a.toNat=false:=by simp [Ig];omega
    simp [Gr,Ki,Mn,this]
   ·have hc:=of_decide_eq_false hc
    have:Ig s a.toNat=true:=by simp [Ig];omega
    simp [Gr,Ki,Mn,this])
 exact ACalls.keep (H:=[some ⟨1,[.slice false (.rw 1) 0 n,.int .i64 a]⟩,some ⟨1,s⟩]) key (by simp) (by simp [J5,A4,A8,hf]) (by simp [A8,A4]) (by simp)
theorem E0.reader {C:A2} {f:FuncId} {H:DHp} {i m:Nat} {n:EN} {a a':EI} {l:EL} {rest:List EV} {v:EV} (him:i≠m) (hi:H[i]?=some (some ⟨1,.of [.slice false (.rw m) (.lit 0) n,.int .i64 a]⟩)) (hm:H[m]?=some (some ⟨1,l⟩))
  (hf:∀ j,A4 j (vL C.G l)=true) (hr:A4 0 (vVs C.G rest)=true) (hv:A8 0 (vV C.G v)=true)
  (key:ACalls C f (.ptr (.rw 0) 0::vVs C.G rest) [some ⟨1,[.slice false (.rw 1) 0 (vN C.G n),.int .i64 (vI C.G a)]⟩,some ⟨1,vL C.G l⟩] fun v' H'=>v'=vV C.G v∧H'=[some ⟨1,[.slice false (.rw 1) 0 (vN C.G n),.int .i64 (vI C.G a')]⟩,some ⟨1,vL C.G l⟩]) :
  E0 C f (.ptr (.rw i) (.lit 0)::rest) H v [.set i ⟨1,.of [.slice false (.rw m) (.lit 0) n,.int .i64 a']⟩]:=by
 refine E0.fr (θ:=[i,m]) (by simp [him]) rfl (fun k b hk=>?_) (by simp only [A4,A8,Bool.and_eq_true];exact ⟨by simp,I3 (Nat.zero_le _) _ hr⟩) (by simp only [vVs,vV,vR,vN,rens,C1,B5 _ _ hr];rfl) key (by simp) (Tv (Nat.zero_le _) _ hv) (by simp [J5,hf,A4,A8]) (Es _ _ hv).symm ?_
 ·match k with
  | 0=>simp at hk;subst hk;exact ⟨_,rfl,by simp [A4,A8],by simpa [K2,C8,vL,vVs,vV,vR,vN,rens,C1] using E9 (G:=C.G) hi⟩
  | 1=>simp at hk;subst hk;exact ⟨_,rfl,hf _,by simpa [K2,C8,B5 _ _ (hf 0)] using E9 (G:=C.G) hm⟩
  | k+2=>simp at hk
 ·have hs:=Dj (G:=C.G) hm;simp only [C8] at hs;simp only [List.map_cons,List.map_nil,acts,Hop.act,I1,C8,T8,lay,U4,K2,Option.map_some,B5 _ _ (hf 0),List.length_cons,List.length_nil,List.drop_succ_cons,List.drop_nil,List.append_nil,vL,vVs,vV,vR,vN,vI];rw [List.set_comm _ _ him,hs];simp [rens,C1,R3]
def flagR:DSum:=fun xs H=>match xs with
 | [.ptr (.rw i) (.lit 0)]=>match H[i]? with
  | some (some ⟨1,.of [.slice false (.rw m) (.lit 0) n,.int .i64 a]⟩)=>match H[m]? with
   | some (some ⟨1,l⟩)=>match Nat.beq i m with
    | true=>none
    | false=>some (.chk (.uf 1120 okRdU [.agg l,.ptr (.rw 0) n,.int .i64 a]) (.one (.tup [.bool (.uf 1125 Gr [.agg l,.int .i64 a]),.int .i64 (.uf 1126 Ki [.agg l,.int .i64 a])]) [.set i ⟨1,.of [.slice false (.rw m) (.lit 0) n,.int .i64 (.uf 1127 Mn [.agg l,.int .i64 a])]⟩]))
   | _=>none
  | _=>none
 | _=>none
theorem tM (G:Nat→List AV) (B:Nat):C5 (⟨Try.prog,G,B⟩:A2) 91 flagR:=by
 intro xs H o ho;simp only [flagR] at ho;split at ho
 ·rename_i i;split at ho
  ·rename_i m n a hi;split at ho
   ·rename_i l hm;split at ho
    ·simp at ho
    ·rename_i him;have him:i≠m:=fun h=>by rw [h,Nat.beq_refl] at him;simp at him
     simp only [Option.some.injEq] at ho;subst ho;intro h1;simp only [vB,vVs,vV,vR,vN] at h1;refine E0.reader (C:=(⟨Try.prog,G,B⟩:A2)) (rest:=[]) him hi hm (fun j=>B7 (W8 (X6.1 h1).b)) rfl (by simp [vV,vVs,A8,A4]) ?_;simp only [vVs,vV,vB,vI];exact flag23 G B (vL G l) (vN G n) (vI G a) h1
   ·simp at ho
  ·simp at ho
 ·simp at ho
theorem bW {s:List AV} {t:Nat}:∀ (f k v j:Nat),Ab s t f k=some (v,j)→t+k+j≤s.length
 | 0,_,_,_,h=>by simp [Ab] at h
 | f+1,k,v,j,h=>by
  rw [Ab] at h;split at h
  ·rename_i hl;split at h
   ·simp at h
   ·split at h
    ·simp at h;omega
    ·cases hr:Ab s t f (k+1) with
     | none=>rw [hr] at h;simp at h
     | some p=>
      rw [hr] at h
      have:=bW f (k+1) p.1 p.2 hr
      simp at h;omega
  ·simp at h
theorem rX {l:List AV} {n:Nat} {k:IntKind} {a:Int} (h:RdOk l n a) (h0:I6 [.agg l,.int k a]=0):0≤C0 [.agg l,.int k a]∧a≤B3 [.agg l,.int k a]∧B3 [.agg l,.int k a]≤n:=by
 have hp:=h.pos;have hl:=h.len;simp only [I6,C0,B3] at h0 ⊢;cases hw:wrd l a.toNat with
 | none=>rw [hw] at h0;simp at h0
 | some p=>
  obtain ⟨v,j⟩:=p
  have:=bW _ _ _ _ hw
  simp only [hw];omega
def Aj (l:List AV) (n:Nat) (a m:Int):Bool:=decide (I6 [.agg l,.int .i64 a]=0)&&(decide (C0 [.agg l,.int .i64 a]≤m)&&decide (C0 [.agg l,.int .i64 a]≤(n:Int) - B3 [.agg l,.int .i64 a]))
def Ch (xs:List AV):Int:=match xs with
 | [.agg l,.ptr _ n,.int _ a,.int _ m]=>if I6 [.agg l,.int .i64 a]=0 then (if C0 [.agg l,.int .i64 a]≤m then (if C0 [.agg l,.int .i64 a]≤(n:Int) - B3 [.agg l,.int .i64 a] then 0 else 4) else 3) else I6 [.agg l,.int .i64 a]
 | _=>4
def Bm (xs:List AV):Nat:=match xs with
 | [.agg l,.ptr _ n,.int _ a,.int _ m]=>if Aj l n a m then (C0 [.agg l,.int .i64 a]).toNat else 0
 | _=>0
def Bn (xs:List AV):List AV:=match xs with
 | [.agg l,.ptr _ n,.int _ a,.int _ m]=>if Aj l n a m then A7 l (B3 [.agg l,.int .i64 a]).toNat (C0 [.agg l,.int .i64 a]).toNat else []
 | _=>[]
def S9 (xs:List AV):Int:=match xs with
 | [.agg l,.ptr _ n,.int _ a,.int _ m]=>if Aj l n a m then B3 [.agg l,.int .i64 a]+C0 [.agg l,.int .i64 a] else a
 | _=>0
theorem uC (G:Nat→List AV) (B:Nat) (s:List AV) (n:Nat) (a m:Int) (h:okRdU [.agg s,.ptr (.rw 0) n,.int .i64 a]=true) (h40:n≤1099511627776) (hm:0≤m∧m≤9223372036854775807):ACalls (⟨Try.prog,G,B⟩:A2) 89 [.ptr (.rw 0) 0,.int .i64 m] [some ⟨1,[.slice false (.rw 1) 0 n,.int .i64 a]⟩,some ⟨1,s⟩]
  fun v' H'=>(Aj s n a m=false∧v'=.tup [.nils,.int .i64 (Ch [.agg s,.ptr (.rw 0) n,.int .i64 a,.int .i64 m])]∧H'.take 4=[some ⟨1,[.slice false (.rw 1) 0 n,.int .i64 a]⟩,some ⟨1,s⟩])∨
   (Aj s n a m=true∧v'=.tup [.slice false (.rw 3) 0 (Bm [.agg s,.ptr (.rw 0) n,.int .i64 a,.int .i64 m]),.int .i64 0]∧H'.take 4=[some ⟨1,[.slice false (.rw 1) 0 n,.int .i64 (S9 [.agg s,.ptr (.rw 0) n,.int .i64 a,.int .i64 m])]⟩,some ⟨1,s⟩,none,some ⟨1,Bn [.agg s,.ptr (.rw 0) n,.int .i64 a,.int .i64 m]⟩]):=by
 have ok:=X6.1 h;have hp:=ok.pos;have hle:=ok.le;have hlen:=ok.len
 exact C7 (C:=(⟨Try.prog,G,B⟩:A2)) (fn:=Try.f89) (f:=89) (R:=fun v' H'=>(Aj s n a m=false∧v'=.tup [.nils,.int .i64 (Ch [.agg s,.ptr (.rw 0) n,.int .i64 a,.int .i64 m])]∧H'=[some ⟨1,[.slice false (.rw 1) 0 n,.int .i64 a]⟩,some ⟨1,s⟩])∨
   (Aj s n a m=true∧v'=.tup [.slice false (.rw 3) 0 (Bm [.agg s,.ptr (.rw 0) n,.int .i64 a,.int .i64 m]),.int .i64 0]∧H'=[some ⟨1,[.slice false (.rw 1) 0 n,.int .i64 (S9 [.agg s,.ptr (.rw 0) n,.int .i64 a,.int .i64 m])]⟩,some ⟨1,s⟩,none,some ⟨1,Bn [.agg s,.ptr (.rw 0) n,.int .i64 a,.int .i64 m]⟩]))
  (dgQ G B) (by kernel_rfl) (by kernel_rfl) (by kernel_rfl) (fuel:=200) (n0:=10) (keep:=4) (args:=[.ptr (.rw 0) (.lit 0),.int .i64 (.var 7 m)]) (H:=[some ⟨1,.of [.slice false (.rw 1) (.lit 0) (.var 4 n),.int .i64 (.var 5 a)]⟩,some ⟨1,.var 6 s⟩]) (by
  rw [w22];have wm:IntKind.wrap .u64 m=m:=Fw (by omega);rw [wm];refine ⟨fun h0=>absurd (of_decide_eq_true h0) (by omega),fun _=>⟨h,fun he=>?_,fun he=>?_⟩⟩
  ·have he:=eq_of_beq he;obtain ⟨b1,b2,b3⟩:=rX (k:=.i64) ok he;refine ⟨fun hv=>?_,fun hv=>⟨by rw [he];rfl,?_⟩⟩
   ·have hv:=of_decide_eq_true hv;exact .inl ⟨by simp [Aj];omega,by simp only [Ch,he,if_true];rw [if_neg (by omega)],rfl⟩
   ·have hv:=of_decide_eq_false hv;have w1:IntKind.wrap .i64 (C0 [.agg s,.int .i64 a])=C0 [.agg s,.int .i64 a]:=C4 (by omega);have w2:IntKind.wrap .i64 ((n:Int) - B3 [.agg s,.int .i64 a])=(n:Int) - B3 [.agg s,.int .i64 a]:=C4 (by omega);rw [w1,w2];refine ⟨fun hc=>?_,fun hc=>?_⟩
    ·have hc:=of_decide_eq_true hc;exact .inl ⟨by simp [Aj];omega,by simp only [Ch,he,if_true];rw [if_pos (by omega),if_neg (by omega)],rfl⟩
    ·have hc:=of_decide_eq_false hc;have w3:IntKind.wrap .i64 (B3 [.agg s,.int .i64 a]+C0 [.agg s,.int .i64 a])=B3 [.agg s,.int .i64 a]+C0 [.agg s,.int .i64 a]:=C4 (by omega);have w4:IntKind.wrap .i64 (B3 [.agg s,.int .i64 a]+C0 [.agg s,.int .i64 a] - C0 [.agg s,.int .i64 a])=B3 [.agg s,.int .i64 a]:=by rw [C4 (by omega)];omega
     have w5:(B3 [.agg s,.int .i64 a]+C0 [.agg s,.int .i64 a]).toNat - (B3 [.agg s,.int .i64 a]).toNat=(C0 [.agg s,.int .i64 a]).toNat:=by omega
     have hok:Aj s n a m=true:=by simp [Aj,he];omega
     rw [w3,w4,w5];exact ⟨decide_eq_true (by omega),decide_eq_true (by omega),decide_eq_true (by omega),A6.2 (by omega),G2 (by have:=W8 ok.b;simp only [u8s,List.all_eq_true,A7] at this ⊢;exact fun v hv=>this v (List.mem_of_mem_drop (List.mem_of_mem_take hv))),A6.2 (by omega),.inr ⟨hok,by simp [Bm,hok],by simp [S9,Bn,hok]⟩⟩
  ·have he:=ne_of_beq_false he;have hb:(I6 [.agg s,.int .i64 a]==0)=false:=by simp [he]
   rw [hb]
   exact ⟨rfl,rfl,rfl,.inl ⟨by simp [Aj,he],by simp [Ch,he],rfl⟩⟩)
theorem cZ {xs:List AV} (h:∀ l r n k a k' m,xs=[.agg l,.ptr r n,.int k a,.int k' m]→u8s l=true) (j:Nat):A4 j (Bn xs)=true:=by
 unfold Bn;split
 ·rename_i l r n k a k' m;have hl:=h l r n k a k' m rfl;split
  ·refine B7 ?_;simp only [u8s,List.all_eq_true,A7] at hl ⊢;exact fun v hv=>hl v (List.mem_of_mem_drop (List.mem_of_mem_take hv))
  ·rfl
 ·rfl
theorem yY (G:Nat→List AV) (B:Nat) (s:List AV) (n:Nat) (a m:Int) (h:okRdU [.agg s,.ptr (.rw 0) n,.int .i64 a]=true) (h40:n≤1099511627776) (hm:0≤m∧m≤9223372036854775807):ACalls (⟨Try.prog,G,B⟩:A2) 89 [.ptr (.rw 0) 0,.int .i64 m] [some ⟨1,[.slice false (.rw 1) 0 n,.int .i64 a]⟩,some ⟨1,s⟩]
  fun v' H'=>v'=.tup [.slice true (.rw 2) 0 (Bm [.agg s,.ptr (.rw 0) n,.int .i64 a,.int .i64 m]),.int .i64 (Ch [.agg s,.ptr (.rw 0) n,.int .i64 a,.int .i64 m])]∧H'=[some ⟨1,[.slice false (.rw 1) 0 n,.int .i64 (S9 [.agg s,.ptr (.rw 0) n,.int .i64 a,.int .i64 m])]⟩,some ⟨1,s⟩,some ⟨1,Bn [.agg s,.ptr (.rw 0) n,.int .i64 a,.int .i64 m]⟩]:=by
 have ok:=X6.1 h;have hs:=W8 ok.b;have hf:∀ j,A4 j s=true:=fun j=>B7 hs;have hc:∀ j,A4 j (Bn [.agg s,.ptr (.rw 0) n,.int .i64 a,.int .i64 m])=true:=fun j=>cZ (fun l r n' k a' k' m' he=>by simp at he;rw [←he.1];exact hs) j
 have h1:=(uC G B s n a m h h40 hm).view (K':=fun v' H'=>(Aj s n a m=false∧v'=.tup [.nils,.int .i64 (Ch [.agg s,.ptr (.rw 0) n,.int .i64 a,.int .i64 m])]∧H'=[some ⟨1,[.slice false (.rw 1) 0 n,.int .i64 a]⟩,some ⟨1,s⟩])∨
   (Aj s n a m=true∧v'=.tup [.slice false (.rw 2) 0 (Bm [.agg s,.ptr (.rw 0) n,.int .i64 a,.int .i64 m]),.int .i64 0]∧H'=[some ⟨1,[.slice false (.rw 1) 0 n,.int .i64 (S9 [.agg s,.ptr (.rw 0) n,.int .i64 a,.int .i64 m])]⟩,some ⟨1,s⟩,some ⟨1,Bn [.agg s,.ptr (.rw 0) n,.int .i64 a,.int .i64 m]⟩])) (fun v H' hk=>by
  rcases hk with ⟨g1,rfl,g3⟩ | ⟨g1,rfl,g3⟩
  ·refine ⟨_,_,.inl ⟨g1,rfl,rfl⟩,?_⟩
   have e:H'=[some ⟨1,[.slice false (.rw 1) 0 n,.int .i64 a]⟩,some ⟨1,s⟩]++H'.drop 4:=by
    have:=List.take_append_drop 4 H'
    rw [g3] at this;exact this.symm
   rw [e];exact C2.same (by simp) (by simp [J5,A4,A8,hf]) ⟨⟨by simp [A8,A4],rfl⟩,trivial⟩
  ·refine ⟨_,_,.inr ⟨g1,rfl,rfl⟩,?_⟩
   have e:H'=some ⟨1,[.slice false (.rw 1) 0 n,.int .i64 (S9 [.agg s,.ptr (.rw 0) n,.int .i64 a,.int .i64 m])]⟩::some ⟨1,s⟩::none::some ⟨1,Bn [.agg s,.ptr (.rw 0) n,.int .i64 a,.int .i64 m]⟩::H'.drop 4:=by
    have:=List.take_append_drop 4 H'
    rw [g3] at this;exact this.symm
   rw [e]
   exact C2.renM (θ:=[0,1,3]) (by simp) fA (by decide) ⟨⟨by simp [A4,A8],by simp [rens,C1]⟩,⟨hf _,by rw [B5 _ _ (hf 0)];rfl⟩,⟨hc _,by rw [B5 _ _ (hc 0)];rfl⟩,trivial⟩ (by simp [A4,A8]) (by simp [rens,C1,wk]))
 have h2:=h1.nil (K':=fun v' H'=>∃ b,v'=.tup [.slice b (.rw 2) 0 (Bm [.agg s,.ptr (.rw 0) n,.int .i64 a,.int .i64 m]),.int .i64 (Ch [.agg s,.ptr (.rw 0) n,.int .i64 a,.int .i64 m])]∧H'=[some ⟨1,[.slice false (.rw 1) 0 n,.int .i64 (S9 [.agg s,.ptr (.rw 0) n,.int .i64 a,.int .i64 m])]⟩,some ⟨1,s⟩,some ⟨1,Bn [.agg s,.ptr (.rw 0) n,.int .i64 a,.int .i64 m]⟩]) 1 (fun v H' hk=>by
  rcases hk with ⟨g1,rfl,rfl⟩ | ⟨g1,rfl,rfl⟩
  ·refine .inr ⟨_,⟨true,rfl,?_⟩,Pc _,?_⟩
   ·simp [S9,Bn,g1]
   ·have:Bm [.agg s,.ptr (.rw 0) n,.int .i64 a,.int .i64 m]=0:=by simp [Bm,g1]
    rw [this];exact ⟨.inr ⟨rfl,rfl⟩,.inl rfl,trivial⟩
  ·have:Ch [.agg s,.ptr (.rw 0) n,.int .i64 a,.int .i64 m]=0:=by
    simp only [Aj,Bool.and_eq_true,decide_eq_true_eq] at g1;simp only [Ch,g1.1,if_true];rw [if_pos g1.2.1,if_pos g1.2.2]
   exact .inl ⟨false,by rw [this],rfl⟩)
 refine h2.conv fun v H' hk=>?_;obtain ⟨b,rfl,rfl⟩:=hk;refine ⟨_,⟨rfl,rfl⟩,fun ρ cv hv=>?_⟩;simp only [VR] at hv;obtain ⟨vs,e,hs⟩:=hv;simp only [VRs] at hs;obtain ⟨x,ys,e1,e2,e3⟩:=hs;simp only [VR,VRs];exact ⟨vs,e,x,ys,e1,by have:=N3 (ρ:=ρ) (v:=x) (mb:=b) (by simpa only [VR] using e2);simpa only [VR] using this,e3⟩
def bytesR:DSum:=fun xs H=>match xs with
 | [.ptr (.rw i) (.lit 0),.int .i64 m']=>match H[i]? with
  | some (some ⟨1,.of [.slice false (.rw m) (.lit 0) n,.int .i64 a]⟩)=>match H[m]? with
   | some (some ⟨1,l⟩)=>match Nat.beq i m with
    | true=>none
    | false=>some (.chk (.uf 1120 okRdU [.agg l,.ptr (.rw 0) n,.int .i64 a]) (.chk (.leN n (.lit 1099511627776)) (.chk (.cmp .leq (.lit 0) m') (.chk (.cmp .leq m' (.lit 9223372036854775807))
     (.one (.tup [.slice true (.rw H.length) (.lit 0) (.uf 1129 Bm [.agg l,.ptr (.rw 0) n,.int .i64 a,.int .i64 m']),.int .i64 (.uf 1128 Ch [.agg l,.ptr (.rw 0) n,.int .i64 a,.int .i64 m'])]) [.set i ⟨1,.of [.slice false (.rw m) (.lit 0) n,.int .i64 (.uf 1131 S9 [.agg l,.ptr (.rw 0) n,.int .i64 a,.int .i64 m'])]⟩,.new ⟨1,.uf 1130 Bn [.agg l,.ptr (.rw 0) n,.int .i64 a,.int .i64 m']⟩])))))
   | _=>none
  | _=>none
 | _=>none
theorem pV (G:Nat→List AV) (B:Nat):C5 (⟨Try.prog,G,B⟩:A2) 89 bytesR:=by
 intro xs H o ho;simp only [bytesR] at ho;split at ho
 ·rename_i i m';split at ho
  ·rename_i m n a hi;split at ho
   ·rename_i l hm;split at ho
    ·simp at ho
    ·rename_i him;have him:i≠m:=fun h=>by rw [h,Nat.beq_refl] at him;simp at him
     simp only [Option.some.injEq] at ho;subst ho;intro h1 h2 h3 h4;simp only [vB,vVs,vV,vR,vN,Nn,decide_eq_true_eq,vI] at h1 h2 h3 h4;have hu:=W8 (X6.1 h1).b;have hf:∀ j,A4 j (vL G l)=true:=fun j=>B7 hu;have key:=yY G B (vL G l) (vN G n) (vI G a) (vI G m') h1 (A6.1 h2) ⟨of_decide_eq_true h3,of_decide_eq_true h4⟩;have hc:∀ j,A4 j (Bn [.agg (vL G l),.ptr (.rw 0) (vN G n),.int .i64 (vI G a),.int .i64 (vI G m')])=true:=fun j=>cZ (fun l' r n' k a' k' m' he=>by simp at he;rw [←he.1];exact hu) j
     refine E0.fr (θ:=[i,m]) (by simp [him]) rfl (fun k b hk=>?_) (by simp [A4,A8]) (by simp [vVs,vV,vR,vN,rens,C1]) key (by simp) (by simp [A8,A4]) (by simp [J5,hf,hc,A4,A8]) (by simp [vV,vVs,vR,vN,vI,C1,rens,R3]) ?_
     ·match k with
      | 0=>simp at hk;subst hk;exact ⟨_,rfl,by simp [A4,A8],by simpa [K2,C8,vL,vVs,vV,vR,vN,rens,C1] using E9 (G:=G) hi⟩
      | 1=>simp at hk;subst hk;exact ⟨_,rfl,hf _,by simpa [K2,C8,B5 _ _ (hf 0)] using E9 (G:=G) hm⟩
      | k+2=>simp at hk
     ·have hs:=Dj (G:=G) hm;simp only [C8] at hs;simp only [List.map_cons,List.map_nil,acts,Hop.act,I1,C8,T8,lay,U4,K2,Option.map_some,B5 _ _ (hf 0),B5 _ _ (hc 0),List.length_cons,List.length_nil,List.drop_succ_cons,List.drop_zero,vL,vVs,vV,vR,vN,vI];rw [List.set_comm _ _ him,hs];simp [rens,C1,R3]
   ·simp at ho
  ·simp at ho
 ·simp at ho
end Go.Am
