/-
  Sums of pieces; the document's sums. Images as files: the lists laid, the whole file's tree.
-/
import Derived.Test.YthejjolnlngahaaPart13
namespace Go.Am
open Go.Proofs Crc
section
variable (G:Nat→List AV) (B:Nat)
def step_sum:Sum1:=fun args _=>match args with
 | [.int .u32 x]=>some (decide (0≤x)&&decide (x<4294967296),.int .u32 (u (Aa 8 (R1 x))),[])
 | _=>none
theorem pL :Xu (za G B) 98 step_sum:=by
 intro args H v hs h;unfold step_sum at h;split at h
 ·rename_i x;simp only [zN,xH,zO,qC] at h;obtain ⟨h1,rfl,rfl⟩:=h;have key:=Uz (C:=(za G B)) (f:=98) (args:=[.int .u32 (u (R1 x))]) ⟨by simp [B0],by simp [M1]⟩ ⟨by simp [J0,E8],by simp [N1,M1]⟩ (fun G B=>xN G B (R1 x)) H;rw [Vz h1] at key;exact key
 ·simp at h
theorem bA5 (k off n:Nat) (mb:Bool) (s i:Int) (Q:Ex→List AV→Hp→Prop):vc (Kn (za G B) (sums [(98,step_sum)]) noLoop) 100 0 (.code (A5 Try.f93 0)) (fl 25 [1,5,6] [.slice mb (.ro k) off n,.int .u32 s,.int .i64 i]) [] (lv 25 [1,5,6] Q)=(
  tst (decide (i<(↑n:Int))) ( chk (decide ((0:Int)≤i)&&decide (i<(↑n:Int))) ( chk (isI IntKind.u8 (G k) (i.toNat+off)) ( nam (Gw IntKind.u32 s (IntKind.u32.wrap (A2 (G k) (i.toNat+off)))) (fun y1=> chk (decide ((0:Int)≤y1)&&decide (y1<(4294967296:Int))) ( nam (u (Aa (8:Nat) (R1 y1))) (fun y2=> nam (IntKind.i64.wrap (i+(1:Int))) (fun y3=> Q .normal [.slice mb (.ro k) off n,.int IntKind.u32 y2,.int IntKind.i64 y3] []))))))) ( Q (.exit 0) [.slice mb (.ro k) off n,.int IntKind.u32 s,.int IntKind.i64 i] [])):=by kernel_rfl
theorem aW9 (k off n:Nat) (mb:Bool) (s i:Int) (Q:Ex→List AV→Hp→Prop):vc (Kn (za G B) (sums [(84,dC (za G B))]) noLoop) 100 0 (.code (A5 Try.f57 0)) (fl 18 [3,6,7,8] [.int .u32 s,.slice mb (.ro k) off n,.int .i64 n,.int .i64 i]) [] (lv 18 [3,6,7,8] Q)=(
  tst (decide (i<(↑n:Int))) ( chk (decide ((0:Int)≤i)&&decide (i<(↑n:Int))) ( chk (Ey (G k) (i.toNat+off)) ( nam s (fun y1=> chk (decide ((0:Int)≤y1)&&(decide (y1<(4294967296:Int))&&(decide (D1 (G k) (i.toNat+off)≤(9223372036854775807:Nat))&&Dx IntKind.u8 (G (G0 (G k) (i.toNat+off))) (H8 (G k) (i.toNat+off)) (D1 (G k) (i.toNat+off))))) ( nam (u (Ab (R1 y1) (T1 (G (G0 (G k) (i.toNat+off))) (H8 (G k) (i.toNat+off)) (D1 (G k) (i.toNat+off))))) (fun y2=> Q .normal [.int IntKind.u32 y2,.slice mb (.ro k) off n,.int IntKind.i64 ((↑n:Int)),.int IntKind.i64 (IntKind.i64.wrap (i+(1:Int)))] [])))))) ( Q (.exit 0) [.int IntKind.u32 s,.slice mb (.ro k) off n,.int IntKind.i64 ((↑n:Int)),.int IntKind.i64 i] [])):=by kernel_rfl
def piece (G:Nat→List AV) (k j:Nat):List Int:=T1 (G (G0 (G k) j)) (H8 (G k) j) (D1 (G k) j)
def Ps (G:Nat→List AV) (k j:Nat):Bool:=Ey (G k) j&&(decide (D1 (G k) j≤9223372036854775807)&&Dx .u8 (G (G0 (G k) j)) (H8 (G k) j) (D1 (G k) j))
def Eh (G:Nat→List AV) (k off n:Nat):List Int:=((List.range n).map fun j=>piece G k (off+j)).flatten
theorem pM (k off n:Nat):Eh G k off (n+1)=Eh G k off n++piece G k (off+n):=by simp [Eh,List.range_succ]
theorem bA3 (mb:Bool) (k off n:Nat) (s i:Int) (hc:(decide (0≤s)&&(decide (s<4294967296)&&(decide (i=0)&&(decide (n≤9223372036854775807)&&Dx .u8 (G k) off n))))=true):AWp (za G B) 0 (.loop (A5 Try.f93 0)) (fl 25 [1,5,6] [.slice mb (.ro k) off n,.int .u32 s,.int .i64 i]) [] (lv 25 [1,5,6] fun e' vs'' H''=>e'=.exit 0∧wk [.undef,.int .u32 (u (Ab (R1 s) (T1 (G k) off n))),.undef] vs''∧H''=[]):=by
 simp only [zO,qC] at hc;obtain ⟨h1,h2,rfl,hn,hok⟩:=hc
 refine X5 (fun j vs H=>∃ i:Nat,i≤n∧j=n - i∧vs=[.slice mb (.ro k) off n,.int .u32 (u (Ab (R1 s) (T1 (G k) off i))),.int .i64 i]∧H=[]) n
  ⟨0,by omega,rfl,by rw [iH,Ab,Vz ⟨h1,h2⟩];rfl,rfl⟩ ?_
 rintro j vs H ⟨i,hi,rfl,rfl,rfl⟩;refine wpn (mix G B) (Tg (pL G B) (Yo _)) (Nr _ _) 100 ?_;rw [bA5];simp only [Wb,In,Jn,zO,qC,decide_eq_false_iff_not];refine ⟨fun h=>⟨⟨by omega,h⟩,?_⟩,fun h=>?_⟩
 ·have hi':i<n:=by omega
  have e1:(i:Int).toNat+off=off+i:=by omega
  rw [e1,Uh,Ca,kV,Ca];refine ⟨Lg hok hi',Fi _,n - (i+1),by omega,.inl ⟨i+1,by omega,rfl,?_,by trivial⟩⟩;rw [B5 (by omega),iI,Qz];rfl
 ·have:i=n:=by omega
  subst this;exact ⟨trivial,by simp [wk],trivial⟩
def mo_S (G:Nat→List AV) (B:Nat) (vs:List AV) (H:Hp):Option (Bool×Ex×List AV×Hp):=match vs,H with
 | [.slice mb (.ro k) off n,.int .u32 s,.int .i64 i],[]=>some (decide (0≤s)&&(decide (s<4294967296)&&(decide (i=0)&&(decide (n≤9223372036854775807)&&Dx .u8 (G k) off n))),.exit 0,[.undef,.int .u32 (u (Ab (R1 s) (T1 (G k) off n))),.undef],[])
 | _,_=>none
theorem bA6 (vs:List AV) (H:Hp) (e:Ex) (vs':List AV) (H':Hp) (h:mo_S G B vs H=some (true,e,vs',H')) :
  AWp (za G B) 0 (.loop (A5 Try.f93 0)) (fl 25 [1,5,6] vs) H (lv 25 [1,5,6] fun e' vs'' H''=>e'=e∧wk vs' vs''∧H''=H'):=by
 unfold mo_S at h;split at h
 ·rename_i mb k off n s i;simp only [zN,xH] at h;obtain ⟨hc,rfl,rfl,rfl⟩:=h;exact bA3 G B mb k off n s i hc
 ·simp at h
def mo_L (G:Nat→List AV) (B:Nat):Loops:=fun _ F H=>Ug 25 [1,5,6] (mo_S G B) F H
theorem mo_ok :Vw (za G B) (A5 Try.f93 0) (mo_L G B):=uZ (bA6 G B)
theorem aW7 (s:Int) (mb:Bool) (k off n:Nat) (m i:Int) (hc:(decide (0≤s)&&(decide (s<4294967296)&&(decide (i=0)&&(decide (m=n)&&(decide (n≤9223372036854775807)&&(List.range n).all (fun j=>Ps G k (off+j)))))))=true):AWp (za G B) 0 (.loop (A5 Try.f57 0)) (fl 18 [3,6,7,8] [.int .u32 s,.slice mb (.ro k) off n,.int .i64 m,.int .i64 i]) [] (lv 18 [3,6,7,8] fun e' vs'' H''=>e'=.exit 0∧wk [.int .u32 (u (Ab (R1 s) (Eh G k off n))),.undef,.undef,.undef] vs''∧H''=[]):=by
 simp only [zO,qC,qD,List.mem_range] at hc;obtain ⟨h1,h2,rfl,rfl,hn,hok⟩:=hc
 refine X5 (fun j vs H=>∃ i:Nat,i≤n∧j=n - i∧vs=[.int .u32 (u (Ab (R1 s) (Eh G k off i))),.slice mb (.ro k) off n,.int .i64 n,.int .i64 i]∧H=[]) n
  ⟨0,by omega,rfl,by rw [show Eh G k off 0=[] from rfl,Ab,Vz ⟨h1,h2⟩];rfl,rfl⟩ ?_
 rintro j vs H ⟨i,hi,rfl,rfl,rfl⟩;refine wpn (mix G B) (Tg (uC G B) (Yo _)) (Nr _ _) 100 ?_;rw [aW9];simp only [Wb,In,Jn,zO,qC,decide_eq_false_iff_not,Ca];refine ⟨fun h=>⟨⟨by omega,h⟩,?_⟩,fun h=>?_⟩
 ·have hi':i<n:=by omega
  have e1:(i:Int).toNat+off=off+i:=by omega
  have ho:=hok i hi';simp only [Ps,zO,qC] at ho;rw [e1];refine ⟨ho.1,⟨(Fi _).1,(Fi _).2,ho.2.1,ho.2.2⟩,n - (i+1),by omega,.inl ⟨i+1,by omega,rfl,?_,by trivial⟩⟩;rw [B5 (by omega),pM,Qz];rfl
 ·have:i=n:=by omega
  subst this;exact ⟨trivial,by simp [wk],trivial⟩
def su_S (G:Nat→List AV) (B:Nat) (vs:List AV) (H:Hp):Option (Bool×Ex×List AV×Hp):=match vs,H with
 | [.int .u32 s,.slice mb (.ro k) off n,.int .i64 m,.int .i64 i],[]=>some (decide (0≤s)&&(decide (s<4294967296)&&(decide (i=0)&&(decide (m=n)&&(decide (n≤9223372036854775807)&&(List.range n).all (fun j=>Ps G k (off+j)))))),.exit 0,[.int .u32 (u (Ab (R1 s) (Eh G k off n))),.undef,.undef,.undef],[])
 | _,_=>none
theorem aX0 (vs:List AV) (H:Hp) (e:Ex) (vs':List AV) (H':Hp) (h:su_S G B vs H=some (true,e,vs',H')) :
  AWp (za G B) 0 (.loop (A5 Try.f57 0)) (fl 18 [3,6,7,8] vs) H (lv 18 [3,6,7,8] fun e' vs'' H''=>e'=e∧wk vs' vs''∧H''=H'):=by
 unfold su_S at h;split at h
 ·rename_i s mb k off n m i;simp only [zN,xH] at h;obtain ⟨hc,rfl,rfl,rfl⟩:=h;exact aW7 G B s mb k off n m i hc
 ·simp at h
def su_L (G:Nat→List AV) (B:Nat):Loops:=fun _ F H=>Ug 18 [3,6,7,8] (su_S G B) F H
theorem su_ok :Vw (za G B) (A5 Try.f57 0) (su_L G B):=uZ (aX0 G B)
theorem mo_run (k off n:Nat) (mb:Bool) (s:Int) (Q:AV→Hp→Prop):vc (Kn (za G B) noSum (mo_L G B)) 100 0 (.code (C3 Try.f93)) (K7 Try.f93 [.int .u32 s,.slice mb (.ro k) off n]) [] (L1 (za G B) Try.f93 Q)=(
  nam ((0:Int)) (fun y1=> nam (Gw IntKind.u32 s (4294967295:Int)) (fun y2=> nam ((0:Int)) (fun y3=> chk (decide ((0:Int)≤y2)&&(decide (y2<(4294967296:Int))&&(decide (y3=(0:Int))&&(decide (n≤(9223372036854775807:Nat))&&Dx IntKind.u8 (G k) off n)))) ( nam (Gw IntKind.u32 (u (Ab (R1 y2) (T1 (G k) off n))) (4294967295:Int)) (fun y4=> Q (.int IntKind.u32 y4) [])))))):=by kernel_rfl
theorem su_run (k off n:Nat) (mb:Bool) (Q:AV→Hp→Prop):vc (Kn (za G B) noSum (su_L G B)) 100 0 (.code (C3 Try.f57)) (K7 Try.f57 [.slice mb (.ro k) off n]) [] (L1 (za G B) Try.f57 Q)=(
  nam ((0:Int)) (fun y1=> nam ((4294967295:Int)) (fun y2=> chk (decide ((0:Int)≤y2)&&(decide (y2<(4294967296:Int))&&(decide ((↑n:Int)=(↑n:Int))&&(decide (n≤(9223372036854775807:Nat))&&(List.range n).all fun j=>Ps G k (off+j))))) ( nam (Zd IntKind.u32 (u (Ab (R1 y2) (Eh G k off n)))) (fun y3=> Q (.int IntKind.u32 y3) []))))):=by kernel_rfl
theorem bA4 (k off n:Nat) (mb:Bool) (x:Wd) (hn:n≤9223372036854775807) (hok:Dx .u8 (G k) off n=true):ACalls (za G B) 93 [.int .u32 (u x),.slice mb (.ro k) off n] [] fun v _=>v=.int .u32 (u (more x (T1 (G k) off n))):=by
 refine wF (mix G B) (Id _) (loop:=mo_L G B) (fn:=Try.f93) (c:=C3 Try.f93) (by kernel_rfl) (by kernel_rfl) (by kernel_rfl) (.cast (.cons (mo_ok G B) .nil) (by kernel_rfl)) 100 ?_;rw [mo_run];simp only [Jn,In,zO,qC,aN5,Ca];exact ⟨⟨(Fi _).1,(Fi _).2,trivial,hn,hok⟩,by trivial⟩
theorem aW8 (k off n:Nat) (mb:Bool) (hn:n≤9223372036854775807) (hok:∀ j,j<n→Ps G k (off+j)=true):ACalls (za G B) 57 [.slice mb (.ro k) off n] [] fun v _=>v=.int .u32 (u (sum (Eh G k off n))):=by
 refine wF (mix G B) (Id _) (loop:=su_L G B) (fn:=Try.f57) (c:=C3 Try.f57) (by kernel_rfl) (by kernel_rfl) (by kernel_rfl) (.cast (.cons (su_ok G B) .nil) (by kernel_rfl)) 100 ?_;rw [su_run];simp only [Jn,In,zO,qC,kNot_u,Ca,qD,List.mem_range];exact ⟨⟨by decide,by decide,trivial,hn,hok⟩,by trivial⟩
end
set_option maxRecDepth 100000
theorem put_s (G:Nat→List AV) (B:Nat) (ks n:Nat) (h:Ed G (G ks) n):ACalls (za G B) 51 [.slice true (.ro ks) 0 n,.func 52 []] [] fun v H=>v=.tup [.slice false (.rw 0) 0 ((fN (n:Int)++B9 G (G ks) n)).length,.int .i64 0]∧H=[some ⟨1,(fN (n:Int)++B9 G (G ks) n)⟩]:=by
 have l0:F5 (za G B) 0 (A5 Try.f51 0) (D4 2505 (D9 [.func 52 [],.slice false (.rw 0) 0 (fN (n:Int)).length,.slice true (.ro ks) 0 n,.int .i64 (n:Int),.int .i64 0] [some ⟨1,fN (n:Int)⟩]) 0 28 [1,6,15,16,17] (.one (.exit 0) [.undef,.slice false (.rw 0) (.lit 0) (.len (.var 22 (fN (n:Int)++B9 G (G ks) n))),.undef,.undef,.undef] [some ⟨1,.var 22 (fN (n:Int)++B9 G (G ks) n)⟩])):=N7 rfl ((aZ5 G B ks n (fN (n:Int)) (N2 _) (by have:=N6 (n:Int);omega) h).lmono fun e vs H ⟨h1,h2,h3⟩=>⟨h1,.inl ⟨h2,h3⟩⟩);have h8:=h.le8
 have u:u8s (fN (n:Int)++B9 G (G ks) n)=true:=by rw [C9,N2,Ht fun j hj=>h.u8 hj];rfl
 have key:=C8 (C:=(za G B)) (f:=51) (fn:=Try.f51) (K:=Dc Try.prog [] (Kq G) [D4 2505 (D9 [.func 52 [],.slice false (.rw 0) 0 (fN (n:Int)).length,.slice true (.ro ks) 0 n,.int .i64 (n:Int),.int .i64 0] [some ⟨1,fN (n:Int)⟩]) 0 28 [1,6,15,16,17] (.one (.exit 0) [.undef,.slice false (.rw 0) (.lit 0) (.len (.var 22 (fN (n:Int)++B9 G (G ks) n))),.undef,.undef,.undef] [some ⟨1,.var 22 (fN (n:Int)++B9 G (G ks) n)⟩])] 0) (R:=fun v H=>v=.tup [.slice false (.rw 0) 0 ((fN (n:Int)++B9 G (G ks) n)).length,.int .i64 0]∧H=[some ⟨1,(fN (n:Int)++B9 G (G ks) n)⟩]) (C7 (mix G B) (by kernel_rfl) (Rc G B) (.cast (.cons (i:=0) (by kernel_rfl) rfl l0 .nil) (by kernel_rfl))) (by kernel_rfl) (by kernel_rfl) (by kernel_rfl) (fuel:=300) (n0:=20) (keep:=1) (args:=[.slice true (.ro (.var 24 ks)) (.lit 0) (.var 3 n),.func 52 []]) (H:=[]) (by
  rw [t51,Gh (x:=(n:Int)) (N5.2 (by omega))]
  exact ⟨Cg (N5.2 (by omega)),by
   show D9 _ _ [.agg [.func 52 [],.slice false (.rw 0) 0 (A4 [.int .u64 (n:Int)]).length,_,_,_],_]=true;rw [show (A4 [.int .u64 (n:Int)]).length=(fN (n:Int)).length from (K9 _).symm]
   exact D2,rfl,rfl⟩)
 exact key.keep (H:=[]) (by simp) (by simp only [List.length_cons,List.length_nil,I1,B7 u,Bool.and_self]) (by simp [B0,A6]) (by simp)
theorem put_p (G:Nat→List AV) (B:Nat) (kp m:Nat) (h:Vv (G kp) m):ACalls (za G B) 53 [.slice true (.ro kp) 0 m,.func 54 []] [] fun v H=>v=.tup [.slice false (.rw 0) 0 ((fN (m:Int)++B6 (G kp) m)).length,.int .i64 0]∧H=[some ⟨1,(fN (m:Int)++B6 (G kp) m)⟩]:=by
 have l0:F5 (za G B) 0 (A5 Try.f53 0) (D4 2506 (D9 [.func 54 [],.slice false (.rw 0) 0 (fN (m:Int)).length,.slice true (.ro kp) 0 m,.int .i64 (m:Int),.int .i64 0] [some ⟨1,fN (m:Int)⟩]) 0 28 [1,6,15,16,17] (.one (.exit 0) [.undef,.slice false (.rw 0) (.lit 0) (.len (.var 22 (fN (m:Int)++B6 (G kp) m))),.undef,.undef,.undef] [some ⟨1,.var 22 (fN (m:Int)++B6 (G kp) m)⟩])):=N7 rfl ((aZ6 G B kp m (fN (m:Int)) (N2 _) (by have:=N6 (m:Int);omega) h).lmono fun e vs H ⟨h1,h2,h3⟩=>⟨h1,.inl ⟨h2,h3⟩⟩);have h8:=h.le
 have u:u8s (fN (m:Int)++B6 (G kp) m)=true:=by rw [C9,N2,Hz];rfl
 have key:=C8 (C:=(za G B)) (f:=53) (fn:=Try.f53) (K:=Dc Try.prog [] (Kq G) [D4 2506 (D9 [.func 54 [],.slice false (.rw 0) 0 (fN (m:Int)).length,.slice true (.ro kp) 0 m,.int .i64 (m:Int),.int .i64 0] [some ⟨1,fN (m:Int)⟩]) 0 28 [1,6,15,16,17] (.one (.exit 0) [.undef,.slice false (.rw 0) (.lit 0) (.len (.var 22 (fN (m:Int)++B6 (G kp) m))),.undef,.undef,.undef] [some ⟨1,.var 22 (fN (m:Int)++B6 (G kp) m)⟩])] 0) (R:=fun v H=>v=.tup [.slice false (.rw 0) 0 ((fN (m:Int)++B6 (G kp) m)).length,.int .i64 0]∧H=[some ⟨1,(fN (m:Int)++B6 (G kp) m)⟩]) (C7 (mix G B) (by kernel_rfl) (Rc G B) (.cast (.cons (i:=0) (by kernel_rfl) rfl l0 .nil) (by kernel_rfl))) (by kernel_rfl) (by kernel_rfl) (by kernel_rfl) (fuel:=300) (n0:=20) (keep:=1) (args:=[.slice true (.ro (.var 25 kp)) (.lit 0) (.var 4 m),.func 54 []]) (H:=[]) (by
  rw [t53,Gh (x:=(m:Int)) (N5.2 (by omega))]
  exact ⟨Cg (N5.2 (by omega)),by
   show D9 _ _ [.agg [.func 54 [],.slice false (.rw 0) 0 (A4 [.int .u64 (m:Int)]).length,_,_,_],_]=true;rw [show (A4 [.int .u64 (m:Int)]).length=(fN (m:Int)).length from (K9 _).symm]
   exact D2,rfl,rfl⟩)
 exact key.keep (H:=[]) (by simp) (by simp only [List.length_cons,List.length_nil,I1,B7 u,Bool.and_self]) (by simp [B0,A6]) (by simp)
def Jz (j:Nat) (q:List AV→Bool) (x:EL):DSum:=fun args H=>some (.chk (.uf j q [.agg (.of args),.agg (.of [])]) (.one (.tup [.slice false (.rw H.length) (.lit 0) (.len x),.int .i64 (.lit 0)]) [.new ⟨1,x⟩]))
theorem qV {C:A1} {f j:Nat} {vs0:List AV} {x:EL} {q:List AV→Bool} (hq:q=D9 vs0 []) (h:ACalls C f vs0 [] fun v H=>v=.tup [.slice false (.rw 0) 0 (vL C.G x).length,.int .i64 0]∧H=[some ⟨1,vL C.G x⟩]) (ha:A6 0 vs0=true) (hu:u8s (vL C.G x)=true):DSumOk C f (Jz j q x):=by
 intro args H o ho;simp only [Jz,zN] at ho;subst ho;intro h1;have h1:q [.agg (vVs C.G args),.agg (O9 [])]=true:=h1;rw [hq] at h1;obtain ⟨e1,_⟩:=Ig h1;refine E1.new0 (C:=C) (args0:=vs0) (v0:=.tup [.slice false (.rw 0) 0 (vL C.G x).length,.int .i64 0]) (by simp only [C6];exact h) (B7 hu) ha e1 (by simp [B0,A6]) (by simp [vV,vVs,vR,vN,vI,C2,rens])
theorem qW {C:A1} {f j:Nat} {x:EL}:DSumOk C f (Jz j (fun _=>false) x):=by
 intro args H o ho;simp only [Jz,zN] at ho;subst ho;intro h1;exact absurd h1 (by simp [vB])
section
variable (G:Nat→List AV) (B:Nat)
def Vj (l:List AV):Int:=u (sum (T1 l 0 l.length))
def Bf:List AV→Int:=fun xs=>match xs with
 | [.agg l]=>Vj l
 | _=>0
theorem qE {l:List AV} (h:u8s l=true):Dx .u8 l 0 l.length=true:=mQ fun j hj=>by
 unfold u8s at h;rw [qD] at h;have h1:l[j]?=some l[j]:=xW hj
 have:=h _ (zA1 h1)
 rw [Nat.zero_add];unfold isI;rw [h1];unfold Om at this;split at this
 ·rename_i e;rw [e];rfl
 ·cases this
theorem Fj:∀ {l:List AV},u8s l=true→N1 l=true
 | [],_=>rfl
 | v::l,h=>by
  simp only [u8s,List.all_cons,zO] at h
  have h1:M1 v=true:=by
   have:=h.1
   unfold Om at this;split at this<;>first | rfl | cases this
  simp only [N1,h1,Fj (l:=l) h.2,Bool.and_self]
def sumS:DSum:=fun xs H=>match xs with
 | [.slice _ (.rw j) (.lit 0) (.lit 1)]=>match H[j]? with
  | some (some ⟨1,.of [.slice m (.rw b) (.lit 0) n]⟩)=>match H[b]? with
   | some (some ⟨1,l⟩)=>some (.chk (.eqN (.len l) n)<|.chk (.u8s l)<|.chk (.leN n (.lit 1099511627776))<|.one (.int .u32 (.uf 2507 Bf [.agg l])) [])
   | _=>none
  | _=>none
 | _=>none
theorem qL :DSumOk (za G B) 57 sumS:=by
 intro xs H o ho;unfold sumS at ho;split at ho
 ·rename_i mb j;split at ho
  ·rename_i m b n hj;split at ho
   ·rename_i l hl;simp only [zN] at ho;subst ho;intro h1 h2 h3;simp only [vB,vN] at h1 h2 h3;have e1:=rG h1;have h3:=A8.1 h3;have gj:=G4 (G:=G) hj;have gl:=G4 (G:=G) hl;have fl:A6 0 (vL G l)=true∧N1 (vL G l)=true:=⟨B7 h2,Fj h2⟩;refine E1.rdN (C:=(za G B)) (σ:=fun k=>match k with | 0=>(.rw j,0) | _=>(.rw b,0)) (G':=fun k=>match k with | 0=>[.slice m (.ro 1) 0 (vN G n)] | 1=>vL G l | _=>[]) (args0:=[.slice mb (.ro 0) 0 1]) (fun k=>?_) rfl (fun ρ vs hv=>?_) (fun B'=>?_) ⟨rfl,rfl⟩
    ·match k with
     | 0=>
      refine .inr ⟨[.slice m (.rw b) 0 (vN G n)],?_,fun i v hv=>?_⟩
      ·simp only [E5,gj];rfl
      ·match i,hv with
       | 0,hv=>simp at hv;subst hv;exact ⟨rfl,by simp [sb]⟩
       | i+1,hv=>simp at hv
     | 1=>
      refine .inr ⟨vL G l,?_,fun i v hv=>?_⟩
      ·simp only [E5,gl];rfl
      ·obtain ⟨g1,g2⟩:=vJ fl i v hv (fun k=>match k with | 0=>(.rw j,0) | _=>(.rw b,0));exact ⟨g1,by rw [g2];simpa using hv⟩
     | _+2=>exact .inl rfl
    ·simpa [vVs,vV,vR,vN,sbs,sb] using hv
    ·have key:=aW8 (fun k=>match k with | 0=>[.slice m (.ro 1) 0 (vN G n)] | 1=>vL G l | _=>[]) B' 0 0 1 mb (by omega) fun i hi=>by
      obtain rfl:i=0:=by omega
      show (Ey [.slice m (.ro 1) 0 (vN G n)] 0&&(decide (vN G n≤9223372036854775807)&&Dx .u8 (vL G l) 0 (vN G n)))=true;rw [←e1,qE h2,yI (by omega)];rfl
     refine key.monoK fun v H hv=>?_;rw [hv];show AV.int .u32 (u (sum (([T1 (vL G l) 0 (vN G n)]:List (List Int)).flatten)))=.int .u32 (Bf [.agg (vL G l)]);rw [List.flatten_cons,List.flatten_nil,List.append_nil,←e1];rfl
   ·simp at ho
  ·simp at ho
 ·simp at ho
theorem t74 (q1:List AV→Bool) (k n:Nat) (x:Int) (Q:Ex→List AV→Hp→Prop) (R:AV→Hp→Prop):vT G Q R (H5 (Dc Try.prog [] [(93,Fs 2508 q1 (.one (.int .u32 (.var 1 x)) []))] [] 0) 200 10 Try.f74 [.slice true (.ro (.var 24 k)) (.lit 0) (.var 3 n)] [] 0)=(
  q1 [.agg ([.int .u32 0,.slice true (.ro k) 0 n]:List AV),.agg ([]:List AV)]=true∧R (.int .u32 x) []):=by kernel_rfl
theorem sum74 (k:Nat) (h:u8s (G k)=true) (hl:(G k).length≤1099511627776):ACalls (za G B) 74 [.slice true (.ro k) 0 (G k).length] [] fun v _=>v=.int .u32 (Vj (G k)):=by
 have key0:=bA4 G B k 0 (G k).length true 0#32 (by omega) (qE h);have e0:u 0#32=0:=rfl;rw [e0] at key0;have c93:DSumOk (za G B) 93 (Fs 2508 (D9 [.int .u32 0,.slice true (.ro k) 0 (G k).length] []) (.one (.int .u32 (.var 1 (Vj (G k)))) [])):=Lc (v0:=.int .u32 (Vj (G k))) rfl (key0.monoK fun v H hv=>by rw [hv];rfl) rfl rfl (by simp) rfl
 have key:=C8 (C:=(za G B)) (f:=74) (fn:=Try.f74) (K:=Dc Try.prog [] [(93,Fs 2508 (D9 [.int .u32 0,.slice true (.ro k) 0 (G k).length] []) (.one (.int .u32 (.var 1 (Vj (G k)))) []))] [] 0) (R:=fun v _=>v=.int .u32 (Vj (G k))) (by rw [show loopsOf (C3 Try.f74)=[] by kernel_rfl];exact C7 (mix G B) (by kernel_rfl) (.cons c93 .nil) .nil) (by kernel_rfl) (by kernel_rfl) (by kernel_rfl) (fuel:=200) (n0:=10) (keep:=0) (args:=[.slice true (.ro (.var 24 k)) (.lit 0) (.var 3 (G k).length)]) (H:=[]) (by
  rw [t74]
  exact ⟨D2,rfl⟩)
 exact key.monoK fun v H h=>h
def sumD:DSum:=fun xs H=>match xs with
 | [.slice m (.rw b) (.lit 0) n]=>match H[b]? with
  | some (some ⟨1,l⟩)=>some (.chk (.eqN (.len l) n)<|.chk (.u8s l)<|.chk (.leN n (.lit 1099511627776))<|.one (.int .u32 (.uf 2507 Bf [.agg l])) [])
  | _=>none
 | _=>none
theorem aW5 :DSumOk (za G B) 74 sumD:=by
 intro xs H o ho;unfold sumD at ho;split at ho
 ·rename_i m b n;split at ho
  ·rename_i l hl;simp only [zN] at ho;subst ho;intro h1 h2 h3;simp only [vB,vN] at h1 h2 h3;have e1:=rG h1;have h3:=A8.1 h3;have gl:=G4 (G:=G) hl;have fl:A6 0 (vL G l)=true∧N1 (vL G l)=true:=⟨B7 h2,Fj h2⟩;refine E1.rdN (C:=(za G B)) (σ:=fun _=>(.rw b,0)) (G':=fun k=>match k with | 0=>vL G l | _=>[]) (args0:=[.slice true (.ro 0) 0 (vL G l).length]) (fun k=>?_) rfl (fun ρ vs hv=>?_) (fun B'=>?_) ⟨rfl,rfl⟩
   ·match k with
    | 0=>
     refine .inr ⟨vL G l,?_,fun i v hv=>?_⟩
     ·simp only [E5,gl];rfl
     ·obtain ⟨g1,g2⟩:=vJ fl i v hv (fun _=>(.rw b,0));exact ⟨g1,by rw [g2];simpa using hv⟩
    | _+1=>exact .inl rfl
   ·simp only [vVs,vV,vR,vN,sbs,sb,VRs] at hv ⊢;obtain ⟨v,vs',r1,r2,r3⟩:=hv;refine ⟨v,vs',r1,?_,r3⟩;rw [e1];exact Dj r2
   ·exact sum74 (fun k=>match k with | 0=>vL G l | _=>[]) B' 0 h2 (by show (vL G l).length≤_;omega)
  ·simp at ho
 ·simp at ho
end
open IntKind renaming wrap → wS
open List renaming length → wW
theorem t28 (G:Nat→List AV) (q1 q2 q3:List AV→Bool) (ks kp n m:Nat) (s c:Int) (ws wp:List AV) (Q:Ex→List AV→Hp→Prop) (R:AV→Hp→Prop):vT G Q R (H5 (Dc Try.prog [] ([(20,Fs 2512 q1 (.one (.int .i64 (.var 28 c)) [])),(51,Jz 2510 q2 (.var 21 ws)),(53,Jz 2511 q3 (.var 22 wp)),(57,sumS)]++progP) [] 0) 300 20 Try.f28 [.agg (.of [.int .i64 (.var 1 s),.slice true (.ro (.var 24 ks)) (.lit 0) (.var 3 n),.slice true (.ro (.var 25 kp)) (.lit 0) (.var 4 m)])] [] 10)=(
  q1 [.agg ([.agg ([.int .i64 s,.slice true (.ro ks) 0 n,.slice true (.ro kp) 0 m]:List AV)]:List AV),.agg ([]:List AV)]=true∧(((c:Int)==0)=true→q2 [.agg ([.slice true (.ro ks) 0 n,.func 52 []]:List AV),.agg ([]:List AV)]=true∧q3 [.agg ([.slice true (.ro kp) 0 m,.func 54 []]:List AV),.agg ([]:List AV)]=true∧inU64 [.int .u64 (wS .u64 s)]=true∧Nat.beq (wW ([.int .u8 83,.int .u8 84,.int .u8 68,.int .u8 1]:List AV)) 4=true∧Nat.beq (wW (A9 (A4 [.int .u64 (wS .u64 s)]))) (wW (A4 [.int .u64 (wS .u64 s)]))=true∧Nat.beq (wW ws) (wW ws)=true∧Nat.beq (wW wp) (wW wp)=true∧u8s ([.int .u8 83,.int .u8 84,.int .u8 68,.int .u8 1]:List AV)=true∧u8s (A9 (A4 [.int .u64 (wS .u64 s)]))=true∧u8s ws=true∧u8s wp=true∧leB (4+wW (A4 [.int .u64 (wS .u64 s)])+wW ws+wW wp) 1099511627776=true∧Nat.beq (wW (((([.int .u8 83,.int .u8 84,.int .u8 68,.int .u8 1]:List AV)++(A9 (A4 [.int .u64 (wS .u64 s)])))++ws)++wp)) (wW (((([.int .u8 83,.int .u8 84,.int .u8 68,.int .u8 1]:List AV)++(A9 (A4 [.int .u64 (wS .u64 s)])))++ws)++wp))=true∧u8s (((([.int .u8 83,.int .u8 84,.int .u8 68,.int .u8 1]:List AV)++(A9 (A4 [.int .u64 (wS .u64 s)])))++ws)++wp)=true∧leB (wW (((([.int .u8 83,.int .u8 84,.int .u8 68,.int .u8 1]:List AV)++(A9 (A4 [.int .u64 (wS .u64 s)])))++ws)++wp)) 1099511627776=true∧
 leB (wW (((([.int .u8 83,.int .u8 84,.int .u8 68,.int .u8 1]:List AV)++(A9 (A4 [.int .u64 (wS .u64 s)])))++ws)++wp)+4) 140737488355328=true∧Nat.beq (wW (((([.int .u8 83,.int .u8 84,.int .u8 68,.int .u8 1]:List AV)++(A9 (A4 [.int .u64 (wS .u64 s)])))++ws)++wp)) (wW (((([.int .u8 83,.int .u8 84,.int .u8 68,.int .u8 1]:List AV)++(A9 (A4 [.int .u64 (wS .u64 s)])))++ws)++wp))=true∧
 R (.tup [.slice false (.rw 9) 0 (wW (((([.int .u8 83,.int .u8 84,.int .u8 68,.int .u8 1]:List AV)++(A9 (A4 [.int .u64 (wS .u64 s)])))++ws)++wp)+4),.int .i64 0]) [some ⟨1,([.int .i64 s,.slice true (.ro ks) 0 n,.slice true (.ro kp) 0 m]:List AV)⟩,some ⟨1,ws⟩,some ⟨1,wp⟩,some ⟨1,([.int .u8 83,.int .u8 84,.int .u8 68,.int .u8 1]:List AV)⟩,some ⟨1,(A9 (A4 [.int .u64 (wS .u64 s)]))⟩,some ⟨1,([.slice false (.rw 3) 0 4,.slice false (.rw 4) 0 (wW (A4 [.int .u64 (wS .u64 s)])),.slice false (.rw 1) 0 (wW ws),.slice false (.rw 2) 0 (wW wp)]:List AV)⟩,none,some ⟨1,([.slice false (.rw 6) 0 (wW (((([.int .u8 83,.int .u8 84,.int .u8 68,.int .u8 1]:List AV)++(A9 (A4 [.int .u64 (wS .u64 s)])))++ws)++wp))]:List AV)⟩,some ⟨1,([.int .u8 (wS .u8 (S4 .u32 (Bf [.agg (((([.int .u8 83,.int .u8 84,.int .u8 68,.int .u8 1]:List AV)++(A9 (A4 [.int .u64 (wS .u64 s)])))++ws)++wp)]) 24)),.int .u8 (wS .u8 (S4 .u32 (Bf [.agg (((([.int .u8 83,.int .u8 84,.int .u8 68,.int .u8 1]:List AV)++(A9 (A4 [.int .u64 (wS .u64 s)])))++ws)++wp)]) 16)),.int .u8 (wS .u8 (S4 .u32 (Bf [.agg (((([.int .u8 83,.int .u8 84,.int .u8 68,.int .u8 1]:List AV)++(A9 (A4 [.int .u64 (wS .u64 s)])))++ws)++wp)]) 8)),.int .u8 (wS .u8 (Bf [.agg (((([.int .u8 83,.int .u8 84,.int .u8 68,.int .u8 1]:List AV)++(A9 (A4 [.int .u64 (wS .u64 s)])))++ws)++wp)]))]:List AV)⟩,some ⟨1,((((([.int .u8 83,.int .u8 84,.int .u8 68,.int .u8 1]:List AV)++(A9 (A4 [.int .u64 (wS .u64 s)])))++ws)++wp)++([.int .u8 (wS .u8 (S4 .u32 (Bf [.agg (((([.int .u8 83,.int .u8 84,.int .u8 68,.int .u8 1]:List AV)++(A9 (A4 [.int .u64 (wS .u64 s)])))++ws)++wp)]) 24)),.int .u8 (wS .u8 (S4 .u32 (Bf [.agg (((([.int .u8 83,.int .u8 84,.int .u8 68,.int .u8 1]:List AV)++(A9 (A4 [.int .u64 (wS .u64 s)])))++ws)++wp)]) 16)),.int .u8 (wS .u8 (S4 .u32 (Bf [.agg (((([.int .u8 83,.int .u8 84,.int .u8 68,.int .u8 1]:List AV)++(A9 (A4 [.int .u64 (wS .u64 s)])))++ws)++wp)]) 8)),.int .u8 (wS .u8 (Bf [.agg (((([.int .u8 83,.int .u8 84,.int .u8 68,.int .u8 1]:List AV)++(A9 (A4 [.int .u64 (wS .u64 s)])))++ws)++wp)]))]:List AV))⟩])∧
 (((c:Int)==0)=false→R (.tup [.nils,.int .i64 c]) [some ⟨1,([.int .i64 s,.slice true (.ro ks) 0 n,.slice true (.ro kp) 0 m]:List AV)⟩])):=by kernel_rfl
def magL:List AV:=[.int .u8 83,.int .u8 84,.int .u8 68,.int .u8 1]
def Bg (G:Nat→List AV) (s:Int) (cs:List AV) (n:Nat) (ps:List AV) (m:Nat):List AV:=((magL++fN s)++(fN (n:Int)++B9 G cs n))++(fN (m:Int)++B6 ps m)
def tN (x:Int):List AV:=[.int .u8 (wS .u8 (S4 .u32 x 24)),.int .u8 (wS .u8 (S4 .u32 x 16)),.int .u8 (wS .u8 (S4 .u32 x 8)),.int .u8 (wS .u8 x)]
def E3 (G:Nat→List AV) (s:Int) (cs:List AV) (n:Nat) (ps:List AV) (m:Nat):List AV:=Bg G s cs n ps m++tN (Vj (Bg G s cs n ps m))
theorem Zt {G:Nat→List AV} {s:Int} {cs ps:List AV} {n m:Nat} (h:Ed G cs n):u8s (Bg G s cs n ps m)=true:=by
 unfold Bg;rw [C9,C9,C9,C9,C9,N2,N2,N2,Hz,Ht fun j hj=>h.u8 hj];rfl
theorem Dh {G:Nat→List AV} {s:Int} {cs ps:List AV} {n m:Nat} (h:Ed G cs n):u8s (E3 G s cs n ps m)=true:=by
 unfold E3;rw [C9,Zt h];rfl
theorem Vl {G:Nat→List AV} {s:Int} {cs ps:List AV} {n m:Nat} (h:Ed G cs n) (hp:m≤512):(Bg G s cs n ps m).length≤80000:=by
 have h1:=N6 s;have h2:=N6 (n:Int);have h3:=N6 (m:Int);have h4:=No (ps:=ps) (n:=m);have h5:=Lv (G:=G) (cs:=cs) (n:=n) fun j hj=>by rw [h.len hj];exact (h.dat j hj).2.2
 have h8:=h.le8;simp only [Bg,zA6,magL,List.length_cons,List.length_nil];omega
theorem dS {G:Nat→List AV} {s:Int} {ks kp n m:Nat} (hb:Ad G ks kp n m) (hy:K1 s (G ks) n (G kp) m=true):Vv (G kp) m where
 le:=(Fw hy).1.2
 ok:=hb.pls
 num j hj:=N5.2 (by have:=uX hy hb.pls j hj;omega)
theorem aB2 {cs:List AV} {s:Int}:∀ {n:Nat},Bp cs s n=true→∃ j,j<n∧sA cs j≤s∧s<sE cs j
 | 0,h=>by simp [Bp] at h
 | n+1,h=>by
  simp only [Bp,Bool.or_eq_true] at h;rcases h with h | h
  ·obtain ⟨j,h1,h2⟩:=aB2 h;exact ⟨j,by omega,h2⟩
  ·unfold eS at h;simp only [zO,qC] at h;exact ⟨n,by omega,h.2.1,h.2.2⟩
theorem mX {s:Int} {cs ps:List AV} {n m:Nat} (h:K1 s cs n ps m=true):0≤s∧s≤8192:=by
 have h':=h;unfold K1 at h';simp only [zO,qC] at h';obtain ⟨j,h1,h2,h3⟩:=aB2 h'.2.2.2.2;have sb:=Q6.1 (Ie h j h1).2.2.2;have e:sE cs j=sA cs j+(sN cs j:Int)+sZ cs j:=rfl;omega
theorem uY {s:Int} {cs ps:List AV} {n m:Nat} (h:K1 s cs n ps m=true):X2 s=true:=N5.2 (by have:=mX h;omega)
theorem backT {f:FuncId} {args:List AV} {C:A1} {mb:Bool} {q m:Nat} {cs:List AV} (hc:u8s cs=true) (h:ACalls C f args [] fun v' H'=>v'=.tup [.slice mb (.rw q) 0 m,.int .i64 0]∧H'[q]?=some (some ⟨1,cs⟩)) :
  ACalls C f args [] fun v' H'=>v'=.tup [.slice mb (.rw 0) 0 m,.int .i64 0]∧H'=[some ⟨1,cs⟩]:=by
 refine h.view fun v H' ⟨e1,e2⟩=>⟨_,_,⟨rfl,rfl⟩,?_⟩;rw [e1];exact C5.renM (θ:=[q]) (by simp) (fun i hi=>absurd hi (by simp)) (by simp) ⟨⟨B7 hc,by rw [B4 _ _ (B7 (k:=0) hc)];exact e2⟩,trivial⟩ (by simp [A6,B0]) (by simp [rens,C2,wk])
theorem sV (G:Nat→List AV) (B:Nat) (ks kp n m:Nat) (s:Int) (hb:Ad G ks kp n m) (hw:Z4 G ks kp n m) (hn:n≤1000000) (hm:m≤1000000) (hy:K1 s (G ks) n (G kp) m=true):ACalls (za G B) 28 [.agg [.int .i64 s,.slice true (.ro ks) 0 n,.slice true (.ro kp) 0 m]] [] fun v H=>v=.tup [.slice false (.rw 0) 0 (E3 G s (G ks) n (G kp) m).length,.int .i64 0]∧H=[some ⟨1,(E3 G s (G ks) n (G kp) m)⟩]:=by
 have hS:=Dl hb hw hy;have hP:=dS hb hy;have hs:=uY hy;have u1:U9 [.agg (G ks),.int .i64 (n:Int)]=true:=R3.2 ⟨hb.sec,hn⟩;have u2:Ol [.agg (G kp),.int .i64 (m:Int)]=true:=Hy.2 ⟨hb.pls,hm⟩;have c20:DSumOk (za G B) 20 (Fs 2512 (D9 [.agg [.int .i64 s,.slice true (.ro ks) 0 n,.slice true (.ro kp) 0 m]] []) (.one (.int .i64 (.var 28 (Fc s (G ks) n (G kp) m))) [])):=Lc (v0:=.int .i64 (Fc s (G ks) n (G kp) m)) rfl (cD G B ks n kp m s u1 u2) rfl rfl (by simp) rfl
 have us:u8s (fN (n:Int)++B9 G (G ks) n)=true:=by rw [C9,N2,Ht fun j hj=>hS.u8 hj];rfl
 have up:u8s (fN (m:Int)++B6 (G kp) m)=true:=by rw [C9,N2,Hz];rfl
 have c51:DSumOk (za G B) 51 (Jz 2510 (D9 [.slice true (.ro ks) 0 n,.func 52 []] []) (.var 21 (fN (n:Int)++B9 G (G ks) n))):=qV rfl (put_s G B ks n hS) rfl us;have c53:DSumOk (za G B) 53 (Jz 2511 (D9 [.slice true (.ro kp) 0 m,.func 54 []] []) (.var 22 (fN (m:Int)++B6 (G kp) m))):=qV rfl (put_p G B kp m hP) rfl up;have e0:Fc s (G ks) n (G kp) m=0:=by unfold Fc;rw [if_pos hy]
 have uF:u8s (E3 G s (G ks) n (G kp) m)=true:=Dh hS;have lB:=Vl (G:=G) (s:=s) (ps:=(G kp)) hS hP.le
 have key:=C8 (C:=(za G B)) (f:=28) (fn:=Try.f28) (K:=Dc Try.prog [] ([(20,Fs 2512 (D9 [.agg [.int .i64 s,.slice true (.ro ks) 0 n,.slice true (.ro kp) 0 m]] []) (.one (.int .i64 (.var 28 (Fc s (G ks) n (G kp) m))) [])),(51,Jz 2510 (D9 [.slice true (.ro ks) 0 n,.func 52 []] []) (.var 21 (fN (n:Int)++B9 G (G ks) n))),(53,Jz 2511 (D9 [.slice true (.ro kp) 0 m,.func 54 []] []) (.var 22 (fN (m:Int)++B6 (G kp) m))),(57,sumS)]++progP) [] 0) (R:=fun v H=>v=.tup [.slice false (.rw 9) 0 (E3 G s (G ks) n (G kp) m).length,.int .i64 0]∧∃ H0,H=H0++[some ⟨1,(E3 G s (G ks) n (G kp) m)⟩]∧H0.length=9) (by rw [show loopsOf (C3 Try.f28)=[] by kernel_rfl];exact C7 (mix G B) (by kernel_rfl) (.cons c20 (.cons c51 (.cons c53 (.cons (qL G B) (Cv G B))))) .nil) (by kernel_rfl) (by kernel_rfl) (by kernel_rfl) (fuel:=300) (n0:=20) (keep:=10) (args:=[.agg (.of [.int .i64 (.var 1 s),.slice true (.ro (.var 24 ks)) (.lit 0) (.var 3 n),.slice true (.ro (.var 25 kp)) (.lit 0) (.var 4 m)])]) (H:=[]) (by
  rw [t28,Gh hs];have eq:∀ x:Int,A9 (A4 [.int .u64 x])=fN x:=fun x=>rfl;have el:∀ x:Int,(A4 [.int .u64 x]).length=(fN x).length:=fun x=>(K9 _).symm;simp only [eq,el];have eB:((([.int .u8 83,.int .u8 84,.int .u8 68,.int .u8 1]++fN s)++(fN (n:Int)++B9 G (G ks) n))++(fN (m:Int)++B6 (G kp) m):List AV)=Bg G s (G ks) n (G kp) m:=rfl;rw [eB];have e4:4+(fN s).length+(fN (n:Int)++B9 G (G ks) n).length+(fN (m:Int)++B6 (G kp) m).length=(Bg G s (G ks) n (G kp) m).length:=by simp only [Bg,zA6,magL,List.length_cons,List.length_nil]
  rw [e4];refine ⟨D2,fun _=>⟨D2,D2,Cg hs,rfl,zA9 _,zA9 _,zA9 _,rfl,N2 _,us,up,A8.2 (by omega),zA9 _,Zt hS,A8.2 (by omega),A8.2 (by omega),zA9 _,?_,[_,_,_,_,_,_,_,_,_],rfl,rfl⟩,fun h=>?_⟩
  ·rw [E3,zA6];rfl
  ·rw [e0] at h;exact absurd h (by decide))
 refine backT (q:=9) uF (key.monoK fun v H ⟨h1,H0,h2,h3⟩=>⟨h1,?_⟩);have h4:(H.take 10)[9]?=some (some ⟨1,(E3 G s (G ks) n (G kp) m)⟩):=by rw [h2,qP (by omega),h3];rfl
 rwa [zA4,if_pos (by omega)] at h4
theorem rb_s (G:Nat→List AV) (ks kp n m k:Nat) (s:Int) (cs:List AV) (Q:Ex→List AV→Hp→Prop) (R:AV→Hp→Prop):vT G Q R (H4 (Dc Try.prog [] progP [] 0) 300 20 0 (A5 Try.f30 0) 106 [1,3,4] [.ptr (.rw 0) (.lit 0),.slice false (.rw 1) (.lit 0) (.len (.var 21 cs)),.int .i64 (.ofN (.var 8 k))] [some ⟨1,.of [.int .i64 (.var 1 s),.slice true (.ro (.var 24 ks)) (.lit 0) (.var 3 n),.slice true (.ro (.var 25 kp)) (.lit 0) (.var 4 m)]⟩,some ⟨1,.var 21 cs⟩])=(
  (decide (((k:Int):Int)<(n:Int))=true→decide ((0:Int)≤(k:Int))=true∧decide (((k:Int):Int)<(n:Int))=true∧G6 (G ks) (k*4) [.int .i64,.int .i64,.sl,.int .i64]=true∧inU64 [.int .u64 (wS .u64 (A2 (G ks) (k*4)))]=true∧leB (wW (A4 [.int .u64 (wS .u64 (A2 (G ks) (k*4)))])) (wW (A4 [.int .u64 (wS .u64 (A2 (G ks) (k*4)))]))=true∧cellsB (A0 (A9 (A4 [.int .u64 (wS .u64 (A2 (G ks) (k*4)))])) 0 (wW (A4 [.int .u64 (wS .u64 (A2 (G ks) (k*4)))])))=true∧leB (wW cs+wW (A4 [.int .u64 (wS .u64 (A2 (G ks) (k*4)))])) 140737488355328=true∧Nat.beq (wW cs) (wW cs)=true∧inU64 [.int .u64 (wS .u64 (A2 (G ks) (k*4+1)))]=true∧leB (wW (A4 [.int .u64 (wS .u64 (A2 (G ks) (k*4+1)))])) (wW (A4 [.int .u64 (wS .u64 (A2 (G ks) (k*4+1)))]))=true∧cellsB (A0 (A9 (A4 [.int .u64 (wS .u64 (A2 (G ks) (k*4+1)))])) 0 (wW (A4 [.int .u64 (wS .u64 (A2 (G ks) (k*4+1)))])))=true∧leB (wW cs+wW (A4 [.int .u64 (wS .u64 (A2 (G ks) (k*4)))])+wW (A4 [.int .u64 (wS .u64 (A2 (G ks) (k*4+1)))])) 140737488355328=true∧Nat.beq (wW (cs++(A0 (A9 (A4 [.int .u64 (wS .u64 (A2 (G ks) (k*4)))])) 0 (wW (A4 [.int .u64 (wS .u64 (A2 (G ks) (k*4)))]))))) (wW cs+wW (A4 [.int .u64 (wS .u64 (A2 (G ks) (k*4)))]))=true∧leB (D1 (G ks) (k*4+2)) 1099511627776=true∧
 leB (H8 (G ks) (k*4+2)+D1 (G ks) (k*4+2)) (wW (G (G0 (G ks) (k*4+2))))=true∧u8s (G (G0 (G ks) (k*4+2)))=true∧u8s (A0 (G (G0 (G ks) (k*4+2))) (H8 (G ks) (k*4+2)) (D1 (G ks) (k*4+2)))=true∧leB (wW (A4 [.int .u64 (((D1 (G ks) (k*4+2):Nat):Int))])+D1 (G ks) (k*4+2)) (wW ((A9 (A4 [.int .u64 (((D1 (G ks) (k*4+2):Nat):Int))]))++(A0 (G (G0 (G ks) (k*4+2))) (H8 (G ks) (k*4+2)) (D1 (G ks) (k*4+2)))))=true∧cellsB (A0 ((A9 (A4 [.int .u64 (((D1 (G ks) (k*4+2):Nat):Int))]))++(A0 (G (G0 (G ks) (k*4+2))) (H8 (G ks) (k*4+2)) (D1 (G ks) (k*4+2)))) 0 (wW (A4 [.int .u64 (((D1 (G ks) (k*4+2):Nat):Int))])+D1 (G ks) (k*4+2)))=true∧leB (wW cs+wW (A4 [.int .u64 (wS .u64 (A2 (G ks) (k*4)))])+wW (A4 [.int .u64 (wS .u64 (A2 (G ks) (k*4+1)))])+(wW (A4 [.int .u64 (((D1 (G ks) (k*4+2):Nat):Int))])+D1 (G ks) (k*4+2))) 140737488355328=true∧Nat.beq (wW ((cs++(A0 (A9 (A4 [.int .u64 (wS .u64 (A2 (G ks) (k*4)))])) 0 (wW (A4 [.int .u64 (wS .u64 (A2 (G ks) (k*4)))]))))++(A0 (A9 (A4 [.int .u64 (wS .u64 (A2 (G ks) (k*4+1)))])) 0 (wW (A4 [.int .u64 (wS .u64 (A2 (G ks) (k*4+1)))]))))) (wW cs+wW (A4 [.int .u64 (wS .u64 (A2 (G ks) (k*4)))])+wW (A4 [.int .u64 (wS .u64 (A2 (G ks) (k*4+1)))]))=true∧inU64 [.int .u64 (wS .u64 (A2 (G ks) (k*4+3)))]=true∧
 leB (wW (A4 [.int .u64 (wS .u64 (A2 (G ks) (k*4+3)))])) (wW (A4 [.int .u64 (wS .u64 (A2 (G ks) (k*4+3)))]))=true∧cellsB (A0 (A9 (A4 [.int .u64 (wS .u64 (A2 (G ks) (k*4+3)))])) 0 (wW (A4 [.int .u64 (wS .u64 (A2 (G ks) (k*4+3)))])))=true∧leB (wW cs+wW (A4 [.int .u64 (wS .u64 (A2 (G ks) (k*4)))])+wW (A4 [.int .u64 (wS .u64 (A2 (G ks) (k*4+1)))])+(wW (A4 [.int .u64 (((D1 (G ks) (k*4+2):Nat):Int))])+D1 (G ks) (k*4+2))+wW (A4 [.int .u64 (wS .u64 (A2 (G ks) (k*4+3)))])) 140737488355328=true∧Nat.beq (wW (((cs++(A0 (A9 (A4 [.int .u64 (wS .u64 (A2 (G ks) (k*4)))])) 0 (wW (A4 [.int .u64 (wS .u64 (A2 (G ks) (k*4)))]))))++(A0 (A9 (A4 [.int .u64 (wS .u64 (A2 (G ks) (k*4+1)))])) 0 (wW (A4 [.int .u64 (wS .u64 (A2 (G ks) (k*4+1)))]))))++(A0 ((A9 (A4 [.int .u64 (((D1 (G ks) (k*4+2):Nat):Int))]))++(A0 (G (G0 (G ks) (k*4+2))) (H8 (G ks) (k*4+2)) (D1 (G ks) (k*4+2)))) 0 (wW (A4 [.int .u64 (((D1 (G ks) (k*4+2):Nat):Int))])+D1 (G ks) (k*4+2))))) (wW cs+wW (A4 [.int .u64 (wS .u64 (A2 (G ks) (k*4)))])+wW (A4 [.int .u64 (wS .u64 (A2 (G ks) (k*4+1)))])+(wW (A4 [.int .u64 (((D1 (G ks) (k*4+2):Nat):Int))])+D1 (G ks) (k*4+2)))=true∧
 Q .normal [.ptr (.rw 0) 0,.slice false (.rw 10) 0 (wW cs+wW (A4 [.int .u64 (wS .u64 (A2 (G ks) (k*4)))])+wW (A4 [.int .u64 (wS .u64 (A2 (G ks) (k*4+1)))])+(wW (A4 [.int .u64 (((D1 (G ks) (k*4+2):Nat):Int))])+D1 (G ks) (k*4+2))+wW (A4 [.int .u64 (wS .u64 (A2 (G ks) (k*4+3)))])),.int .i64 (wS .i64 ((k:Int)+1))] [some ⟨1,([.int .i64 s,.slice true (.ro ks) 0 n,.slice true (.ro kp) 0 m]:List AV)⟩,none,some ⟨1,([.int .i64 (A2 (G ks) (k*4)),.int .i64 (A2 (G ks) (k*4+1)),.slice true (.ro (G0 (G ks) (k*4+2))) (H8 (G ks) (k*4+2)) (D1 (G ks) (k*4+2)),.int .i64 (A2 (G ks) (k*4+3))]:List AV)⟩,some ⟨1,(A9 (A4 [.int .u64 (wS .u64 (A2 (G ks) (k*4)))]))⟩,none,some ⟨1,(A9 (A4 [.int .u64 (wS .u64 (A2 (G ks) (k*4+1)))]))⟩,none,some ⟨1,((A9 (A4 [.int .u64 (((D1 (G ks) (k*4+2):Nat):Int))]))++(A0 (G (G0 (G ks) (k*4+2))) (H8 (G ks) (k*4+2)) (D1 (G ks) (k*4+2))))⟩,none,some ⟨1,(A9 (A4 [.int .u64 (wS .u64 (A2 (G ks) (k*4+3)))]))⟩,some ⟨1,((((cs++(A0 (A9 (A4 [.int .u64 (wS .u64 (A2 (G ks) (k*4)))])) 0 (wW (A4 [.int .u64 (wS .u64 (A2 (G ks) (k*4)))]))))++(A0 (A9 (A4 [.int .u64 (wS .u64 (A2 (G ks) (k*4+1)))])) 0 (wW (A4 [.int .u64 (wS .u64 (A2 (G ks) (k*4+1)))]))))++(A0 ((A9 (A4 [.int .u64 (((D1 (G ks) (k*4+2):Nat):Int))]))++(A0 (G (G0 (G ks) (k*4+2))) (H8 (G ks) (k*4+2)) (D1 (G ks) (k*4+2)))) 0 (wW (A4 [.int .u64 (((D1 (G ks) (k*4+2):Nat):Int))])+D1 (G ks) (k*4+2))))++(A0 (A9 (A4 [.int .u64 (wS .u64 (A2 (G ks) (k*4+3)))])) 0 (wW (A4 [.int .u64 (wS .u64 (A2 (G ks) (k*4+3)))]))))⟩])∧
 (decide (((k:Int):Int)<(n:Int))=false→Q (.exit 0) [.ptr (.rw 0) 0,.slice false (.rw 1) 0 (wW cs),.int .i64 ((k:Int))] [some ⟨1,([.int .i64 s,.slice true (.ro ks) 0 n,.slice true (.ro kp) 0 m]:List AV)⟩,some ⟨1,cs⟩])):=by kernel_rfl
theorem rb_p (G:Nat→List AV) (ks kp n m k:Nat) (s:Int) (cs:List AV) (Q:Ex→List AV→Hp→Prop) (R:AV→Hp→Prop):vT G Q R (H4 (Dc Try.prog [] progP [] 0) 300 20 0 (A5 Try.f30 1) 106 [1,3,6] [.ptr (.rw 0) (.lit 0),.slice false (.rw 1) (.lit 0) (.len (.var 21 cs)),.int .i64 (.ofN (.var 8 k))] [some ⟨1,.of [.int .i64 (.var 1 s),.slice true (.ro (.var 24 ks)) (.lit 0) (.var 3 n),.slice true (.ro (.var 25 kp)) (.lit 0) (.var 4 m)]⟩,some ⟨1,.var 21 cs⟩])=(
  (decide (((k:Int):Int)<(m:Int))=true→decide ((0:Int)≤(k:Int))=true∧decide (((k:Int):Int)<(m:Int))=true∧isI .i64 (G kp) (k*2)=true∧inU64 [.int .u64 (wS .u64 (A2 (G kp) (k*2)))]=true∧leB (wW (A4 [.int .u64 (wS .u64 (A2 (G kp) (k*2)))])) (wW (A4 [.int .u64 (wS .u64 (A2 (G kp) (k*2)))]))=true∧cellsB (A0 (A9 (A4 [.int .u64 (wS .u64 (A2 (G kp) (k*2)))])) 0 (wW (A4 [.int .u64 (wS .u64 (A2 (G kp) (k*2)))])))=true∧leB (wW cs+wW (A4 [.int .u64 (wS .u64 (A2 (G kp) (k*2)))])) 140737488355328=true∧Nat.beq (wW cs) (wW cs)=true∧decide ((0:Int)≤(k:Int))=true∧decide (((k:Int):Int)<(m:Int))=true∧isB (G kp) (k*2+1)=true∧leB (wW cs+wW (A4 [.int .u64 (wS .u64 (A2 (G kp) (k*2)))])+1) 140737488355328=true∧Nat.beq (wW (cs++(A0 (A9 (A4 [.int .u64 (wS .u64 (A2 (G kp) (k*2)))])) 0 (wW (A4 [.int .u64 (wS .u64 (A2 (G kp) (k*2)))]))))) (wW cs+wW (A4 [.int .u64 (wS .u64 (A2 (G kp) (k*2)))]))=true∧
 Q .normal [.ptr (.rw 0) 0,.slice false (.rw 5) 0 (wW cs+wW (A4 [.int .u64 (wS .u64 (A2 (G kp) (k*2)))])+1),.int .i64 (wS .i64 ((k:Int)+1))] [some ⟨1,([.int .i64 s,.slice true (.ro ks) 0 n,.slice true (.ro kp) 0 m]:List AV)⟩,none,some ⟨1,(A9 (A4 [.int .u64 (wS .u64 (A2 (G kp) (k*2)))]))⟩,none,some ⟨1,([.int .u8 (Z1 [.bool (G8 (G kp) (k*2+1))])]:List AV)⟩,some ⟨1,((cs++(A0 (A9 (A4 [.int .u64 (wS .u64 (A2 (G kp) (k*2)))])) 0 (wW (A4 [.int .u64 (wS .u64 (A2 (G kp) (k*2)))]))))++([.int .u8 (Z1 [.bool (G8 (G kp) (k*2+1))])]:List AV))⟩])∧(decide (((k:Int):Int)<(m:Int))=false→Q (.exit 2) [.ptr (.rw 0) 0,.slice false (.rw 1) 0 (wW cs),.int .i64 ((k:Int))] [some ⟨1,([.int .i64 s,.slice true (.ro ks) 0 n,.slice true (.ro kp) 0 m]:List AV)⟩,some ⟨1,cs⟩])):=by kernel_rfl
end Go.Am
