/-
  Images moved: the reference's loop over the places. Images moved: the reference's loop over the places: its rounds.
-/
import Derived.Test.YthejjolnlngahaaPart9
import Derived.Test.YthejjolnlngahaaBase5
import Derived.Test.YthejjolnlngahaaBase3
import Derived.Test.YthejjolnlngahaaProg
namespace Go.Am
open Go.Proofs
set_option maxRecDepth 100000
def plC (f:Nat→Int) (ps:List AV) (j:Nat):Nat→AV
 | 0=>.int .i64 (f j)
 | _=>.bool (hP ps j)
def V3 (f:Nat→Int) (ps:List AV) (m:Nat):List AV:=S4 m 2 (plC f ps)
theorem mO {f:Nat→Int} {ps:List AV} {m:Nat}:(V3 f ps m).length=m*2:=Ff
theorem Ok {N:Nat} {f:Nat→Int} {ps:List AV} {m:Nat}:A6 N (V3 f ps m)=true:=Uj fun a b ha hb=>by
 match b,hb with
 | 0,_=>rfl
 | 1,_=>rfl
theorem fE {ps:List AV} {m:Nat} (h:Ef ps m=true) (hl:m*2≤ps.length):F8 ps 0 (m*2)=V3 (xP ps) ps m:=by
 refine List.ext_getElem? fun j=>?_;by_cases hj:j<m*2
 ·obtain ⟨h1,h2,h3⟩:=Ra hj;have e:=X0 h h1;have e2:(V3 (xP ps) ps m)[j / 2*2+j % 2]?=some (plC (xP ps) ps (j / 2) (j % 2)):=Cb (f:=plC (xP ps) ps) h1 h2;rw [←h3] at e2;rw [e2];unfold F8;rw [List.drop_zero,List.getElem?_take,if_pos hj];generalize j / 2=a at *;generalize j % 2=b at *;subst h3;obtain ⟨q1,_⟩:=e;simp only [E2,Z9,Bool.and_eq_true] at q1
  match b,h2 with
  | 0,_=>rw [Nat.add_zero];exact Cm q1.1
  | 1,_=>
   have hb:isB ps (a*2+1)=true:=q1.2.1;show ps[a*2+1]?=some (.bool (K5 ps (a*2+1)));unfold isB at hb;unfold K5;split at hb
   ·rename_i e;rw [e]
   ·cases hb
 ·have h1:(F8 ps 0 (m*2)).length≤j:=by
   unfold F8;rw [List.length_take];omega
  have h2:(V3 (xP ps) ps m).length≤j:=by rw [mO];omega
  rw [List.getElem?_eq_none h1,List.getElem?_eq_none h2]
end Go.Am
namespace Go.Am
open Go.Proofs
set_option maxRecDepth 100000
end Go.Am
namespace Go.Am
open Go.Proofs
set_option maxRecDepth 100000
theorem lS {v:AV} {a b:List AV} (h:wk a b):wk (v::a) (v::b):=by cases v<;>simp [wk,h]
theorem Ho {m k:Nat}:∀ {a b:List AV},wk a b→wk (fzs m k a) (fzs m k b)
 | [],[],_=>by simp [fzs,wk]
 | [],y::b,h=>by simp [wk] at h
 | x::a,[],h=>by cases x<;>simp [wk] at h
 | x::a,y::b,h=>by
  by_cases hx:x=.undef
  ·subst hx;have h:wk a b:=h;show wk (.undef::fzs m k a) (fz m k y::fzs m k b);exact Ho h
  ·have h2:y=x∧wk a b:=by cases x<;>first | exact absurd rfl hx | exact h
   obtain ⟨rfl,h2⟩:=h2;exact lS (Ho h2)
theorem jQ {q k m z:Nat} {f:Nat→Nat→AV}:fzs q k (S4 m z f)=S4 m z fun a b=>fz q k (f a b):=by
 rw [U3];unfold S4;rw [List.map_map];rfl
def dK (kd:Nat→Nat) (cs:List AV) (j:Nat):AV:=.slice true (.ro (kd j)) 0 (sN cs j)
end Go.Am
namespace Go.Am
open Go.Proofs
set_option maxRecDepth 100000
end Go.Am
namespace Go.Am
open Go.Proofs
set_option maxRecDepth 100000
def iH (f:Nat→Int) (cs:List AV) (d:Nat→AV) (j:Nat):Nat→AV
 | 0=>.int .i64 (f j)
 | 1=>.int .i64 (sR cs j)
 | 2=>d j
 | _=>.int .i64 (sZ cs j)
def scU (f:Nat→Int) (cs:List AV) (n:Nat) (d:Nat→AV):List AV:=S4 n 4 (iH f cs d)
theorem eX {cs:List AV} {n:Nat} {d:Nat→AV}:M2 cs n d=scU (sA cs) cs n d:=Ed fun a b ha hb=>by
 match b,hb with
 | 0,_=>rfl
 | 1,_=>rfl
 | 2,_=>rfl
 | 3,_=>rfl
theorem iT {f:Nat→Int} {ps:List AV} {m:Nat}:∀ v∈V3 f ps m,G8 v=true:=fun v hv=>by
 unfold V3 S4 at hv;obtain ⟨j,hj,rfl⟩:=List.mem_map.1 hv;have hb:j % 2<2:=Nat.mod_lt _ (by omega);generalize j % 2=b at hb
 match b,hb with
 | 0,_=>rfl
 | 1,_=>rfl
end Go.Am
namespace Go.Am
open Go.Proofs
set_option maxRecDepth 100000
end Go.Am
namespace Go.Am
open Go.Proofs
set_option maxRecDepth 100000
end Go.Am
namespace Go.Am
open Go.Proofs
set_option maxRecDepth 100000
theorem eY {f:Nat→Int} {cs:List AV} {n:Nat} {kd:Nat→Nat}:K1 (scU f cs n (dK kd cs)) n=true:=I5.2 fun j hj=>by
 have e:∀ b,b<4→(scU f cs n (dK kd cs))[j*4+b]?=some (iH f cs (dK kd cs) j b):=fun b hb=>Cb (f:=iH f cs (dK kd cs)) hj hb;have e0:=e 0 (by omega);rw [Nat.add_zero] at e0;have e2:Dz (scU f cs n (dK kd cs)) (j*4+1+1)=true:=by unfold Dz;rw [e 2 (by omega)];rfl
 simp only [E2,Z9,isI,e0,e 1 (by omega),e2,Bool.and_eq_true];have e3:=e 3 (by omega);rw [show j*4+1+1+1=j*4+3 by omega,e3];exact ⟨rfl,rfl,trivial,rfl,trivial⟩
end Go.Am
namespace Go.Am
open Go.Proofs
set_option maxRecDepth 100000
end Go.Am
namespace Go.Am
open Go.Proofs
set_option maxRecDepth 100000
end Go.Am
namespace Go.Am
open Go.Proofs
set_option maxRecDepth 100000
theorem Na {s:Int} {cs ps:List AV} {n m:Nat} (h:J0 s cs n ps m=true):(n≤8∧m≤512)∧E7 (J6 cs) n=true∧E7 (Y9 cs n ps) m=true:=by
 unfold J0 at h;simp only [Bool.and_eq_true,decide_eq_true_eq] at h;exact ⟨h.1,h.2.2.1,h.2.2.2.1⟩
theorem Fl {s:Int} {cs ps:List AV} {n m:Nat} (h:J0 s cs n ps m=true):∀ j,j<n→0≤sA cs j∧sA cs j≤8192∧sN cs j≤8192∧I8 cs j=true:=fun j hj=>by
 obtain ⟨_,h1,_⟩:=Na h
 have:=I5.1 h1 j hj
 unfold J6 at this;rw [Bool.and_eq_true] at this;have t:=this.1;have q:=E5.1 t;exact ⟨q.2.1.1,q.2.1.2.1,q.1.2.2,t⟩
def dB (G:Nat→List AV) (cs:List AV) (j:Nat):List Nat:=(Fs G cs j).map fun v=>match v with | .int _ x=>x.toNat | _=>0
def dB0 (G:Nat→List AV) (cs:List AV) (n j:Nat):List Nat:=if j<n then dB G cs j else []
theorem dJ {G:Nat→List AV} {cs:List AV} {j:Nat} {b:List Nat} (h:Fs G cs j=B9 b):dB G cs j=b:=by
 unfold dB;rw [h];unfold B9;rw [List.map_map];refine Eq.trans (List.map_congr_left (g:=id) fun x _=>?_) (List.map_id b);exact D4 x
structure V7 (G:Nat→List AV) (ks kp n m:Nat):Prop where
 sec:K1 (G ks) n=true
 pls:Ef (G kp) m=true
 cp:cpB G ks kp n m=true
 dat:∀ j,j<n→∃ b,byO b∧Fs G (G ks) j=B9 b
theorem nL {G:Nat→List AV} {ks kp n m:Nat} (h:V7 G ks kp n m) (j:Nat) (hj:j<n):(dB0 G (G ks) n j).length=sN (G ks) j:=by
 obtain ⟨_,_,hd⟩:=Im.1 h.cp;have hc:=(V1.1 (hd j hj)).1.1;have hc:=G1.1 hc;unfold dB0;rw [if_pos hj];unfold dB Fs F8;rw [List.length_map,List.length_take,List.length_drop]
 have:B7 (G ks) (j*4+2)=sN (G ks) j:=rfl
 omega
theorem oY {G:Nat→List AV} {ks kp n m:Nat} (h:V7 G ks kp n m):F8 (G kp) 0 (m*2)=V3 (xP (G kp)) (G kp) m:=by
 obtain ⟨_,hc,_⟩:=Im.1 h.cp
 have:=G1.1 (V1.1 hc).1.1
 exact fE h.pls (by omega)
end Go.Am
namespace Go.Am
open Go.Proofs
set_option maxRecDepth 100000
theorem Pe {n:Nat}:∀ {a b:List AV},wk a b→A6 n a=true→fv n a b
 | [],[],_,_=>trivial
 | [],y::b,h,_=>by simp [wk] at h
 | x::a,[],h,_=>by cases x<;>simp [wk] at h
 | x::a,y::b,h,hb=>by
  simp only [A6,Bool.and_eq_true] at hb;by_cases hx:x=.undef
  ·subst hx;have h:wk a b:=h;show fv n a b;exact Pe h hb.2
  ·have h2:y=x∧wk a b:=by cases x<;>first | exact absurd rfl hx | exact h
   obtain ⟨rfl,h2⟩:=h2
   have:=Pe h2 hb.2
   cases y<;>first | exact absurd rfl hx | exact ⟨⟨hb.1,rfl⟩,this⟩
end Go.Am
namespace Go.Am
open Go.Proofs
set_option maxRecDepth 100000
end Go.Am
namespace Go.Am
open Go.Proofs
set_option maxRecDepth 100000
end Go.Am
namespace Go.Am
open Go.Proofs
set_option maxRecDepth 100000
end Go.Am
namespace Go.Am
open Go.Proofs
set_option maxRecDepth 100000
structure M4 (G:Nat→List AV) (ks kp n m:Nat):Prop where
 sec:(G ks)=M2 (G ks) n (dR (G ks))
 off:∀ j,j<n→A7 (G ks) (j*4+2)=0
 dat:∀ j,j<n→G (A5 (G ks) (j*4+2))=Fs G (G ks) j
 pls:(G kp)=(V3 (xP (G kp)) (G kp) m)
theorem nC {q k:Nat} {a b:List AV}:fzs q k (a++b)=fzs q k a++fzs q k b:=by rw [U3,U3,U3,List.map_append]
theorem iJ {cs:List AV} {n:Nat}:∀ v∈M2 cs n (dR cs),G8 v=true:=fun v hv=>by
 unfold M2 S4 at hv;obtain ⟨j,hj,rfl⟩:=List.mem_map.1 hv;have hb:j % 4<4:=Nat.mod_lt _ (by omega);generalize j % 4=b at hb
 match b,hb with
 | 0,_=>rfl
 | 1,_=>rfl
 | 2,_=>rfl
 | 3,_=>rfl
theorem oK {cs:List AV} {i:Nat}:A6 0 (M2 cs i (dR cs))=true:=Zz fun j hj=>rfl
end Go.Am
namespace Go.Am
open Go.Proofs
set_option maxRecDepth 100000
end Go.Am
namespace Go.Am
open Go.Proofs
set_option maxRecDepth 100000
end Go.Am
namespace Go.Am
open Go.Proofs
set_option maxRecDepth 100000
end Go.Am
namespace Go.Am
open Go.Proofs
set_option maxRecDepth 100000
end Go.Am
namespace Go.Am
open Go.Proofs
set_option maxRecDepth 100000
end Go.Am
namespace Go.Am
open Go.Proofs
set_option maxRecDepth 100000
end Go.Am
namespace Go.Am
open Go.Proofs
set_option maxRecDepth 100000
end Go.Am
namespace Go.Am
open Go.Proofs
set_option maxRecDepth 100000
end Go.Am
namespace Go.Proofs.Ythejjolnlngahaa
open Go.Am Go.RowKit
set_option maxRecDepth 100000
theorem fX (G:Nat→List AV) (B:Nat):vc (Kc ⟨Try.prog,G,B⟩) 3000 0 (.code (E3 Try.f11)) (P4 Try.f11 []) [] (M6 ⟨Try.prog,G,B⟩ Try.f11 fun v _=>chk (isT v) True)=True:=by kernel_rfl
theorem Qj (G:Nat→List AV) (B:Nat):ACalls ⟨Try.prog,G,B⟩ 11 [] [] fun v _=>v=.bool true:=
 closed_run (C:=⟨Try.prog,G,B⟩) (by kernel_rfl) (fn:=Try.f11) (by kernel_rfl) (by kernel_rfl) (by kernel_rfl) 3000 (fX G B)
end Go.Proofs.Ythejjolnlngahaa
namespace Go.Am
open Go.Proofs
set_option maxRecDepth 100000
def plA:AV→Bool
 | .int _ _=>true
 | .bool _=>true
 | _=>false
theorem R1 {l:List AV} {n:Nat} (h:l.length=n):F8 l 0 n=l:=by
 unfold F8;rw [List.drop_zero,List.take_of_length_le (by omega)]
theorem Se {cs:List AV} {n m:Nat} (h:Y2 cs n m=false):n≤20∧m≤1000:=by
 unfold Y2 at h;simp only [Bool.or_eq_false_iff,decide_eq_false_iff_not] at h;omega
end Go.Am
namespace Go.Am
open Go.Proofs
set_option maxRecDepth 100000
def D7 (j:Nat) (q:List AV→Bool) (o:Outs):DSum:=fun args _=>some (.chk (.uf j q [.agg (.of args),.agg (.of [])]) o)
theorem sRo_tst {C:A1} {f j:Nat} {vs0:List AV} {v0:AV} {b:EB} {x y:EV} {q:List AV→Bool} (hq:q=B2 vs0 []) (h:ACalls C f vs0 [] fun v _=>v=v0) (ha:A6 0 vs0=true) (hv:B1 0 v0=true) (hu:v0≠.undef) (e1:vB C.G b=true→vV C.G x=v0) (e2:vB C.G b=false→vV C.G y=v0):C9 C f (D7 j q (.tst b (.one x []) (.one y []))):=by
 intro args H o' ho;simp only [D7,Option.some.injEq] at ho;subst ho;intro h1;have h1:q [.agg (vVs C.G args),.agg (O1 [])]=true:=h1;rw [hq] at h1;obtain ⟨e,_⟩:=Et h1;have h0:=ACalls.drop0 h hv hu;refine ⟨fun hb=>?_,fun hb=>?_⟩
 ·have:=e1 hb
  exact G9.ro0 (by rw [e,this];exact h0) (by rw [e];exact ha) (by rw [this];exact hv)
 ·have:=e2 hb
  exact G9.ro0 (by rw [e,this];exact h0) (by rw [e];exact ha) (by rw [this];exact hv)
theorem sRo_one {C:A1} {f j:Nat} {vs0:List AV} {v0:AV} {x:EV} {q:List AV→Bool} (hq:q=B2 vs0 []) (h:ACalls C f vs0 [] fun v _=>v=v0) (ha:A6 0 vs0=true) (hv:B1 0 v0=true) (hu:v0≠.undef) (e1:vV C.G x=v0):C9 C f (D7 j q (.one x [])):=by
 intro args H o' ho;simp only [D7,Option.some.injEq] at ho;subst ho;intro h1;have h1:q [.agg (vVs C.G args),.agg (O1 [])]=true:=h1;rw [hq] at h1;obtain ⟨e,_⟩:=Et h1;exact G9.ro0 (by rw [e,e1];exact ACalls.drop0 h hv hu) (by rw [e];exact ha) (by rw [e1];exact hv)
end Go.Am
namespace Go.Am
open Go.Proofs
set_option maxRecDepth 100000
theorem Yo {b:List Nat}:u8s (B9 b)=true:=by
 unfold u8s;rw [List.all_eq_true];intro v hv;obtain ⟨x,_,rfl⟩:=List.mem_map.1 hv;rfl
end Go.Am
namespace Go.Am
open Go.Proofs
set_option maxRecDepth 100000
theorem W6 {C:A1} {f j:Nat} {o:Outs}:C9 C f (D7 j (fun _=>false) o):=by
 intro args H o' ho;simp only [D7,Option.some.injEq] at ho;subst ho;intro h;exact absurd h (by simp [vB])
end Go.Am
namespace Go.Am
open Go.Proofs
set_option maxRecDepth 100000
theorem by_c (G:Nat→List AV) (k o n:Nat) (a r y x:Int) (Q:Ex→List AV→Hp→Prop) (R:AV→Hp→Prop):vT G Q R (H5 (Dc Try.prog [] [] [] 0) 300 20 Try.f49 [.agg (.of [.int .i64 (.var 1 a),.int .i64 (.var 2 r),.slice true (.ro (.var 3 k)) (.var 4 o) (.var 5 n),.int .i64 (.var 6 y)]),.int .i64 (.var 7 x)] [] 0)=(
  (decide ((IntKind.wrap .i64 (x - a):Int)<((n:Nat):Int))=true→decide ((0:Int)≤IntKind.wrap .i64 (x - a))=true∧decide ((IntKind.wrap .i64 (x - a):Int)<((n:Nat):Int))=true∧isI .u8 (G (k)) (Int.toNat (IntKind.wrap .i64 (x - a))+o)=true∧R (.int .u8 (A0 (G (k)) (Int.toNat (IntKind.wrap .i64 (x - a))+o))) [])∧(decide ((IntKind.wrap .i64 (x - a):Int)<((n:Nat):Int))=false→R (.int .u8 (0)) [])):=by kernel_rfl
theorem rb_b (G:Nat→List AV) (ks kp n m i:Nat) (s x:Int) (Q:Ex→List AV→Hp→Prop) (R:AV→Hp→Prop):vT G Q R (I0 (Dc Try.prog [] progIb [] 0) 300 20 0 (loopN Try.f23 0) 62 [1,2,4,5,6,7] [.int .u32 (.var 6 x),.ptr (.rw 0) (.lit 0),.int .u8 (.lit 0),.int .i64 (.lit 0),.bool (.lit false),.int .i64 (.ofN (.var 8 i))] [some ⟨1,.of [.int .i64 (.var 1 s),.slice true (.ro (.var 24 ks)) (.lit 0) (.var 3 n),.slice true (.ro (.var 25 kp)) (.lit 0) (.var 4 m)]⟩])=(
  (decide ((((i:Nat):Int):Int)<((n:Nat):Int))=true→decide ((0:Int)≤((i:Nat):Int))=true∧decide ((((i:Nat):Int):Int)<((n:Nat):Int))=true∧E2 (G (ks)) ((i)*4) [.int .i64,.int .i64,.sl,.int .i64]=true∧(decide ((x:Int)>8192)=true→Q .normal [.int .u32 (x),.ptr (.rw 0) (0),.int .u8 (0),.int .i64 (0),.bool (false),.int .i64 (IntKind.wrap .i64 (((i:Nat):Int)+1))] [some ⟨1,([.int .i64 (s),.slice true (.ro (ks)) (0) (n),.slice true (.ro (kp)) (0) (m)]:List AV)⟩,some ⟨1,([.int .i64 (A0 (G (ks)) ((i)*4)),.int .i64 (A0 (G (ks)) ((i)*4+1)),.slice true (.ro (A5 (G (ks)) ((i)*4+2))) (A7 (G (ks)) ((i)*4+2)) (B7 (G (ks)) ((i)*4+2)),.int .i64 (A0 (G (ks)) ((i)*4+3))]:List AV)⟩])∧(decide ((x:Int)>8192)=false→(decide ((IntKind.wrap .i64 (x):Int)<A0 (G (ks)) ((i)*4))=true→Q .normal [.int .u32 (x),.ptr (.rw 0) (0),.int .u8 (0),.int .i64 (0),.bool (false),.int .i64 (IntKind.wrap .i64 (((i:Nat):Int)+1))] [some ⟨1,([.int .i64 (s),.slice true (.ro (ks)) (0) (n),.slice true (.ro (kp)) (0) (m)]:List AV)⟩,some ⟨1,([.int .i64 (A0 (G (ks)) ((i)*4)),.int .i64 (A0 (G (ks)) ((i)*4+1)),.slice true (.ro (A5 (G (ks)) ((i)*4+2))) (A7 (G (ks)) ((i)*4+2)) (B7 (G (ks)) ((i)*4+2)),.int .i64 (A0 (G (ks)) ((i)*4+3))]:List AV)⟩])∧(decide ((IntKind.wrap .i64 (x):Int)<A0 (G (ks)) ((i)*4))=false→(decide ((IntKind.wrap .i64 (x):Int)≥IntKind.wrap .i64 (A0 (G (ks)) ((i)*4)+S6 [.int .i64 (((B7 (G (ks)) ((i)*4+2):Nat):Int)),.int .i64 (A0 (G (ks)) ((i)*4+3))]))=true→
 Q .normal [.int .u32 (x),.ptr (.rw 0) (0),.int .u8 (0),.int .i64 (0),.bool (false),.int .i64 (IntKind.wrap .i64 (((i:Nat):Int)+1))] [some ⟨1,([.int .i64 (s),.slice true (.ro (ks)) (0) (n),.slice true (.ro (kp)) (0) (m)]:List AV)⟩,some ⟨1,([.int .i64 (A0 (G (ks)) ((i)*4)),.int .i64 (A0 (G (ks)) ((i)*4+1)),.slice true (.ro (A5 (G (ks)) ((i)*4+2))) (A7 (G (ks)) ((i)*4+2)) (B7 (G (ks)) ((i)*4+2)),.int .i64 (A0 (G (ks)) ((i)*4+3))]:List AV)⟩])∧(decide ((IntKind.wrap .i64 (x):Int)≥IntKind.wrap .i64 (A0 (G (ks)) ((i)*4)+S6 [.int .i64 (((B7 (G (ks)) ((i)*4+2):Nat):Int)),.int .i64 (A0 (G (ks)) ((i)*4+3))]))=false→(decide ((IntKind.wrap .i64 (IntKind.wrap .i64 (x) - A0 (G (ks)) ((i)*4)):Int)<((B7 (G (ks)) ((i)*4+2):Nat):Int))=true→decide ((0:Int)≤IntKind.wrap .i64 (IntKind.wrap .i64 (x) - A0 (G (ks)) ((i)*4)))=true∧decide ((IntKind.wrap .i64 (IntKind.wrap .i64 (x) - A0 (G (ks)) ((i)*4)):Int)<((B7 (G (ks)) ((i)*4+2):Nat):Int))=true∧isI .u8 (G (A5 (G (ks)) ((i)*4+2))) (Int.toNat (IntKind.wrap .i64 (IntKind.wrap .i64 (x) - A0 (G (ks)) ((i)*4)))+A7 (G (ks)) ((i)*4+2))=true∧Q .ret [.int .u32 (x),.ptr (.rw 0) (0),.int .u8 (A0 (G (A5 (G (ks)) ((i)*4+2))) (Int.toNat (IntKind.wrap .i64 (IntKind.wrap .i64 (x) - A0 (G (ks)) ((i)*4)))+A7 (G (ks)) ((i)*4+2))),.int .i64 (A0 (G (ks)) ((i)*4+1)),.bool (true),.int .i64 (((i:Nat):Int))] [some ⟨1,([.int .i64 (s),.slice true (.ro (ks)) (0) (n),.slice true (.ro (kp)) (0) (m)]:List AV)⟩,some ⟨1,([.int .i64 (A0 (G (ks)) ((i)*4)),.int .i64 (A0 (G (ks)) ((i)*4+1)),.slice true (.ro (A5 (G (ks)) ((i)*4+2))) (A7 (G (ks)) ((i)*4+2)) (B7 (G (ks)) ((i)*4+2)),.int .i64 (A0 (G (ks)) ((i)*4+3))]:List AV)⟩])∧
 (decide ((IntKind.wrap .i64 (IntKind.wrap .i64 (x) - A0 (G (ks)) ((i)*4)):Int)<((B7 (G (ks)) ((i)*4+2):Nat):Int))=false→Q .ret [.int .u32 (x),.ptr (.rw 0) (0),.int .u8 (0),.int .i64 (A0 (G (ks)) ((i)*4+1)),.bool (true),.int .i64 (((i:Nat):Int))] [some ⟨1,([.int .i64 (s),.slice true (.ro (ks)) (0) (n),.slice true (.ro (kp)) (0) (m)]:List AV)⟩,some ⟨1,([.int .i64 (A0 (G (ks)) ((i)*4)),.int .i64 (A0 (G (ks)) ((i)*4+1)),.slice true (.ro (A5 (G (ks)) ((i)*4+2))) (A7 (G (ks)) ((i)*4+2)) (B7 (G (ks)) ((i)*4+2)),.int .i64 (A0 (G (ks)) ((i)*4+3))]:List AV)⟩])))))∧(decide ((((i:Nat):Int):Int)<((n:Nat):Int))=false→Q (.exit 0) [.int .u32 (x),.ptr (.rw 0) (0),.int .u8 (0),.int .i64 (0),.bool (false),.int .i64 (((i:Nat):Int))] [some ⟨1,([.int .i64 (s),.slice true (.ro (ks)) (0) (n),.slice true (.ro (kp)) (0) (m)]:List AV)⟩])):=by kernel_rfl
theorem si_b (G:Nat→List AV) (ks kp n m i:Nat) (s t:Int) (Q:Ex→List AV→Hp→Prop) (R:AV→Hp→Prop):vT G Q R (I0 (Dc Try.prog [] progIb [] 0) 300 20 0 (loopN Try.f27 0) 22 [2,3,10,11,12] [.int .i64 (.lit 0),.int .i64 (.var 6 t),.slice true (.ro (.var 24 ks)) (.lit 0) (.var 3 n),.int .i64 (.ofN (.var 3 n)),.int .i64 (.ofN (.var 8 i))] [some ⟨1,.of [.int .i64 (.var 1 s),.slice true (.ro (.var 24 ks)) (.lit 0) (.var 3 n),.slice true (.ro (.var 25 kp)) (.lit 0) (.var 4 m)]⟩])=(
  (decide ((((i:Nat):Int):Int)<((n:Nat):Int))=true→decide ((0:Int)≤((i:Nat):Int))=true∧decide ((((i:Nat):Int):Int)<((n:Nat):Int))=true∧E2 (G (ks)) ((i)*4) [.int .i64,.int .i64,.sl,.int .i64]=true∧Q .normal [.int .i64 (0),.int .i64 (IntKind.wrap .i64 (t+Y8 [.int .i64 (((B7 (G (ks)) ((i)*4+2):Nat):Int)),.int .i64 (A0 (G (ks)) ((i)*4+3))])),.slice true (.ro (ks)) (0) (n),.int .i64 (((n:Nat):Int)),.int .i64 (IntKind.wrap .i64 (((i:Nat):Int)+1))] [some ⟨1,([.int .i64 (s),.slice true (.ro (ks)) (0) (n),.slice true (.ro (kp)) (0) (m)]:List AV)⟩,some ⟨1,([.int .i64 (A0 (G (ks)) ((i)*4)),.int .i64 (A0 (G (ks)) ((i)*4+1)),.slice true (.ro (A5 (G (ks)) ((i)*4+2))) (A7 (G (ks)) ((i)*4+2)) (B7 (G (ks)) ((i)*4+2)),.int .i64 (A0 (G (ks)) ((i)*4+3))]:List AV)⟩])∧(decide ((((i:Nat):Int):Int)<((n:Nat):Int))=false→Q (.exit 0) [.int .i64 (0),.int .i64 (t),.slice true (.ro (ks)) (0) (n),.int .i64 (((n:Nat):Int)),.int .i64 (((i:Nat):Int))] [some ⟨1,([.int .i64 (s),.slice true (.ro (ks)) (0) (n),.slice true (.ro (kp)) (0) (m)]:List AV)⟩])):=by kernel_rfl
theorem rb_c (G:Nat→List AV) (rl:List AV→Bool) (q:Bool) (ks kp n m:Nat) (s x v w:Int) (Q:Ex→List AV→Hp→Prop) (R:AV→Hp→Prop):vT G Q R (H5 (Dc Try.prog [] [] [B5 1901 (rl) 0 62 [1,2,4,5,6,7] (.tst (.var 9 q) (.one .ret [.undef,.undef,.int .u8 (.var 10 v),.int .i64 (.var 11 w),.bool (.lit true),.undef] [some ⟨1,.of [.int .i64 (.var 1 s),.slice true (.ro (.var 24 ks)) (.lit 0) (.var 3 n),.slice true (.ro (.var 25 kp)) (.lit 0) (.var 4 m)]⟩]) (.one (.exit 0) [.undef,.undef,.undef,.undef,.undef,.undef] [some ⟨1,.of [.int .i64 (.var 1 s),.slice true (.ro (.var 24 ks)) (.lit 0) (.var 3 n),.slice true (.ro (.var 25 kp)) (.lit 0) (.var 4 m)]⟩]))] 0) 300 20 Try.f23 [.agg (.of [.int .i64 (.var 1 s),.slice true (.ro (.var 24 ks)) (.lit 0) (.var 3 n),.slice true (.ro (.var 25 kp)) (.lit 0) (.var 4 m)]),.int .u32 (.var 6 x)] [] 0)=(
  (rl) [.agg ([.int .u32 (x),.ptr (.rw 0) (0),.int .u8 (0),.int .i64 (0),.bool (false),.int .i64 (0)]:List AV),.agg ([.tup [.int .i64 (1),.agg ([.int .i64 (s),.slice true (.ro (ks)) (0) (n),.slice true (.ro (kp)) (0) (m)]:List AV)]]:List AV)]=true∧(q=true→R (.tup [.int .u8 (v),.int .i64 (w),.bool (true)]) [])∧(q=false→R (.tup [.int .u8 (0),.int .i64 (0),.bool (false)]) [])):=by kernel_rfl
theorem rs_b (G:Nat→List AV) (ks kp n m i:Nat) (s t:Int) (Q:Ex→List AV→Hp→Prop) (R:AV→Hp→Prop):vT G Q R (I0 (Dc Try.prog [] progIb [] 0) 300 20 0 (loopN Try.f26 0) 21 [1,3,4] [.ptr (.rw 0) (.lit 0),.int .i64 (.var 6 t),.int .i64 (.ofN (.var 8 i))] [some ⟨1,.of [.int .i64 (.var 1 s),.slice true (.ro (.var 24 ks)) (.lit 0) (.var 3 n),.slice true (.ro (.var 25 kp)) (.lit 0) (.var 4 m)]⟩])=(
  (decide ((((i:Nat):Int):Int)<((n:Nat):Int))=true→decide ((0:Int)≤((i:Nat):Int))=true∧decide ((((i:Nat):Int):Int)<((n:Nat):Int))=true∧E2 (G (ks)) ((i)*4) [.int .i64,.int .i64,.sl,.int .i64]=true∧Q .normal [.ptr (.rw 0) (0),.int .i64 (IntKind.wrap .i64 (t+S6 [.int .i64 (((B7 (G (ks)) ((i)*4+2):Nat):Int)),.int .i64 (A0 (G (ks)) ((i)*4+3))])),.int .i64 (IntKind.wrap .i64 (((i:Nat):Int)+1))] [some ⟨1,([.int .i64 (s),.slice true (.ro (ks)) (0) (n),.slice true (.ro (kp)) (0) (m)]:List AV)⟩])∧(decide ((((i:Nat):Int):Int)<((n:Nat):Int))=false→Q (.exit 0) [.ptr (.rw 0) (0),.int .i64 (t),.int .i64 (((i:Nat):Int))] [some ⟨1,([.int .i64 (s),.slice true (.ro (ks)) (0) (n),.slice true (.ro (kp)) (0) (m)]:List AV)⟩])):=by kernel_rfl
end Go.Am
namespace Go.Am
open Go.Proofs
set_option maxRecDepth 100000
def K8 (cs:List AV) (x:Int) (k:Nat):Bool:=decide (sA cs k≤x)&&decide (x<sE cs k)
def aN (cs:List AV) (n:Nat) (x:Int):Nat:=J4 (K8 cs x) n
def bv (G:Nat→List AV) (cs:List AV) (k:Nat) (x:Int):Nat:=bN (dB G cs k) (x - sA cs k).toNat
theorem Rh {b:List Nat} {o:Nat} (h:b.length≤o):bN b o=0:=by
 unfold bN;rw [List.getD_eq_getElem?_getD,List.getElem?_eq_none h];rfl
theorem Rc {G:Nat→List AV} {ks kp n m j:Nat} (hb:V7 G ks kp n m) (hw:M4 G ks kp n m) (hj:j<n):G (A5 (G ks) (j*4+2))=B9 (dB G (G ks) j)∧(dB G (G ks) j).length=sN (G ks) j∧byO (dB G (G ks) j)∧A7 (G ks) (j*4+2)=0:=by
 obtain ⟨b,h1,h2⟩:=hb.dat j hj;have h3:=nL hb j hj;have h4:=dJ h2;unfold dB0 at h3;rw [if_pos hj] at h3;refine ⟨by rw [hw.dat j hj,h2,h4],h3,by rw [h4];exact h1,hw.off j hj⟩
theorem Xq {x:Int} (h:0≤x∧x≤4294967295):IntKind.wrap .i64 x=x:=B3 (by omega)
theorem qD {cs:List AV} {n:Nat} {x:Int} (h:aN cs n x<n):sA cs (aN cs n x)≤x∧x<sE cs (aN cs n x):=by
 have:=(F5 (p:=K8 cs x) (k:=n)).2.1 h
 unfold K8 at this;simp only [Bool.and_eq_true,decide_eq_true_eq] at this;exact this
theorem mN (G:Nat→List AV) (B:Nat) (ks kp n m:Nat) (s x:Int) (hb:V7 G ks kp n m) (hw:M4 G ks kp n m) (hs:∀ j,j<n→I8 (G ks) j=true) (hn:n≤1000000) (hx:0≤x∧x≤4294967295):C2 (⟨Try.prog,G,B⟩:A1) 0 (.loop (loopN Try.f23 0)) (fl 62 [1,2,4,5,6,7] [.int .u32 x,.ptr (.rw 0) 0,.int .u8 0,.int .i64 0,.bool false,.int .i64 (0:Int)]) [some ⟨1,[.int .i64 s,.slice true (.ro ks) 0 n,.slice true (.ro kp) 0 m]⟩] (lv 62 [1,2,4,5,6,7] (LOut.post G 0 (.tst (.var 9 (decide ((aN (G ks) n x)<n))) (.one .ret [.undef,.undef,.int .u8 (.var 10 (bv G (G ks) (aN (G ks) n x) x:Int)),.int .i64 (.var 11 (sR (G ks) (aN (G ks) n x))),.bool (.lit true),.undef] [some ⟨1,.of [.int .i64 (.var 1 s),.slice true (.ro (.var 24 ks)) (.lit 0) (.var 3 n),.slice true (.ro (.var 25 kp)) (.lit 0) (.var 4 m)]⟩]) (.one (.exit 0) [.undef,.undef,.undef,.undef,.undef,.undef] [some ⟨1,.of [.int .i64 (.var 1 s),.slice true (.ro (.var 24 ks)) (.lit 0) (.var 3 n),.slice true (.ro (.var 25 kp)) (.lit 0) (.var 4 m)]⟩])))):=by
 have hle:(aN (G ks) n x)≤n:=F5.1;refine R3 (aN (G ks) n x) (fun i=>[.int .u32 x,.ptr (.rw 0) 0,.int .u8 0,.int .i64 0,.bool false,.int .i64 (i:Int)]) (fun _=>[some ⟨1,[.int .i64 s,.slice true (.ro ks) 0 n,.slice true (.ro kp) 0 m]⟩]) fun i hi=>?_
 refine C4 (C:=(⟨Try.prog,G,B⟩:A1)) (K:=Dc Try.prog [] progIb [] 0) (by rw [show A3 (loopN Try.f23 0)=[] by kernel_rfl];exact C8 (D0 G B) (by kernel_rfl) (I1 G B) .nil) (fuel:=300) (n0:=20) (m:=0) (c:=loopN Try.f23 0) (vs:=[.int .u32 (.var 6 x),.ptr (.rw 0) (.lit 0),.int .u8 (.lit 0),.int .i64 (.lit 0),.bool (.lit false),.int .i64 (.ofN (.var 8 i))]) (H:=[some ⟨1,.of [.int .i64 (.var 1 s),.slice true (.ro (.var 24 ks)) (.lit 0) (.var 3 n),.slice true (.ro (.var 25 kp)) (.lit 0) (.var 4 m)]⟩]) (Nat.zero_le _) ?_;rw [rb_b];refine ⟨fun h1=>?_,fun h1=>?_⟩
 ·have hin:i<n:=by have:=of_decide_eq_true h1;omega
  have key:K8 (G ks) x i=decide (i=(aN (G ks) n x)):=Aa hi hin;have st:=hs i hin;have sb:=E5.1 st;obtain ⟨d1,d2,d3,d4⟩:=Rc hb hw hin;have eE:sE (G ks) i=sA (G ks) i+(sN (G ks) i:Int)+sZ (G ks) i:=rfl;have e0:A0 (G ks) (i*4)=sA (G ks) i:=rfl;have e1:B7 (G ks) (i*4+2)=sN (G ks) i:=rfl;have e2:A0 (G ks) (i*4+3)=sZ (G ks) i:=rfl;have e3:A0 (G ks) (i*4+1)=sR (G ks) i:=rfl;have e4:S6 [.int .i64 ((sN (G ks) i:Nat):Int),.int .i64 (sZ (G ks) i)]=Cf (sN (G ks) i) (sZ (G ks) i):=by simp only [S6,D4]
  rw [show ((⟨Try.prog,G,B⟩:A1)).G=G from rfl,e0,e1,e2,e3,e4,rszE st,Xq hx,d1,d4,B3 (n:=(i:Int)+1) (by omega),B3 (n:=x - sA (G ks) i) (by omega)]
  have vw:B4 0 [.int .u32 x,.ptr (.rw 0) 0,.int .u8 0,.int .i64 0,.bool false,.int .i64 ((i+1:Nat):Int)] [some ⟨1,[.int .i64 s,.slice true (.ro ks) 0 n,.slice true (.ro kp) 0 m]⟩] [.int .u32 x,.ptr (.rw 0) 0,.int .u8 0,.int .i64 0,.bool false,.int .i64 ((i+1:Nat):Int)] ([some ⟨1,[.int .i64 s,.slice true (.ro ks) 0 n,.slice true (.ro kp) 0 m]⟩]++[some ⟨1,[.int .i64 (sA (G ks) i),.int .i64 (sR (G ks) i),.slice true (.ro (A5 (G ks) (i*4+2))) 0 (sN (G ks) i),.int .i64 (sZ (G ks) i)]⟩]):=B4.same (Nat.zero_le _) rfl ⟨⟨rfl,rfl⟩,⟨rfl,rfl⟩,⟨rfl,rfl⟩,⟨rfl,rfl⟩,⟨rfl,rfl⟩,⟨rfl,rfl⟩,trivial⟩
  have nx:K8 (G ks) x i=false→i<(aN (G ks) n x):=fun h=>by
   rw [h] at key
   have:=of_decide_eq_false key.symm
   omega
  refine ⟨decide_eq_true (by omega),h1,M5 hb.sec hin,fun h2=>?_,fun h2=>⟨fun h3=>?_,fun h3=>⟨fun h4=>?_,fun h4=>?_⟩⟩⟩
  ·have h2:=of_decide_eq_true h2;exact ⟨nx (by unfold K8;rw [decide_eq_false (p:=x<sE (G ks) i) (by omega),Bool.and_false]),.inr vw⟩
  ·have h3:=of_decide_eq_true h3;exact ⟨nx (by unfold K8;rw [decide_eq_false (p:=sA (G ks) i≤x) (by omega),Bool.false_and]),.inr vw⟩
  ·have h4:=of_decide_eq_true h4;exact ⟨nx (by unfold K8;rw [decide_eq_false (p:=x<sE (G ks) i) (by omega),Bool.and_false]),.inr vw⟩
  ·have h3:=of_decide_eq_false h3;have h4:=of_decide_eq_false h4;have ht:K8 (G ks) x i=true:=by unfold K8;rw [decide_eq_true (by omega),decide_eq_true (by omega)];rfl
   rw [ht] at key;have ek:i=(aN (G ks) n x):=of_decide_eq_true key.symm;have en:(aN (G ks) n x)<n:=by omega
   have vr:∀ v:Int,v=(bv G (G ks) (aN (G ks) n x) x:Int)→B4 0 [.undef,.undef,.int .u8 (bv G (G ks) (aN (G ks) n x) x:Int),.int .i64 (sR (G ks) (aN (G ks) n x)),.bool true,.undef] [some ⟨1,[.int .i64 s,.slice true (.ro ks) 0 n,.slice true (.ro kp) 0 m]⟩] [.int .u32 x,.ptr (.rw 0) 0,.int .u8 v,.int .i64 (sR (G ks) i),.bool true,.int .i64 (i:Int)] ([some ⟨1,[.int .i64 s,.slice true (.ro ks) 0 n,.slice true (.ro kp) 0 m]⟩]++[some ⟨1,[.int .i64 (sA (G ks) i),.int .i64 (sR (G ks) i),.slice true (.ro (A5 (G ks) (i*4+2))) 0 (sN (G ks) i),.int .i64 (sZ (G ks) i)]⟩]):=fun v hv=>B4.same (Nat.zero_le _) rfl (by
    rw [hv,ek]
    exact ⟨⟨rfl,rfl⟩,⟨rfl,rfl⟩,⟨rfl,rfl⟩,trivial⟩)
   refine ⟨fun h5=>?_,fun h5=>?_⟩
   ·have h5':=of_decide_eq_true h5;have lt:(x - sA (G ks) i).toNat+0<(dB G (G ks) i).length:=by rw [d2];omega
    rw [Yq lt];refine ⟨decide_eq_true (by omega),h5,bL lt,.inl ⟨decide_eq_true en,rfl,.inr (vr _ ?_)⟩⟩;unfold bv;rw [←ek];rfl
   ·have h5:=of_decide_eq_false h5;refine .inl ⟨decide_eq_true en,rfl,.inr (vr 0 ?_)⟩;unfold bv;rw [←ek,Rh (by rw [d2];omega)];rfl
 ·have h1':=of_decide_eq_false h1;exact .inr ⟨decide_eq_false (by omega),rfl,.inl ⟨by simp [vVs,vV,wk],rfl⟩⟩
end Go.Am
namespace Go.Am
open Go.Proofs
set_option maxRecDepth 100000
theorem fy_as (G:Nat→List AV) (ks kp n m i k o l:Nat) (s x a r y:Int) (rc:List AV) (Q:Ex→List AV→Hp→Prop) (R:AV→Hp→Prop):vT G Q R (I0 (Dc Try.prog [] progIb [] 8) 300 20 8 (Hx (loopN Try.f48 0)) 31 [2,3,4,5,6,7,12,13,14,9] [.ptr (.rw 0) (.lit 0),.ptr (.rw 1) (.lit 0),.ptr (.rw 2) (.lit 0),.bool (.lit false),.ptr (.rw 3) (.lit 0),.ptr (.rw 4) (.lit 0),.func 96 [.ptr (.rw 5) (.lit 0)],.int .i64 (.ofN (.var 8 i)),.agg (.of [.int .i64 (.var 11 a),.int .i64 (.var 12 r),.slice true (.ro (.var 13 k)) (.var 14 o) (.var 15 l),.int .i64 (.var 16 y)]),.undef] [some ⟨1,.of [.int .i64 (.var 1 s),.slice true (.ro (.var 24 ks)) (.lit 0) (.var 3 n),.slice true (.ro (.var 25 kp)) (.lit 0) (.var 4 m)]⟩,some ⟨1,.of [.int .i64 (.var 6 x)]⟩,some ⟨1,.of [.int .i64 (.lit 0),.int .i64 (.lit 0),.nils,.int .i64 (.lit 0)]⟩,some ⟨1,.of [.int .i64 (.lit 0),.int .i64 (.lit 0),.nils,.int .i64 (.lit 0)]⟩,some ⟨1,.of [.bool (.lit false)]⟩,some ⟨1,.of [.slice true (.ro (.var 24 ks)) (.lit 0) (.var 3 n)]⟩,some ⟨4294967291,.var 22 rc⟩,some ⟨1,.of [.int .i64 (.var 11 a),.int .i64 (.var 12 r),.slice true (.ro (.var 13 k)) (.var 14 o) (.var 15 l),.int .i64 (.var 16 y)]⟩])=(
  Q .normal [.ptr (.rw 0) (0),.ptr (.rw 1) (0),.ptr (.rw 2) (0),.bool (false),.ptr (.rw 3) (0),.ptr (.rw 4) (0),.func 96 [.ptr (.rw 5) (0)],.int .i64 (((i:Nat):Int)),.agg ([.int .i64 (a),.int .i64 (r),.slice true (.ro (k)) (o) (l),.int .i64 (y)]:List AV),.ptr (.rw 8) (0)] [some ⟨1,([.int .i64 (s),.slice true (.ro (ks)) (0) (n),.slice true (.ro (kp)) (0) (m)]:List AV)⟩,some ⟨1,([.int .i64 (x)]:List AV)⟩,some ⟨1,([.int .i64 (0),.int .i64 (0),.nils,.int .i64 (0)]:List AV)⟩,some ⟨1,([.int .i64 (0),.int .i64 (0),.nils,.int .i64 (0)]:List AV)⟩,some ⟨1,([.bool (false)]:List AV)⟩,some ⟨1,([.slice true (.ro (ks)) (0) (n)]:List AV)⟩,some ⟨4294967291,rc⟩,some ⟨1,([.int .i64 (a),.int .i64 (r),.slice true (.ro (k)) (o) (l),.int .i64 (y)]:List AV)⟩,some ⟨1,([.int .i64 (a),.int .i64 (r),.slice true (.ro (k)) (o) (l),.int .i64 (y)]:List AV)⟩]):=by kernel_rfl
theorem fy_bd (G:Nat→List AV) (ks kp n m i k o l:Nat) (s x a r y:Int) (rc:List AV) (Q:Ex→List AV→Hp→Prop) (R:AV→Hp→Prop):vT G Q R (I0 (Dc Try.prog [] progIb [] 8) 300 20 8 (Bv (loopN Try.f48 0)) 31 [2,3,4,5,6,7,12,13,14,9] [.ptr (.rw 0) (.lit 0),.ptr (.rw 1) (.lit 0),.ptr (.rw 2) (.lit 0),.bool (.lit false),.ptr (.rw 3) (.lit 0),.ptr (.rw 4) (.lit 0),.func 96 [.ptr (.rw 5) (.lit 0)],.int .i64 (.ofN (.var 8 i)),.agg (.of [.int .i64 (.var 11 a),.int .i64 (.var 12 r),.slice true (.ro (.var 13 k)) (.var 14 o) (.var 15 l),.int .i64 (.var 16 y)]),.ptr (.rw 8) (.lit 0)] [some ⟨1,.of [.int .i64 (.var 1 s),.slice true (.ro (.var 24 ks)) (.lit 0) (.var 3 n),.slice true (.ro (.var 25 kp)) (.lit 0) (.var 4 m)]⟩,some ⟨1,.of [.int .i64 (.var 6 x)]⟩,some ⟨1,.of [.int .i64 (.lit 0),.int .i64 (.lit 0),.nils,.int .i64 (.lit 0)]⟩,some ⟨1,.of [.int .i64 (.lit 0),.int .i64 (.lit 0),.nils,.int .i64 (.lit 0)]⟩,some ⟨1,.of [.bool (.lit false)]⟩,some ⟨1,.of [.slice true (.ro (.var 24 ks)) (.lit 0) (.var 3 n)]⟩,some ⟨4294967291,.var 22 rc⟩,some ⟨1,.of [.int .i64 (.var 11 a),.int .i64 (.var 12 r),.slice true (.ro (.var 13 k)) (.var 14 o) (.var 15 l),.int .i64 (.var 16 y)]⟩,some ⟨1,.of [.int .i64 (.var 11 a),.int .i64 (.var 12 r),.slice true (.ro (.var 13 k)) (.var 14 o) (.var 15 l),.int .i64 (.var 16 y)]⟩])=(
  (decide ((x:Int)≥a)=true→(decide ((IntKind.wrap .i64 (x - a):Int)<Y8 [.int .i64 (((l:Nat):Int)),.int .i64 (y)])=true→Q (.exit 0) [.ptr (.rw 0) (0),.ptr (.rw 1) (0),.ptr (.rw 2) (0),.bool (false),.ptr (.rw 3) (0),.ptr (.rw 4) (0),.func 96 [.ptr (.rw 5) (0)],.int .i64 (((i:Nat):Int)),.agg ([.int .i64 (a),.int .i64 (r),.slice true (.ro (k)) (o) (l),.int .i64 (y)]:List AV),.ptr (.rw 8) (0)] [some ⟨1,([.int .i64 (s),.slice true (.ro (ks)) (0) (n),.slice true (.ro (kp)) (0) (m)]:List AV)⟩,some ⟨1,([.int .i64 (x)]:List AV)⟩,some ⟨1,([.int .i64 (0),.int .i64 (0),.nils,.int .i64 (0)]:List AV)⟩,some ⟨1,([.int .i64 (a),.int .i64 (r),.slice true (.ro (k)) (o) (l),.int .i64 (y)]:List AV)⟩,some ⟨1,([.bool (true)]:List AV)⟩,some ⟨1,([.slice true (.ro (ks)) (0) (n)]:List AV)⟩,some ⟨4294967291,rc⟩,some ⟨1,([.int .i64 (a),.int .i64 (r),.slice true (.ro (k)) (o) (l),.int .i64 (y)]:List AV)⟩,some ⟨1,([.int .i64 (a),.int .i64 (r),.slice true (.ro (k)) (o) (l),.int .i64 (y)]:List AV)⟩])∧(decide ((IntKind.wrap .i64 (x - a):Int)<Y8 [.int .i64 (((l:Nat):Int)),.int .i64 (y)])=false→
 Q .normal [.ptr (.rw 0) (0),.ptr (.rw 1) (0),.ptr (.rw 2) (0),.bool (false),.ptr (.rw 3) (0),.ptr (.rw 4) (0),.func 96 [.ptr (.rw 5) (0)],.int .i64 (((i:Nat):Int)),.agg ([.int .i64 (a),.int .i64 (r),.slice true (.ro (k)) (o) (l),.int .i64 (y)]:List AV),.ptr (.rw 8) (0)] [some ⟨1,([.int .i64 (s),.slice true (.ro (ks)) (0) (n),.slice true (.ro (kp)) (0) (m)]:List AV)⟩,some ⟨1,([.int .i64 (x)]:List AV)⟩,some ⟨1,([.int .i64 (0),.int .i64 (0),.nils,.int .i64 (0)]:List AV)⟩,some ⟨1,([.int .i64 (0),.int .i64 (0),.nils,.int .i64 (0)]:List AV)⟩,some ⟨1,([.bool (false)]:List AV)⟩,some ⟨1,([.slice true (.ro (ks)) (0) (n)]:List AV)⟩,some ⟨4294967291,rc⟩,some ⟨1,([.int .i64 (a),.int .i64 (r),.slice true (.ro (k)) (o) (l),.int .i64 (y)]:List AV)⟩,some ⟨1,([.int .i64 (a),.int .i64 (r),.slice true (.ro (k)) (o) (l),.int .i64 (y)]:List AV)⟩]))∧(decide ((x:Int)≥a)=false→Q .normal [.ptr (.rw 0) (0),.ptr (.rw 1) (0),.ptr (.rw 2) (0),.bool (false),.ptr (.rw 3) (0),.ptr (.rw 4) (0),.func 96 [.ptr (.rw 5) (0)],.int .i64 (((i:Nat):Int)),.agg ([.int .i64 (a),.int .i64 (r),.slice true (.ro (k)) (o) (l),.int .i64 (y)]:List AV),.ptr (.rw 8) (0)] [some ⟨1,([.int .i64 (s),.slice true (.ro (ks)) (0) (n),.slice true (.ro (kp)) (0) (m)]:List AV)⟩,some ⟨1,([.int .i64 (x)]:List AV)⟩,some ⟨1,([.int .i64 (0),.int .i64 (0),.nils,.int .i64 (0)]:List AV)⟩,some ⟨1,([.int .i64 (0),.int .i64 (0),.nils,.int .i64 (0)]:List AV)⟩,some ⟨1,([.bool (false)]:List AV)⟩,some ⟨1,([.slice true (.ro (ks)) (0) (n)]:List AV)⟩,some ⟨4294967291,rc⟩,some ⟨1,([.int .i64 (a),.int .i64 (r),.slice true (.ro (k)) (o) (l),.int .i64 (y)]:List AV)⟩,some ⟨1,([.int .i64 (a),.int .i64 (r),.slice true (.ro (k)) (o) (l),.int .i64 (y)]:List AV)⟩])):=by kernel_rfl
theorem fi_b (G:Nat→List AV) (ry:List AV→Bool) (ks kp n m i k o l:Nat) (s x a r y:Int) (rc:List AV) (rd:List AV) (bb:Bool) (Q:Ex→List AV→Hp→Prop) (R:AV→Hp→Prop):vT G Q R (I0 (Dr Try.prog [] [] [] [] (Hm 1910 6 ry (.tst (.var 19 bb) (.one (.bool (.lit false)) [.set 3 ⟨1,.of [.int .i64 (.var 11 a),.int .i64 (.var 12 r),.slice true (.ro (.var 13 k)) (.var 14 o) (.var 15 l),.int .i64 (.var 16 y)]⟩,.set 4 ⟨1,.of [.bool (.lit true)]⟩,.set 6 ⟨4294967291,.var 23 rd⟩]) (.one (.bool (.lit true)) []))) 7) 300 20 7 (loopN Try.f96 0) 18 [0,5,6,7] [.yld 6,.slice true (.ro (.var 24 ks)) (.lit 0) (.var 3 n),.int .i64 (.ofN (.var 3 n)),.int .i64 (.ofN (.var 8 i))] [some ⟨1,.of [.int .i64 (.var 1 s),.slice true (.ro (.var 24 ks)) (.lit 0) (.var 3 n),.slice true (.ro (.var 25 kp)) (.lit 0) (.var 4 m)]⟩,some ⟨1,.of [.int .i64 (.var 6 x)]⟩,some ⟨1,.of [.int .i64 (.lit 0),.int .i64 (.lit 0),.nils,.int .i64 (.lit 0)]⟩,some ⟨1,.of [.int .i64 (.lit 0),.int .i64 (.lit 0),.nils,.int .i64 (.lit 0)]⟩,some ⟨1,.of [.bool (.lit false)]⟩,some ⟨1,.of [.slice true (.ro (.var 24 ks)) (.lit 0) (.var 3 n)]⟩,some ⟨4294967291,.var 22 rc⟩])=(
  (decide ((((i:Nat):Int):Int)<((n:Nat):Int))=true→decide ((0:Int)≤((i:Nat):Int))=true∧decide ((((i:Nat):Int):Int)<((n:Nat):Int))=true∧E2 (G (ks)) ((i)*4) [.int .i64,.int .i64,.sl,.int .i64]=true∧ry [.agg ([.int .i64 (((i:Nat):Int)),.agg ([.int .i64 (A0 (G (ks)) ((i)*4)),.int .i64 (A0 (G (ks)) ((i)*4+1)),.slice true (.ro (A5 (G (ks)) ((i)*4+2))) (A7 (G (ks)) ((i)*4+2)) (B7 (G (ks)) ((i)*4+2)),.int .i64 (A0 (G (ks)) ((i)*4+3))]:List AV)]:List AV),.agg ([.tup [.int .i64 (1),.agg ([.int .i64 (s),.slice true (.ro (ks)) (0) (n),.slice true (.ro (kp)) (0) (m)]:List AV)],.tup [.int .i64 (1),.agg ([.int .i64 (x)]:List AV)],.tup [.int .i64 (1),.agg ([.int .i64 (0),.int .i64 (0),.nils,.int .i64 (0)]:List AV)],.tup [.int .i64 (1),.agg ([.int .i64 (0),.int .i64 (0),.nils,.int .i64 (0)]:List AV)],.tup [.int .i64 (1),.agg ([.bool (false)]:List AV)],.tup [.int .i64 (1),.agg ([.slice true (.ro (ks)) (0) (n)]:List AV)],.tup [.int .i64 (4294967291),.agg rc],.tup [.int .i64 (1),.agg ([.int .i64 (A0 (G (ks)) ((i)*4)),.int .i64 (A0 (G (ks)) ((i)*4+1)),.slice true (.ro (A5 (G (ks)) ((i)*4+2))) (A7 (G (ks)) ((i)*4+2)) (B7 (G (ks)) ((i)*4+2)),.int .i64 (A0 (G (ks)) ((i)*4+3))]:List AV)]]:List AV)]=true∧(bb=true→
 Q .ret [.yld 6,.slice true (.ro (ks)) (0) (n),.int .i64 (((n:Nat):Int)),.int .i64 (((i:Nat):Int))] [some ⟨1,([.int .i64 (s),.slice true (.ro (ks)) (0) (n),.slice true (.ro (kp)) (0) (m)]:List AV)⟩,some ⟨1,([.int .i64 (x)]:List AV)⟩,some ⟨1,([.int .i64 (0),.int .i64 (0),.nils,.int .i64 (0)]:List AV)⟩,some ⟨1,([.int .i64 (a),.int .i64 (r),.slice true (.ro (k)) (o) (l),.int .i64 (y)]:List AV)⟩,some ⟨1,([.bool (true)]:List AV)⟩,some ⟨1,([.slice true (.ro (ks)) (0) (n)]:List AV)⟩,some ⟨4294967291,rd⟩,some ⟨1,([.int .i64 (A0 (G (ks)) ((i)*4)),.int .i64 (A0 (G (ks)) ((i)*4+1)),.slice true (.ro (A5 (G (ks)) ((i)*4+2))) (A7 (G (ks)) ((i)*4+2)) (B7 (G (ks)) ((i)*4+2)),.int .i64 (A0 (G (ks)) ((i)*4+3))]:List AV)⟩])∧(bb=false→Q .normal [.yld 6,.slice true (.ro (ks)) (0) (n),.int .i64 (((n:Nat):Int)),.int .i64 (IntKind.wrap .i64 (((i:Nat):Int)+1))] [some ⟨1,([.int .i64 (s),.slice true (.ro (ks)) (0) (n),.slice true (.ro (kp)) (0) (m)]:List AV)⟩,some ⟨1,([.int .i64 (x)]:List AV)⟩,some ⟨1,([.int .i64 (0),.int .i64 (0),.nils,.int .i64 (0)]:List AV)⟩,some ⟨1,([.int .i64 (0),.int .i64 (0),.nils,.int .i64 (0)]:List AV)⟩,some ⟨1,([.bool (false)]:List AV)⟩,some ⟨1,([.slice true (.ro (ks)) (0) (n)]:List AV)⟩,some ⟨4294967291,rc⟩,some ⟨1,([.int .i64 (A0 (G (ks)) ((i)*4)),.int .i64 (A0 (G (ks)) ((i)*4+1)),.slice true (.ro (A5 (G (ks)) ((i)*4+2))) (A7 (G (ks)) ((i)*4+2)) (B7 (G (ks)) ((i)*4+2)),.int .i64 (A0 (G (ks)) ((i)*4+3))]:List AV)⟩]))∧(decide ((((i:Nat):Int):Int)<((n:Nat):Int))=false→
 Q (.exit 0) [.yld 6,.slice true (.ro (ks)) (0) (n),.int .i64 (((n:Nat):Int)),.int .i64 (((i:Nat):Int))] [some ⟨1,([.int .i64 (s),.slice true (.ro (ks)) (0) (n),.slice true (.ro (kp)) (0) (m)]:List AV)⟩,some ⟨1,([.int .i64 (x)]:List AV)⟩,some ⟨1,([.int .i64 (0),.int .i64 (0),.nils,.int .i64 (0)]:List AV)⟩,some ⟨1,([.int .i64 (0),.int .i64 (0),.nils,.int .i64 (0)]:List AV)⟩,some ⟨1,([.bool (false)]:List AV)⟩,some ⟨1,([.slice true (.ro (ks)) (0) (n)]:List AV)⟩,some ⟨4294967291,rc⟩])):=by kernel_rfl
theorem fi_c (G:Nat→List AV) (rl:List AV→Bool) (ks kp n m i k o l:Nat) (s x a r y:Int) (rc:List AV) (rd:List AV) (bb:Bool) (Q:Ex→List AV→Hp→Prop) (R:AV→Hp→Prop):vT G Q R (H5 (Dr Try.prog [] [] [B5 1911 (rl) 0 18 [0,5,6,7] (.tst (.var 19 bb) (.one .ret [.undef,.undef,.undef,.undef] [some ⟨1,.of [.int .i64 (.var 1 s),.slice true (.ro (.var 24 ks)) (.lit 0) (.var 3 n),.slice true (.ro (.var 25 kp)) (.lit 0) (.var 4 m)]⟩,some ⟨1,.of [.int .i64 (.var 6 x)]⟩,some ⟨1,.of [.int .i64 (.lit 0),.int .i64 (.lit 0),.nils,.int .i64 (.lit 0)]⟩,some ⟨1,.of [.int .i64 (.var 11 a),.int .i64 (.var 12 r),.slice true (.ro (.var 13 k)) (.var 14 o) (.var 15 l),.int .i64 (.var 16 y)]⟩,some ⟨1,.of [.bool (.lit true)]⟩,some ⟨1,.of [.slice true (.ro (.var 24 ks)) (.lit 0) (.var 3 n)]⟩,some ⟨4294967291,.var 23 rd⟩]) (.one (.exit 0) [.undef,.undef,.undef,.undef] [some ⟨1,.of [.int .i64 (.var 1 s),.slice true (.ro (.var 24 ks)) (.lit 0) (.var 3 n),.slice true (.ro (.var 25 kp)) (.lit 0) (.var 4 m)]⟩,some ⟨1,.of [.int .i64 (.var 6 x)]⟩,some ⟨1,.of [.int .i64 (.lit 0),.int .i64 (.lit 0),.nils,.int .i64 (.lit 0)]⟩,some ⟨1,.of [.int .i64 (.lit 0),.int .i64 (.lit 0),.nils,.int .i64 (.lit 0)]⟩,some ⟨1,.of [.bool (.lit false)]⟩,some ⟨1,.of [.slice true (.ro (.var 24 ks)) (.lit 0) (.var 3 n)]⟩,some ⟨4294967291,.var 22 rc⟩]))] [] noY 7) 300 20 Try.f96 [.yld 6,.ptr (.rw 5) (.lit 0)] [some ⟨1,.of [.int .i64 (.var 1 s),.slice true (.ro (.var 24 ks)) (.lit 0) (.var 3 n),.slice true (.ro (.var 25 kp)) (.lit 0) (.var 4 m)]⟩,some ⟨1,.of [.int .i64 (.var 6 x)]⟩,some ⟨1,.of [.int .i64 (.lit 0),.int .i64 (.lit 0),.nils,.int .i64 (.lit 0)]⟩,some ⟨1,.of [.int .i64 (.lit 0),.int .i64 (.lit 0),.nils,.int .i64 (.lit 0)]⟩,some ⟨1,.of [.bool (.lit false)]⟩,some ⟨1,.of [.slice true (.ro (.var 24 ks)) (.lit 0) (.var 3 n)]⟩,some ⟨4294967291,.var 22 rc⟩] 7)=(
  (rl) [.agg ([.yld 6,.slice true (.ro (ks)) (0) (n),.int .i64 (((n:Nat):Int)),.int .i64 (0)]:List AV),.agg ([.tup [.int .i64 (1),.agg ([.int .i64 (s),.slice true (.ro (ks)) (0) (n),.slice true (.ro (kp)) (0) (m)]:List AV)],.tup [.int .i64 (1),.agg ([.int .i64 (x)]:List AV)],.tup [.int .i64 (1),.agg ([.int .i64 (0),.int .i64 (0),.nils,.int .i64 (0)]:List AV)],.tup [.int .i64 (1),.agg ([.int .i64 (0),.int .i64 (0),.nils,.int .i64 (0)]:List AV)],.tup [.int .i64 (1),.agg ([.bool (false)]:List AV)],.tup [.int .i64 (1),.agg ([.slice true (.ro (ks)) (0) (n)]:List AV)],.tup [.int .i64 (4294967291),.agg rc]]:List AV)]=true∧(bb=true→R (.tup []) [some ⟨1,([.int .i64 (s),.slice true (.ro (ks)) (0) (n),.slice true (.ro (kp)) (0) (m)]:List AV)⟩,some ⟨1,([.int .i64 (x)]:List AV)⟩,some ⟨1,([.int .i64 (0),.int .i64 (0),.nils,.int .i64 (0)]:List AV)⟩,some ⟨1,([.int .i64 (a),.int .i64 (r),.slice true (.ro (k)) (o) (l),.int .i64 (y)]:List AV)⟩,some ⟨1,([.bool (true)]:List AV)⟩,some ⟨1,([.slice true (.ro (ks)) (0) (n)]:List AV)⟩,some ⟨4294967291,rd⟩])∧(bb=false→R (.tup []) [some ⟨1,([.int .i64 (s),.slice true (.ro (ks)) (0) (n),.slice true (.ro (kp)) (0) (m)]:List AV)⟩,some ⟨1,([.int .i64 (x)]:List AV)⟩,some ⟨1,([.int .i64 (0),.int .i64 (0),.nils,.int .i64 (0)]:List AV)⟩,some ⟨1,([.int .i64 (0),.int .i64 (0),.nils,.int .i64 (0)]:List AV)⟩,some ⟨1,([.bool (false)]:List AV)⟩,some ⟨1,([.slice true (.ro (ks)) (0) (n)]:List AV)⟩,some ⟨4294967291,rc⟩])):=by kernel_rfl
end Go.Am
