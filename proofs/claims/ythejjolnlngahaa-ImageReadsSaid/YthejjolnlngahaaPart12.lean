/-
  Images: which are the same: the loops' laws, the functions. Images: which are the same: the summaries.
-/
import Derived.Test.YthejjolnlngahaaPart11
import Derived.Test.YthejjolnlngahaaBase5
import Derived.Test.YthejjolnlngahaaBase6
import Derived.Test.YthejjolnlngahaaPart10
import Derived.Test.YthejjolnlngahaaBase3
import Derived.Test.YthejjolnlngahaaProg
import Derived.Test.YthejjolnlngahaaPart8
namespace Go.Am
open Go.Proofs
set_option maxRecDepth 100000
section
variable (G:Nat→List AV) (B:Nat)
def Po (s:Int) (sv:Int) (k:Nat) (k2:Nat) (n:Nat) (nv:Nat) (kp:Nat) (kp2:Nat) (m:Nat) (m2:Nat):Hp:=[some ⟨1,([.int .i64 s,.slice true (.ro k) 0 n,.slice true (.ro kp) 0 m]:List AV)⟩,some ⟨1,([.int .i64 sv,.slice true (.ro k2) 0 nv,.slice true (.ro kp2) 0 m2]:List AV)⟩]
theorem rs_e (s sv:Int) (k k2 n nv kp kp2 m m2 i:Nat) (Q:Ex→List AV→Hp→Prop) (R:AV→Hp→Prop):vT G Q R (H4 (Dc Try.prog [] [] [] 2) 300 20 2 (A5 Try.f15 1) 95 [2,3,4,8] [.ptr (.rw 0) (.lit 0),.ptr (.rw 1) (.lit 0),.undef,.int .i64 (.ofN (.var 8 i))] [some ⟨1,.of [.int .i64 (.var 4 s),.slice true (.ro (.var 1 k)) (.lit 0) (.var 2 n),.slice true (.ro (.var 5 kp)) (.lit 0) (.var 6 m)]⟩,some ⟨1,.of [.int .i64 (.var 10 sv),.slice true (.ro (.var 3 k2)) (.lit 0) (.var 9 nv),.slice true (.ro (.var 7 kp2)) (.lit 0) (.var 31 m2)]⟩])=(
  (decide (((i:Int):Int)<(m:Int))=true→decide ((0:Int)≤(i:Int))=true∧decide (((i:Int):Int)<(m:Int))=true∧G6 (G kp) (i*2) [.int .i64,.bool]=true∧decide ((0:Int)≤(i:Int))=true∧decide (((i:Int):Int)<(m2:Int))=true∧G6 (G kp2) (i*2) [.int .i64,.bool]=true∧(((A2 (G kp) (i*2):Int)==A2 (G kp2) (i*2))=true→(G8 (G kp) (i*2+1)=true→(G8 (G kp2) (i*2+1)=true→Q .normal [.ptr (.rw 0) 0,.ptr (.rw 1) 0,.undef,.int .i64 (IntKind.wrap .i64 ((i:Int)+1))] (Po s sv k k2 n nv kp kp2 m m2))∧(G8 (G kp2) (i*2+1)=false→Q .ret [.ptr (.rw 0) 0,.ptr (.rw 1) 0,.bool false,.int .i64 ((i:Int))] (Po s sv k k2 n nv kp kp2 m m2)))∧(G8 (G kp) (i*2+1)=false→(G8 (G kp2) (i*2+1)=true→Q .ret [.ptr (.rw 0) 0,.ptr (.rw 1) 0,.bool false,.int .i64 ((i:Int))] (Po s sv k k2 n nv kp kp2 m m2))∧(G8 (G kp2) (i*2+1)=false→Q .normal [.ptr (.rw 0) 0,.ptr (.rw 1) 0,.undef,.int .i64 (IntKind.wrap .i64 ((i:Int)+1))] (Po s sv k k2 n nv kp kp2 m m2))))∧(((A2 (G kp) (i*2):Int)==A2 (G kp2) (i*2))=false→Q .ret [.ptr (.rw 0) 0,.ptr (.rw 1) 0,.bool false,.int .i64 ((i:Int))] (Po s sv k k2 n nv kp kp2 m m2)))∧(decide (((i:Int):Int)<(m:Int))=false→Q (.exit 2) [.ptr (.rw 0) 0,.ptr (.rw 1) 0,.undef,.int .i64 ((i:Int))] (Po s sv k k2 n nv kp kp2 m m2))):=by kernel_rfl
theorem zF {ps ps2:List AV} {j:Nat} (h1:(A2 ps (j*2)==A2 ps2 (j*2))=true) (h2:G8 ps (j*2+1)=G8 ps2 (j*2+1)):Ev ps ps2 j=true:=by unfold Ev xP hP;rw [h1,h2];simp
theorem zE {ps ps2:List AV} {j:Nat} (h2:G8 ps (j*2+1)≠G8 ps2 (j*2+1)):Ev ps ps2 j=false:=by unfold Ev xP hP;rw [beq_eq_false_iff_ne.2 h2,Bool.and_false]
theorem plEq_3 {ps ps2:List AV} {j:Nat} (h1:(A2 ps (j*2)==A2 ps2 (j*2))=false):Ev ps ps2 j=false:=by unfold Ev xP hP;rw [h1,Bool.false_and]
theorem oN {G:Nat→List AV} {cs:List AV} {n i:Nat} (h:Js G cs n=true) (hi:i<n):Jb G cs i=true:=E7.1 h i hi
theorem rsL_ok (s sv:Int) (k k2 n nv kp kp2 m m2:Nat):F5 (⟨Try.prog,G,B⟩:A1) 2 (A5 Try.f15 0) (D4 1723 (rsQ G s sv k k2 n nv kp kp2 m m2) 0 95 [2,3,4,5] (rsO G s sv k k2 n nv kp kp2 m m2)):=by
 refine Gf rfl fun hc=>?_;obtain ⟨hnn,hn,⟨hs,hs2⟩,hd,hd2⟩:=iR.1 hc;refine W8 (L9 (fun j=>!Cb G (G k) (G k2) j) n) (fun i=>[.ptr (.rw 0) 0,.ptr (.rw 1) 0,.bool false,.int .i64 (i:Int)]) (fun _=>[some ⟨1,[.int .i64 s,.slice true (.ro k) 0 n,.slice true (.ro kp) 0 m]⟩,some ⟨1,[.int .i64 sv,.slice true (.ro k2) 0 nv,.slice true (.ro kp2) 0 m2]⟩]) fun i hi=>?_;have hle:L9 (fun j=>!Cb G (G k) (G k2) j) n≤n:=K2.1;refine aJ2 G B s sv k k2 n nv kp kp2 m m2 i hnn hn hs hs2 (fun h=>oN hd h) (fun h=>oN hd2 h) (fun hin he=>?_) (fun hin he X=>?_) fun hin=>?_
 ·exact ⟨Jp hi hin he,.inl ⟨rfl,rfl⟩⟩
 ·refine .inr ⟨?_,rfl,.inr (C5.same (H:=[some ⟨1,[.int .i64 s,.slice true (.ro k) 0 n,.slice true (.ro kp) 0 m]⟩,some ⟨1,[.int .i64 sv,.slice true (.ro k2) 0 nv,.slice true (.ro kp2) 0 m2]⟩]) (by simp) (by simp [I1,A6,B0]) (by simp [fv,B0,vVs,vV,vB]))⟩;show Qv G [.agg (G k),.agg (G k2),.int .i64 (n:Int)]=false;rw [Yt,Z9 hin he]
 ·refine .inl ⟨?_,rfl,.inl ⟨by simp [vVs,vV,vR,vN,wk],rfl⟩⟩;show Qv G [.agg (G k),.agg (G k2),.int .i64 (n:Int)]=true;rw [Yt];exact Lk hi (by omega)
theorem rdL_ok (s sv:Int) (k k2 n nv kp kp2 m m2:Nat):F5 (⟨Try.prog,G,B⟩:A1) 2 (A5 Try.f15 1) (D4 1724 (rdQ G s sv k k2 n nv kp kp2 m m2) 2 95 [2,3,4,8] (rdO s sv k k2 n nv kp kp2 m m2)):=by
 refine Gf rfl fun hc=>?_;obtain ⟨rfl,hn,hp,hp2⟩:=iS.1 hc;refine W8 (L9 (fun j=>!Ev (G kp) (G kp2) j) m) (fun i=>[.ptr (.rw 0) 0,.ptr (.rw 1) 0,.undef,.int .i64 (i:Int)]) (fun _=>[some ⟨1,[.int .i64 s,.slice true (.ro k) 0 n,.slice true (.ro kp) 0 m]⟩,some ⟨1,[.int .i64 sv,.slice true (.ro k2) 0 nv,.slice true (.ro kp2) 0 m]⟩]) fun i hi=>?_
 refine D3 (C:=(⟨Try.prog,G,B⟩:A1)) (dgR G B (by kernel_rfl)) (fuel:=300) (n0:=20) (m:=2) (c:=A5 Try.f15 1) (vs:=[.ptr (.rw 0) (.lit 0),.ptr (.rw 1) (.lit 0),.undef,.int .i64 (.ofN (.var 8 i))]) (H:=[some ⟨1,.of [.int .i64 (.var 4 s),.slice true (.ro (.var 1 k)) (.lit 0) (.var 2 n),.slice true (.ro (.var 5 kp)) (.lit 0) (.var 6 m)]⟩,some ⟨1,.of [.int .i64 (.var 10 sv),.slice true (.ro (.var 3 k2)) (.lit 0) (.var 9 nv),.slice true (.ro (.var 7 kp2)) (.lit 0) (.var 31 m)]⟩]) (by simp) ?_;rw [rs_e];have hle:L9 (fun j=>!Ev (G kp) (G kp2) j) m≤m:=K2.1
 have fb:I1 2 [some ⟨1,[.int .i64 s,.slice true (.ro k) 0 n,.slice true (.ro kp) 0 m]⟩,some ⟨1,[.int .i64 sv,.slice true (.ro k2) 0 nv,.slice true (.ro kp2) 0 m]⟩]=true:=by simp [I1,A6,B0]
 refine ⟨fun h1=>?_,fun h1=>?_⟩
 ·have h1':=zR h1;have hin:i<m:=by omega
  rw [B5 (n:=(i:Int)+1) (by omega)];have no:Ev (G kp) (G kp2) i=false→Yw [.agg (G kp),.agg (G kp2),.int .i64 (m:Int)]=false:=fun h=>by rw [dU,Z9 hin h]
  have yes:Ev (G kp) (G kp2) i=true→i<L9 (fun j=>!Ev (G kp) (G kp2) j) m:=fun h=>Jp hi hin h;refine ⟨yI (by omega),h1,(S1 hp hin).1,yI (by omega),h1,(S1 hp2 hin).1,fun h2=>⟨fun h3=>⟨fun h4=>?_,fun h4=>?_⟩,fun h3=>⟨fun h4=>?_,fun h4=>?_⟩⟩,fun h2=>?_⟩
  ·exact ⟨yes (zF h2 (h3.trans h4.symm)),.inl ⟨rfl,rfl⟩⟩
  ·exact .inr ⟨no (zE fun e=>by have:=h3.symm.trans (e.trans h4);simp at this),rfl,.inr (C5.refl (H:=[some ⟨1,[.int .i64 s,.slice true (.ro k) 0 n,.slice true (.ro kp) 0 m]⟩,some ⟨1,[.int .i64 sv,.slice true (.ro k2) 0 nv,.slice true (.ro kp2) 0 m]⟩]) (by simp) fb (by simp [fv,B0,vVs,vV,vB]))⟩
  ·exact .inr ⟨no (zE fun e=>by have:=h3.symm.trans (e.trans h4);simp at this),rfl,.inr (C5.refl (H:=[some ⟨1,[.int .i64 s,.slice true (.ro k) 0 n,.slice true (.ro kp) 0 m]⟩,some ⟨1,[.int .i64 sv,.slice true (.ro k2) 0 nv,.slice true (.ro kp2) 0 m]⟩]) (by simp) fb (by simp [fv,B0,vVs,vV,vB]))⟩
  ·exact ⟨yes (zF h2 (h3.trans h4.symm)),.inl ⟨rfl,rfl⟩⟩
  ·exact .inr ⟨no (plEq_3 h2),rfl,.inr (C5.refl (H:=[some ⟨1,[.int .i64 s,.slice true (.ro k) 0 n,.slice true (.ro kp) 0 m]⟩,some ⟨1,[.int .i64 sv,.slice true (.ro k2) 0 nv,.slice true (.ro kp2) 0 m]⟩]) (by simp) fb (by simp [fv,B0,vVs,vV,vB]))⟩
 ·have h1':=sJ h1;refine .inl ⟨?_,rfl,.inl ⟨by simp [vVs,vV,wk],rfl⟩⟩;show Yw [.agg (G kp),.agg (G kp2),.int .i64 (m:Int)]=true;rw [dU];exact Lk hi (by omega)
def mH (ps:List AV) (m:Nat) (ps2:List AV) (m2:Nat):Bool:=Nat.beq m m2&&J7 (Ev ps ps2) m
def cW (G:Nat→List AV) (cs:List AV) (n:Nat) (cs2:List AV) (n2:Nat):Bool:=Nat.beq n n2&&J7 (Cb G cs cs2) n
def Tu (ps:List AV) (m:Nat):Bool:=Y7 ps m&&Nat.ble m 1000000
def Tj (G:Nat→List AV) (cs:List AV) (n:Nat):Bool:=P2 cs n&&(Js G cs n&&Nat.ble n 1000000)
theorem ieq {n m:Nat}:((n:Int)==(m:Int))=Nat.beq n m:=by
 rw [Bool.eq_iff_iff,beq_iff_eq];exact ⟨fun h=>by rw [Int.ofNat_inj.1 h];exact zA9 _,fun h=>by rw [rG h]⟩
def Qw (G:Nat→List AV) (s:Int) (cs:List AV) (n:Nat) (ps:List AV) (m:Nat) (s2:Int) (cs2:List AV) (n2:Nat) (ps2:List AV) (m2:Nat):Bool:=(s==s2)&&(mH ps m ps2 m2&&cW G cs n cs2 n2)
theorem aL (s sv:Int) (k k2 n nv kp kp2 m m2:Nat) (h1:Tj G (G k) n=true) (h2:Tj G (G k2) nv=true) (h3:Tu (G kp) m=true) (h4:Tu (G kp2) m2=true):ACalls (⟨Try.prog,G,B⟩:A1) 15 [.agg [.int .i64 s,.slice true (.ro k) 0 n,.slice true (.ro kp) 0 m],.agg [.int .i64 sv,.slice true (.ro k2) 0 nv,.slice true (.ro kp2) 0 m2]] [] fun v _=>v=.bool (Qw G s (G k) n (G kp) m sv (G k2) nv (G kp2) m2):=by
 unfold Tj at h1 h2;unfold Tu at h3 h4;rw [zO,zO] at h1 h2;rw [zO] at h3 h4
 have:=C8 (C:=(⟨Try.prog,G,B⟩:A1)) (fuel:=300) (n0:=20) (f:=15) (fn:=Try.f15) (args:=[.agg (.of [.int .i64 (.var 4 s),.slice true (.ro (.var 1 k)) (.lit 0) (.var 2 n),.slice true (.ro (.var 5 kp)) (.lit 0) (.var 6 m)]),.agg (.of [.int .i64 (.var 10 sv),.slice true (.ro (.var 3 k2)) (.lit 0) (.var 9 nv),.slice true (.ro (.var 7 kp2)) (.lit 0) (.var 31 m2)])]) (H:=[]) (keep:=0)
  (R:=fun v _=>v=.bool (Qw G s (G k) n (G kp) m sv (G k2) nv (G kp2) m2)) (C7 (inl:=[]) (ls:=[(D4 1723 (rsQ G s sv k k2 n nv kp kp2 m m2) 0 95 [2,3,4,5] (rsO G s sv k k2 n nv kp kp2 m m2)),(D4 1724 (rdQ G s sv k k2 n nv kp kp2 m m2) 2 95 [2,3,4,8] (rdO s sv k k2 n nv kp kp2 m m2))]) (M:=2) (Bc G B) (by kernel_rfl) .nil (.cast (.cons (i:=0) (by kernel_rfl) rfl (rsL_ok G B s sv k k2 n nv kp kp2 m m2) (.cons (i:=2) (by kernel_rfl) rfl (rdL_ok G B s sv k k2 n nv kp kp2 m m2) .nil)) (by kernel_rfl))) (by kernel_rfl) (by kernel_rfl) (by kernel_rfl) (by
  rw [t15,Yt,dU,ieq,ieq];refine ⟨fun e1=>⟨fun e2=>⟨fun e3=>⟨Cr (iR.2 ⟨rG e2,zA2 h1.2.2,⟨h1.1,by rw [rG e2];exact h2.1⟩,h1.2.1,by rw [rG e2];exact h2.2.1⟩) rfl rfl,fun e4=>⟨Cr (iS.2 ⟨rG e3,zA2 h3.2,h3.1,by rw [rG e3];exact h4.1⟩) rfl rfl,fun e5=>?_,fun e5=>?_⟩,fun e4=>?_⟩,fun e3=>?_⟩,fun e2=>?_⟩,fun e1=>?_⟩
  all_goals unfold Qw mH cW
  ·rw [e1,e2,e3,e4,e5];rfl
  ·rw [e3,e5];simp
  ·rw [e2,e4];simp
  ·rw [e3];simp
  ·rw [e2];simp
  ·rw [e1];simp)
 exact this.monoK fun v H h=>h
end
def iT (z:Nat) (cs:List AV) (o n:Nat):Bool:=(leB (o+n*z) cs.length&&cellsB (A0 cs o (n*z)))&&(Nat.ble n 1000000&&A6 0 (A0 cs o (n*z)))
theorem Dv {z:Nat} {cs:List AV} {o n:Nat}:iT z cs o n=true↔(leB (o+n*z) cs.length=true∧cellsB (A0 cs o (n*z))=true)∧n≤1000000∧A6 0 (A0 cs o (n*z))=true:=by
 simp only [iT,zO];exact ⟨fun ⟨h1,h2,h3⟩=>⟨h1,zA2 h2,h3⟩,fun ⟨h1,h2,h3⟩=>⟨h1,Nat.ble_eq_true_of_le h2,h3⟩⟩
theorem yW {θ:List Nat} {m z:Nat} {f:Nat→Nat→AV}:rens θ (L6 m z f)=L6 m z fun a b=>C2 θ (f a b):=by
 rw [I9];unfold L6;rw [List.map_map];rfl
theorem Ge {N m z:Nat} {f:Nat→Nat→AV} (h:∀ a b,a<m→b<z→B0 N (f a b)=true):A6 N (L6 m z f)=true:=by
 rw [O1,qD];intro v hv;unfold L6 at hv;obtain ⟨j,hj,rfl⟩:=List.mem_map.1 hv;obtain ⟨h1,h2,_⟩:=bY (List.mem_range.1 hj);exact h _ _ h1 h2
def V0 (cs:List AV) (d:Nat→AV) (j:Nat):Nat→AV
 | 0=>.int .i64 (sA cs j)
 | 1=>.int .i64 (sR cs j)
 | 2=>d j
 | _=>.int .i64 (sZ cs j)
def dR (cs:List AV) (j:Nat):AV:=.slice true (.ro (G0 cs (j*4+2))) (H8 cs (j*4+2)) (sN cs j)
def dW (b:Nat) (cs:List AV) (j:Nat):AV:=.slice true (.rw (b+j)) 0 (sN cs j)
def G7 (cs:List AV) (n:Nat) (d:Nat→AV):List AV:=L6 n 4 (V0 cs d)
theorem Wh {cs:List AV} {n:Nat} {d:Nat→AV}:(G7 cs n d).length=n*4:=Ho
theorem aX7 {cs:List AV} {n:Nat} {d:Nat→AV} {j:Nat} (h:j<n):(G7 cs n d)[j*4+2]?=some (d j):=P0 (f:=V0 cs d) h (by omega)
theorem cX {θ:List Nat} {cs:List AV} {n:Nat} {d:Nat→AV}:rens θ (G7 cs n d)=G7 cs n fun j=>C2 θ (d j):=by
 unfold G7;rw [yW];refine U8 fun a b ha hb=>?_
 match b,hb with
 | 0,_=>rfl
 | 1,_=>rfl
 | 2,_=>rfl
 | 3,_=>rfl
theorem Tk {cs:List AV} {n:Nat} {d d':Nat→AV} (h:∀ j,j<n→d j=d' j):G7 cs n d=G7 cs n d':=by
 unfold G7;refine U8 fun a b ha hb=>?_
 match b,hb with
 | 0,_=>rfl
 | 1,_=>rfl
 | 2,_=>exact h a ha
 | 3,_=>rfl
theorem cY {N:Nat} {cs:List AV} {n:Nat} {d:Nat→AV} (h:∀ j,j<n→B0 N (d j)=true):A6 N (G7 cs n d)=true:=by
 unfold G7;refine Ge fun a b ha hb=>?_
 match b,hb with
 | 0,_=>rfl
 | 1,_=>rfl
 | 2,_=>exact h a ha
 | 3,_=>rfl
theorem uI {l:List AV} {o k f n:Nat} {mb:Bool} (h:l[o]?=some (.slice mb (.ro k) f n)):G0 l o=k∧H8 l o=f∧D1 l o=n:=by
 unfold G0 H8 D1;rw [h];exact ⟨rfl,rfl,rfl⟩
def K8 (G:Nat→List AV) (cs:List AV) (i:Nat):List AV:=(List.range 8).map fun j=>.agg (if j<i then F7 G cs j else [])
theorem Jr {G:Nat→List AV} {cs:List AV} {i j:Nat} (h:j<8):B1 (K8 G cs i) j=if j<i then F7 G cs j else []:=by
 unfold B1 K8;rw [zA0,List.getElem?_range h];rfl
def N0 (dl:List AV):Hp:=(List.range 8).map fun j=>some ⟨1,B1 dl j⟩
theorem P3 {dl:List AV}:(N0 dl).length=8:=by simp [N0]
theorem Mc {dl:List AV} {j:Nat} (h:j<8):(N0 dl)[j]?=some (some ⟨1,B1 dl j⟩):=by
 unfold N0;rw [zA0,List.getElem?_range h];rfl
def datC (G:Nat→List AV) (cs:List AV) (n:Nat):Prop:=∀ j,j<n→iT 1 (G (G0 cs (j*4+2))) (H8 cs (j*4+2)) (sN cs j)=true
def cpB (G:Nat→List AV) (ks kp n m:Nat):Bool:=(P2 (G ks) n&&iT 4 (G ks) 0 n)&&(iT 2 (G kp) 0 m&&J7 (fun j=>iT 1 (G (G0 (G ks) (j*4+2))) (H8 (G ks) (j*4+2)) (sN (G ks) j)) n)
theorem Qd {G:Nat→List AV} {ks kp n m:Nat}:cpB G ks kp n m=true↔(P2 (G ks) n=true∧iT 4 (G ks) 0 n=true)∧iT 2 (G kp) 0 m=true∧datC G (G ks) n:=by
 unfold cpB datC;simp only [zO,E7]
def iJ (G:Nat→List AV) (ks kp n m b:Nat):Hp:=[some ⟨4,G7 (G ks) n (dW b (G ks))⟩,some ⟨2,(A0 (G kp) 0 (m*2))⟩]++N0 (K8 G (G ks) n)
theorem bB4 {G:Nat→List AV} {ks kp n m b:Nat}:(iJ G ks kp n m b).length=10:=by simp [iJ,P3]
theorem fn_at {l:List AV} {o b k f n:Nat} (h:l[o]?=some (.slice true (.rw (b+k)) f n)):Y0 b l o=k∧Hj l o=f∧bN l o=n:=by
 unfold Y0 Hj bN;rw [h];refine ⟨?_,rfl,rfl⟩;show b+k - b=k;omega
theorem isF_at {l:List AV} {o b c k f n:Nat} (h:l[o]?=some (.slice true (.rw (b+k)) f n)) (hk:k<c):Zf b c l o=true:=by
 unfold Zf;rw [h];show (Nat.ble b (b+k)&&Nat.blt (b+k) (b+c))=true;rw [zO];exact ⟨Nat.ble_eq_true_of_le (by omega),Nat.ble_eq_true_of_le (by omega)⟩
def Gd (b:List Nat):List AV:=b.map fun (x:Nat)=>.int .u8 (x:Int)
def byO (b:List Nat):Prop:=∀ x∈b,x<256
theorem sW {b:List Nat}:(Gd b).length=b.length:=by simp [Gd]
theorem bD7 {b:List Nat} {o x:Nat}:G3 (Gd b) o (.int .u8 (x:Int))=Gd (b.set o x):=by
 show (Gd b).set o _=_;unfold Gd;rw [List.map_set]
theorem aQ4 {b:List Nat}:∀ v∈Gd b,E8 v=true:=fun v hv=>by
 obtain ⟨x,_,rfl⟩:=List.mem_map.1 hv;rfl
def updD (D:Nat→List Nat) (j:Nat) (b:List Nat):Nat→List Nat:=fun i=>if i=j then b else D i
theorem qB {D:Nat→List Nat} {j:Nat} {b:List Nat}:updD D j b j=b:=if_pos rfl
theorem aE9 {D:Nat→List Nat} {j:Nat} {b c:List Nat}:updD (updD D j b) j c=updD D j c:=by
 funext i;unfold updD;by_cases h:i=j
 ·rw [if_pos h,if_pos h]
 ·rw [if_neg h,if_neg h,if_neg h]
theorem xE {D:Nat→List Nat} {j:Nat}:updD D j (D j)=D:=by
 funext i;unfold updD;by_cases h:i=j
 ·rw [if_pos h,h]
 ·rw [if_neg h]
def J6 (D:Nat→List Nat):List AV:=(List.range 8).map fun j=>.agg (Gd (D j))
theorem yO {D:Nat→List Nat}:(J6 D).length=8:=by simp [J6]
theorem lU {D:Nat→List Nat} {j:Nat} (h:j<8):B1 (J6 D) j=Gd (D j):=by
 unfold B1 J6;rw [zA0,List.getElem?_range h];rfl
theorem yN {D:Nat→List Nat} {j:Nat} {b:List Nat} (h:j<8):Dz (J6 D) j (Gd b)=J6 (updD D j b):=by
 unfold Dz J6;refine List.ext_getElem? fun i=>?_;rw [zA5];by_cases e:j=i
 ·subst e;rw [if_pos rfl,if_pos (by simpa using h),zA0,List.getElem?_range h];simp only [Option.map_some,qB]
 ·rw [if_neg e,zA0,zA0];by_cases f:i<8
  ·rw [List.getElem?_range f];simp only [Option.map_some,updD,if_neg (fun h:i=j=>e h.symm)]
  ·rw [zA3 (by simpa using f)];rfl
theorem uH {D:Nat→List Nat}:Qx (J6 D) [.agg (J6 D),.agg (J6 D),.agg (J6 D),.agg (J6 D),.agg (J6 D),.agg (J6 D),.agg (J6 D),.agg (J6 D)]=true:=by
 refine gR.2 fun v hv=>?_;simp only [List.mem_cons,List.not_mem_nil,or_false,or_self] at hv;exact hv
theorem tF {C:A1} {M:Nat} {c:Code} {j ex N:Nat} {live:List Nat} {o:LOut}:F5 C M c (D4 j (fun _=>false) ex N live o):=by
 intro m vs H o' hm ho n Q hQ;simp only [D4,zN] at ho;subst ho;exact absurd hQ.1 (by simp [vB])
theorem yG {C:A1} {f j:Nat} {o:Outs}:DSumOk C f (Bl j (fun _=>false) o):=by
 intro args H o' ho;simp only [Bl,zN] at ho;subst ho;intro h;exact absurd h (by simp [vB])
def Tv (f:Nat→Int) (ps:List AV) (j:Nat):Nat→AV
 | 0=>.int .i64 (f j)
 | _=>.bool (hP ps j)
def I8 (f:Nat→Int) (ps:List AV) (m:Nat):List AV:=L6 m 2 (Tv f ps)
theorem dT {f:Nat→Int} {ps:List AV} {m:Nat}:(I8 f ps m).length=m*2:=Ho
theorem Cw {N:Nat} {f:Nat→Int} {ps:List AV} {m:Nat}:A6 N (I8 f ps m)=true:=Ge fun a b ha hb=>by
 match b,hb with
 | 0,_=>rfl
 | 1,_=>rfl
theorem plT_at {f:Nat→Int} {ps:List AV} {m i:Nat} (h:i<m):isI .i64 (I8 f ps m) (i*2)=true∧isB (I8 f ps m) (i*2+1)=true∧xP (I8 f ps m) i=f i∧hP (I8 f ps m) i=hP ps i:=by
 have e0:(I8 f ps m)[i*2+0]?=some (.int .i64 (f i)):=P0 (f:=Tv f ps) h (by omega);have e1:(I8 f ps m)[i*2+1]?=some (.bool (hP ps i)):=P0 (f:=Tv f ps) h (by omega);rw [Nat.add_zero] at e0;unfold isI isB xP hP A2 G8;rw [e0,e1];exact ⟨rfl,rfl,rfl,rfl⟩
theorem pl_tab {ps:List AV} {m:Nat} (h:Y7 ps m=true) (hl:m*2≤ps.length):A0 ps 0 (m*2)=I8 (xP ps) ps m:=by
 refine List.ext_getElem? fun j=>?_;by_cases hj:j<m*2
 ·obtain ⟨h1,h2,h3⟩:=bY hj;have e:=S1 h h1;have e2:(I8 (xP ps) ps m)[j / 2*2+j % 2]?=some (Tv (xP ps) ps (j / 2) (j % 2)):=P0 (f:=Tv (xP ps) ps) h1 h2;rw [←h3] at e2;rw [e2];unfold A0;rw [List.drop_zero,zA4,if_pos hj];generalize j / 2=a at *;generalize j % 2=b at *;subst h3;obtain ⟨q1,_⟩:=e;simp only [G6,Ao,zO] at q1
  match b,h2 with
  | 0,_=>rw [Nat.add_zero];exact Ii q1.1
  | 1,_=>
   have hb:isB ps (a*2+1)=true:=q1.2.1;show ps[a*2+1]?=some (.bool (G8 ps (a*2+1)));unfold isB at hb;unfold G8;split at hb
   ·rename_i e;rw [e]
   ·cases hb
 ·have h1:(A0 ps 0 (m*2)).length≤j:=by
   unfold A0;rw [List.length_take];omega
  have h2:(I8 (xP ps) ps m).length≤j:=by rw [dT];omega
  rw [zA3 h1,zA3 h2]
theorem aV4 {v:AV} {a b:List AV} (h:wk a b):wk (v::a) (v::b):=by cases v<;>simp [wk,h]
theorem Zx {m k:Nat}:∀ {a b:List AV},wk a b→wk (fzs m k a) (fzs m k b)
 | [],[],_=>by simp [fzs,wk]
 | [],y::b,h=>by simp [wk] at h
 | x::a,[],h=>by cases x<;>simp [wk] at h
 | x::a,y::b,h=>by
  by_cases hx:x=.undef
  ·subst hx;have h:wk a b:=h;show wk (.undef::fzs m k a) (fz m k y::fzs m k b);exact Zx h
  ·have h2:y=x∧wk a b:=by cases x<;>first | exact absurd rfl hx | exact h
   obtain ⟨rfl,h2⟩:=h2;exact aV4 (Zx h2)
def dK (kd:Nat→Nat) (cs:List AV) (j:Nat):AV:=.slice true (.ro (kd j)) 0 (sN cs j)
def secW (f:Nat→Int) (cs:List AV) (d:Nat→AV) (j:Nat):Nat→AV
 | 0=>.int .i64 (f j)
 | 1=>.int .i64 (sR cs j)
 | 2=>d j
 | _=>.int .i64 (sZ cs j)
def scU (f:Nat→Int) (cs:List AV) (n:Nat) (d:Nat→AV):List AV:=L6 n 4 (secW f cs d)
theorem scU_sA {cs:List AV} {n:Nat} {d:Nat→AV}:G7 cs n d=scU (sA cs) cs n d:=U8 fun a b ha hb=>by
 match b,hb with
 | 0,_=>rfl
 | 1,_=>rfl
 | 2,_=>rfl
 | 3,_=>rfl
theorem scU_ok {f:Nat→Int} {cs:List AV} {n:Nat} {kd:Nat→Nat}:P2 (scU f cs n (dK kd cs)) n=true:=E7.2 fun j hj=>by
 have e:∀ b,b<4→(scU f cs n (dK kd cs))[j*4+b]?=some (secW f cs (dK kd cs) j b):=fun b hb=>P0 (f:=secW f cs (dK kd cs)) hj hb;have e0:=e 0 (by omega);rw [Nat.add_zero] at e0;have e2:Ey (scU f cs n (dK kd cs)) (j*4+1+1)=true:=by unfold Ey;rw [e 2 (by omega)];rfl
 simp only [G6,Ao,isI,e0,e 1 (by omega),e2,zO];have e3:=e 3 (by omega);rw [show j*4+1+1+1=j*4+3 by omega,e3];exact ⟨rfl,rfl,trivial,rfl,trivial⟩
theorem zD {f:Nat→Int} {ps:List AV} {m:Nat} (h:∀ j,j<m→-9223372036854775808≤f j∧f j≤9223372036854775807):Y7 (I8 f ps m) m=true:=E7.2 fun j hj=>by
 obtain ⟨h1,h2,h3,_⟩:=plT_at (f:=f) (ps:=ps) hj;obtain ⟨g1,g2⟩:=h j hj;unfold plOk;rw [h3];simp only [G6,Ao,h1,h2,zO,qC];exact ⟨⟨trivial,trivial,trivial⟩,g1,g2⟩
def bC:List AV→Bool:=fun xs=>match xs with
 | [.int _ s,.agg cs,.int _ n,.agg ps,.int _ m]=>K1 s cs n.toNat ps m.toNat
 | _=>false
theorem aM6 {s:Int} {cs ps:List AV} {n m:Nat}:bC [.int .i64 s,.agg cs,.int .i64 (n:Int),.agg ps,.int .i64 (m:Int)]=K1 s cs n ps m:=by simp only [bC,M5]
def mayrS:DSum:=fun args _=>match args with
 | [.agg (.of [.int .i64 s,.slice true (.ro k) (.lit 0) n,.slice true (.ro k') (.lit 0) m])]=>some (.chk (.uf 1710 U9 [.agg (.ro k),.int .i64 (.ofN n)]) (.chk (.uf 1842 Ol [.agg (.ro k'),.int .i64 (.ofN m)]) (.one (.bool (.uf 1841 bC [.int .i64 s,.agg (.ro k),.int .i64 (.ofN n),.agg (.ro k'),.int .i64 (.ofN m)])) [])))
 | _=>none
theorem aM7 (G:Nat→List AV) (B:Nat):DSumOk (⟨Try.prog,G,B⟩:A1) 21 mayrS:=by
 intro args H o ho;unfold mayrS at ho;split at ho
 ·rename_i s k n k' m;simp only [zN] at ho;subst ho;intro h1 h2;refine E1.ro0 (C:=(⟨Try.prog,G,B⟩:A1)) (ACalls.drop0 (v0:=.bool (K1 (vI G s) (G (vN G k)) (vN G n) (G (vN G k')) (vN G m))) (aM8 G B (vN G k) (vN G n) (vN G k') (vN G m) (vI G s) h1 h2) rfl (by simp)) (by simp [vVs,vV,vL,vR,A6,B0]) (by simp [vV,B0])
 ·simp at ho
theorem Fw {s:Int} {cs ps:List AV} {n m:Nat} (h:K1 s cs n ps m=true):(n≤8∧m≤512)∧J7 (Ac cs) n=true∧J7 (Cz cs n ps) m=true:=by
 unfold K1 at h;simp only [zO,qC] at h;exact ⟨h.1,h.2.2.1,h.2.2.2.1⟩
theorem Ie {s:Int} {cs ps:List AV} {n m:Nat} (h:K1 s cs n ps m=true):∀ j,j<n→0≤sA cs j∧sA cs j≤8192∧sN cs j≤8192∧Qu cs j=true:=fun j hj=>by
 obtain ⟨_,h1,_⟩:=Fw h
 have:=E7.1 h1 j hj
 unfold Ac at this;rw [zO] at this;have t:=this.1;have q:=Q6.1 t;exact ⟨q.2.1.1,q.2.1.2.1,q.1.2.2,t⟩
theorem uX {s:Int} {cs ps:List AV} {n m:Nat} (h:K1 s cs n ps m=true) (hp:Y7 ps m=true):∀ i,i<m→0≤xP ps i∧xP ps i≤8192:=fun i hi=>by
 obtain ⟨_,h1,h2⟩:=Fw h;have h2:=E7.1 h2;have o:=h2 i hi;unfold Cz at o;rw [zO] at o;have pv:=uL h1 hp (Nat.le_of_lt hi) fun j hj=>h2 j (by omega);have e1:=zR o.1;have e2:=zR o.2;obtain ⟨_,_,_,e3⟩:=S1 hp hi
 have:=oL (h:=hP ps i) h1 ⟨by omega,e3⟩ e2
 exact ⟨by omega,this⟩
def dB (G:Nat→List AV) (cs:List AV) (j:Nat):List Nat:=(F7 G cs j).map fun v=>match v with | .int _ x=>x.toNat | _=>0
def cA (G:Nat→List AV) (cs:List AV) (n j:Nat):List Nat:=if j<n then dB G cs j else []
theorem dB_eq {G:Nat→List AV} {cs:List AV} {j:Nat} {b:List Nat} (h:F7 G cs j=Gd b):dB G cs j=b:=by
 unfold dB;rw [h];unfold Gd;rw [List.map_map];refine Eq.trans (List.map_congr_left (g:=id) fun x _=>?_) (List.map_id b);exact M5 x
structure Ad (G:Nat→List AV) (ks kp n m:Nat):Prop where
 sec:P2 (G ks) n=true
 pls:Y7 (G kp) m=true
 cp:cpB G ks kp n m=true
 dat:∀ j,j<n→∃ b,byO b∧F7 G (G ks) j=Gd b
theorem sQ {G:Nat→List AV} {ks kp n m:Nat} (h:Ad G ks kp n m) (j:Nat) (hj:j<n):(cA G (G ks) n j).length=sN (G ks) j:=by
 obtain ⟨_,_,hd⟩:=Qd.1 h.cp;have hc:=(Dv.1 (hd j hj)).1.1;have hc:=A8.1 hc;unfold cA;rw [if_pos hj];unfold dB F7 A0;rw [List.length_map,List.length_take,List.length_drop]
 have:D1 (G ks) (j*4+2)=sN (G ks) j:=rfl
 omega
theorem aP2 {G:Nat→List AV} {ks kp n m:Nat} (h:Ad G ks kp n m):K8 G (G ks) n=J6 (cA G (G ks) n):=by
 unfold K8 J6;refine List.map_congr_left fun j _=>?_;congr 1;unfold cA;split
 ·rename_i hj;obtain ⟨b,_,h2⟩:=h.dat j hj;rw [dB_eq h2];exact h2
 ·rfl
theorem zC {G:Nat→List AV} {ks kp n m:Nat} (h:Ad G ks kp n m):A0 (G kp) 0 (m*2)=I8 (xP (G kp)) (G kp) m:=by
 obtain ⟨_,hc,_⟩:=Qd.1 h.cp
 have:=A8.1 (Dv.1 hc).1.1
 exact pl_tab h.pls (by omega)
theorem Fl {m z:Nat} {f:Nat→Nat→AV} (hz:0<z):L6 (m+1) z f=L6 m z f++(List.range z).map (f m):=by
 unfold L6;rw [Nat.add_mul,Nat.one_mul,List.range_add,List.map_append,List.map_map];congr 1;refine List.map_congr_left fun j hj=>?_;have hj:j<z:=List.mem_range.1 hj;show f ((m*z+j) / z) ((m*z+j) % z)=f m j;rw [Nat.mul_comm m z,Nat.mul_add_div hz,Nat.div_eq_of_lt hj,Nat.add_zero,Nat.mul_add_mod,Nat.mod_eq_of_lt hj]
theorem aH3 {cs:List AV} {i:Nat} {d:Nat→AV}:G7 cs (i+1) d=G7 cs i d++[.int .i64 (sA cs i),.int .i64 (sR cs i),d i,.int .i64 (sZ cs i)]:=Fl (by omega)
structure Z4 (G:Nat→List AV) (ks kp n m:Nat):Prop where
 sec:(G ks)=G7 (G ks) n (dR (G ks))
 off:∀ j,j<n→H8 (G ks) (j*4+2)=0
 dat:∀ j,j<n→G (G0 (G ks) (j*4+2))=F7 G (G ks) j
 pls:(G kp)=(I8 (xP (G kp)) (G kp) m)
theorem sC {q k:Nat} {a b:List AV}:fzs q k (a++b)=fzs q k a++fzs q k b:=by rw [Bo,Bo,Bo,List.map_append]
def trueS:DSum:=fun args _=>match args with
 | []=>some (.one (.bool (.lit true)) [])
 | _=>none
end Go.Am
namespace Go.Proofs.Ythejjolnlngahaa
open Go.Am Go.RowKit
set_option maxRecDepth 100000
theorem zW (G:Nat→List AV) (B:Nat):vc (Kc ⟨Try.prog,G,B⟩) 3000 0 (.code (C3 Try.f11)) (K7 Try.f11 []) [] (L1 ⟨Try.prog,G,B⟩ Try.f11 fun v _=>chk (isT v) True)=True:=by kernel_rfl
theorem known_call (G:Nat→List AV) (B:Nat):ACalls ⟨Try.prog,G,B⟩ 11 [] [] fun v _=>v=.bool true:=
 closed_run (C:=⟨Try.prog,G,B⟩) (by kernel_rfl) (fn:=Try.f11) (by kernel_rfl) (by kernel_rfl) (by kernel_rfl) 3000 (zW G B)
end Go.Proofs.Ythejjolnlngahaa
namespace Go.Am
open Go.Proofs
set_option maxRecDepth 100000
theorem Q5 {l:List AV} {n:Nat} (h:l.length=n):A0 l 0 n=l:=by
 unfold A0;rw [List.drop_zero,List.take_of_length_le (by omega)]
theorem qF {l k:List AV} (h:u8s l=true) (h':u8s k=true):u8s (l++k)=true:=by
 unfold u8s at h h' ⊢;rw [List.all_append,h,h'];rfl
theorem aG6 {l k:List AV}:F8 (l++k)=F8 l++F8 k:=by unfold F8;rw [List.map_append]
theorem gX {L:List AV} {m:Nat}:mH L m L m=true:=by
 unfold mH;rw [zA9,Bool.true_and,E7];intro i _;unfold Ev;rw [beq_self_eq_true,beq_self_eq_true];rfl
theorem xY {G:Nat→List AV} {L:List AV} {m:Nat}:cW G L m L m=true:=by
 unfold cW;rw [zA9,Bool.true_and,E7];intro i _;unfold Cb;simp only [beq_self_eq_true,Bool.and_self]
theorem tV {G:Nat→List AV} {s:Int} {cs ps:List AV} {n m:Nat}:Qw G s cs n ps m s cs n ps m=true:=by
 unfold Qw;rw [beq_self_eq_true,gX,xY];rfl
theorem Yn (G:Nat→List AV) (B:Nat):DSumOk (⟨Try.prog,G,B⟩:A1) 11 trueS:=by
 intro args H o ho;unfold trueS at ho;split at ho
 ·simp only [zN] at ho;subst ho;exact E1.of (pK fun G B=>Go.Proofs.Ythejjolnlngahaa.known_call G B) (by simp only [true_sum,vVs,vV,vB,List.map_nil])
 ·simp at ho
def Fs (j:Nat) (q:List AV→Bool) (o:Outs):DSum:=fun args _=>some (.chk (.uf j q [.agg (.of args),.agg (.of [])]) o)
theorem Lc {C:A1} {f j:Nat} {vs0:List AV} {v0:AV} {x:EV} {q:List AV→Bool} (hq:q=D9 vs0 []) (h:ACalls C f vs0 [] fun v _=>v=v0) (ha:A6 0 vs0=true) (hv:B0 0 v0=true) (hu:v0≠.undef) (e1:vV C.G x=v0):DSumOk C f (Fs j q (.one x [])):=by
 intro args H o' ho;simp only [Fs,zN] at ho;subst ho;intro h1;have h1:q [.agg (vVs C.G args),.agg (O9 [])]=true:=h1;rw [hq] at h1;obtain ⟨e,_⟩:=Ig h1;exact E1.ro0 (by rw [e,e1];exact ACalls.drop0 h hv hu) (by rw [e];exact ha) (by rw [e1];exact hv)
theorem aC6 {b:List Nat}:u8s (Gd b)=true:=by
 unfold u8s;rw [qD];intro v hv;obtain ⟨x,_,rfl⟩:=List.mem_map.1 hv;rfl
theorem dat_im {G:Nat→List AV} {ks kp n m:Nat} (hb:Ad G ks kp n m):Js G (G ks) n=true:=E7.2 fun j hj=>by
 obtain ⟨_,_,hd⟩:=Qd.1 hb.cp;have hc:=(Dv.1 (hd j hj)).1.1;rw [Nat.mul_one] at hc;obtain ⟨b,_,b2⟩:=hb.dat j hj;unfold Jb;rw [b2,aC6,Bool.and_true];exact hc
theorem yD {C:A1} {f j:Nat} {o:Outs}:DSumOk C f (Fs j (fun _=>false) o):=by
 intro args H o' ho;simp only [Fs,zN] at ho;subst ho;intro h;exact absurd h (by simp [vB])
theorem dat_at {G:Nat→List AV} {ks kp n m j:Nat} (hb:Ad G ks kp n m) (hw:Z4 G ks kp n m) (hj:j<n):G (G0 (G ks) (j*4+2))=Gd (dB G (G ks) j)∧(dB G (G ks) j).length=sN (G ks) j∧byO (dB G (G ks) j)∧H8 (G ks) (j*4+2)=0:=by
 obtain ⟨b,h1,h2⟩:=hb.dat j hj;have h3:=sQ hb j hj;have h4:=dB_eq h2;unfold cA at h3;rw [if_pos hj] at h3;refine ⟨by rw [hw.dat j hj,h2,h4],h3,by rw [h4];exact h1,hw.off j hj⟩
open IntKind renaming wrap → wS
open List renaming length → wW
def progP:List (Nat×DSum):=[(56,dX false),(71,dX true),(82,cF false),(72,cF true),(83,flagS),(73,flagS),(55,joinP)]
theorem t52 (G:Nat→List AV) (a r y:Int) (k o l:Nat) (Q:Ex→List AV→Hp→Prop) (R:AV→Hp→Prop):vT G Q R (H5 (Dc Try.prog [] progP [] 0) 300 20 Try.f52 [.agg (.of [.int .i64 (.var 11 a),.int .i64 (.var 12 r),.slice true (.ro (.var 13 k)) (.var 14 o) (.var 15 l),.int .i64 (.var 16 y)])] [] 8)=(
  inU64 [.int .u64 (wS .u64 a)]=true∧inU64 [.int .u64 (wS .u64 r)]=true∧leB l 1099511627776=true∧leB (o+l) (wW (G k))=true∧u8s (G k)=true∧u8s (A0 (G k) o l)=true∧inU64 [.int .u64 (wS .u64 y)]=true∧Nat.beq (wW (A9 (A4 [.int .u64 (wS .u64 a)]))) (wW (A4 [.int .u64 (wS .u64 a)]))=true∧Nat.beq (wW (A9 (A4 [.int .u64 (wS .u64 r)]))) (wW (A4 [.int .u64 (wS .u64 r)]))=true∧Nat.beq (wW ((A9 (A4 [.int .u64 ((l:Int))]))++(A0 (G k) o l))) (wW (A4 [.int .u64 ((l:Int))])+l)=true∧Nat.beq (wW (A9 (A4 [.int .u64 (wS .u64 y)]))) (wW (A4 [.int .u64 (wS .u64 y)]))=true∧u8s (A9 (A4 [.int .u64 (wS .u64 a)]))=true∧u8s (A9 (A4 [.int .u64 (wS .u64 r)]))=true∧u8s ((A9 (A4 [.int .u64 ((l:Int))]))++(A0 (G k) o l))=true∧u8s (A9 (A4 [.int .u64 (wS .u64 y)]))=true∧leB (wW (A4 [.int .u64 (wS .u64 a)])+wW (A4 [.int .u64 (wS .u64 r)])+(wW (A4 [.int .u64 ((l:Int))])+l)+wW (A4 [.int .u64 (wS .u64 y)])) 1099511627776=true∧
 R (.slice false (.rw 6) 0 (wW ((((A9 (A4 [.int .u64 (wS .u64 a)]))++(A9 (A4 [.int .u64 (wS .u64 r)])))++((A9 (A4 [.int .u64 ((l:Int))]))++(A0 (G k) o l)))++(A9 (A4 [.int .u64 (wS .u64 y)]))))) [some ⟨1,([.int .i64 a,.int .i64 r,.slice true (.ro k) o l,.int .i64 y]:List AV)⟩,some ⟨1,(A9 (A4 [.int .u64 (wS .u64 a)]))⟩,some ⟨1,(A9 (A4 [.int .u64 (wS .u64 r)]))⟩,some ⟨1,((A9 (A4 [.int .u64 ((l:Int))]))++(A0 (G k) o l))⟩,some ⟨1,(A9 (A4 [.int .u64 (wS .u64 y)]))⟩,some ⟨1,([.slice false (.rw 1) 0 (wW (A4 [.int .u64 (wS .u64 a)])),.slice false (.rw 2) 0 (wW (A4 [.int .u64 (wS .u64 r)])),.slice false (.rw 3) 0 (wW (A4 [.int .u64 ((l:Int))])+l),.slice false (.rw 4) 0 (wW (A4 [.int .u64 (wS .u64 y)]))]:List AV)⟩,some ⟨1,((((A9 (A4 [.int .u64 (wS .u64 a)]))++(A9 (A4 [.int .u64 (wS .u64 r)])))++((A9 (A4 [.int .u64 ((l:Int))]))++(A0 (G k) o l)))++(A9 (A4 [.int .u64 (wS .u64 y)])))⟩]):=by kernel_rfl
theorem t54 (G:Nat→List AV) (a:Int) (h:Bool) (Q:Ex→List AV→Hp→Prop) (R:AV→Hp→Prop):vT G Q R (H5 (Dc Try.prog [] progP [] 0) 300 20 Try.f54 [.agg (.of [.int .i64 (.var 11 a),.bool (.var 12 h)])] [] 6)=(
  inU64 [.int .u64 (wS .u64 a)]=true∧Nat.beq (wW (A9 (A4 [.int .u64 (wS .u64 a)]))) (wW (A4 [.int .u64 (wS .u64 a)]))=true∧Nat.beq (wW ([.int .u8 (Z1 [.bool h])]:List AV)) 1=true∧u8s (A9 (A4 [.int .u64 (wS .u64 a)]))=true∧u8s ([.int .u8 (Z1 [.bool h])]:List AV)=true∧leB (wW (A4 [.int .u64 (wS .u64 a)])+1) 1099511627776=true∧R (.slice false (.rw 4) 0 (wW ((A9 (A4 [.int .u64 (wS .u64 a)]))++([.int .u8 (Z1 [.bool h])]:List AV)))) [some ⟨1,([.int .i64 a,.bool h]:List AV)⟩,some ⟨1,(A9 (A4 [.int .u64 (wS .u64 a)]))⟩,some ⟨1,([.int .u8 (Z1 [.bool h])]:List AV)⟩,some ⟨1,([.slice false (.rw 1) 0 (wW (A4 [.int .u64 (wS .u64 a)])),.slice false (.rw 2) 0 1]:List AV)⟩,some ⟨1,((A9 (A4 [.int .u64 (wS .u64 a)]))++([.int .u8 (Z1 [.bool h])]:List AV))⟩]):=by kernel_rfl
end Go.Am
