/-
  Images as files: the lists laid, the whole file's tree. Images as files: the sums; the trees of Bytes on both sides.
-/
import Derived.Test.YthejjolnlngahaaPart17
import Derived.Test.YthejjolnlngahaaPart16
namespace Go.Am
open Go.Proofs
set_option maxRecDepth 100000
theorem put_s (G:Nat→List AV) (B:Nat) (ks n:Nat) (h:Oy G (G ks) n):ACalls (⟨Try.prog,G,B⟩:A0) 51 [.slice true (.ro ks) 0 n,.func 52 []] [] fun v H=>v=.tup [.slice false (.rw 0) 0 ((fN (n:Int)++I5 G (G ks) n)).length,.int .i64 0]∧H=[some ⟨1,(fN (n:Int)++I5 G (G ks) n)⟩]:=by
 have l0:H5 (⟨Try.prog,G,B⟩:A0) 0 (A2 Try.f51 0) (D6 2505 (D9 [.func 52 [],.slice false (.rw 0) 0 (fN (n:Int)).length,.slice true (.ro ks) 0 n,.int .i64 (n:Int),.int .i64 0] [some ⟨1,fN (n:Int)⟩]) 0 28 [1,6,15,16,17] (.one (.exit 0) [.undef,.slice false (.rw 0) (.lit 0) (.len (.var 22 (fN (n:Int)++I5 G (G ks) n))),.undef,.undef,.undef] [some ⟨1,.var 22 (fN (n:Int)++I5 G (G ks) n)⟩])):=P1 rfl ((aW0 G B ks n (fN (n:Int)) (Y7 _) (by have:=W9 (n:Int);omega) h).lmono fun e vs H ⟨h1,h2,h3⟩=>⟨h1,.inl ⟨h2,h3⟩⟩);have h8:=h.le8
 have u:u8s (fN (n:Int)++I5 G (G ks) n)=true:=by rw [E4,Y7,Pl fun j hj=>h.u8 hj];rfl
 have key:=C1 (C:=(⟨Try.prog,G,B⟩:A0)) (f:=51) (fn:=Try.f51) (K:=Dc Try.prog [] (Kh G) [D6 2505 (D9 [.func 52 [],.slice false (.rw 0) 0 (fN (n:Int)).length,.slice true (.ro ks) 0 n,.int .i64 (n:Int),.int .i64 0] [some ⟨1,fN (n:Int)⟩]) 0 28 [1,6,15,16,17] (.one (.exit 0) [.undef,.slice false (.rw 0) (.lit 0) (.len (.var 22 (fN (n:Int)++I5 G (G ks) n))),.undef,.undef,.undef] [some ⟨1,.var 22 (fN (n:Int)++I5 G (G ks) n)⟩])] 0) (R:=fun v H=>v=.tup [.slice false (.rw 0) 0 ((fN (n:Int)++I5 G (G ks) n)).length,.int .i64 0]∧H=[some ⟨1,(fN (n:Int)++I5 G (G ks) n)⟩]) (D7 (mix G B) (by kernel_rfl) (Rp G B) (.cast (.cons (i:=0) (by kernel_rfl) rfl l0 .nil) (by kernel_rfl))) (by kernel_rfl) (by kernel_rfl) (by kernel_rfl) (fuel:=300) (n0:=20) (keep:=1) (args:=[.slice true (.ro (.var 24 ks)) (.lit 0) (.var 3 n),.func 52 []]) (H:=[]) (by
  rw [t51,Yl (x:=(n:Int)) (W8.2 (by omega))]
  exact ⟨Sc (W8.2 (by omega)),by
   show D9 _ _ [.agg [.func 52 [],.slice false (.rw 0) 0 (A6 [.int .u64 (n:Int)]).length,_,_,_],_]=true;rw [show (A6 [.int .u64 (n:Int)]).length=(fN (n:Int)).length from (R1 _).symm]
   exact C5,rfl,rfl⟩)
 exact key.keep (H:=[]) (by simp) (by simp only [List.length_cons,List.length_nil,H9,C4 u,Bool.and_self]) (by simp [A8,A3]) (by simp)
theorem put_p (G:Nat→List AV) (B:Nat) (kp m:Nat) (h:PlcF (G kp) m):ACalls (⟨Try.prog,G,B⟩:A0) 53 [.slice true (.ro kp) 0 m,.func 54 []] [] fun v H=>v=.tup [.slice false (.rw 0) 0 ((fN (m:Int)++G5 (G kp) m)).length,.int .i64 0]∧H=[some ⟨1,(fN (m:Int)++G5 (G kp) m)⟩]:=by
 have l0:H5 (⟨Try.prog,G,B⟩:A0) 0 (A2 Try.f53 0) (D6 2506 (D9 [.func 54 [],.slice false (.rw 0) 0 (fN (m:Int)).length,.slice true (.ro kp) 0 m,.int .i64 (m:Int),.int .i64 0] [some ⟨1,fN (m:Int)⟩]) 0 28 [1,6,15,16,17] (.one (.exit 0) [.undef,.slice false (.rw 0) (.lit 0) (.len (.var 22 (fN (m:Int)++G5 (G kp) m))),.undef,.undef,.undef] [some ⟨1,.var 22 (fN (m:Int)++G5 (G kp) m)⟩])):=P1 rfl ((aW1 G B kp m (fN (m:Int)) (Y7 _) (by have:=W9 (m:Int);omega) h).lmono fun e vs H ⟨h1,h2,h3⟩=>⟨h1,.inl ⟨h2,h3⟩⟩);have h8:=h.le
 have u:u8s (fN (m:Int)++G5 (G kp) m)=true:=by rw [E4,Y7,Mk];rfl
 have key:=C1 (C:=(⟨Try.prog,G,B⟩:A0)) (f:=53) (fn:=Try.f53) (K:=Dc Try.prog [] (Kh G) [D6 2506 (D9 [.func 54 [],.slice false (.rw 0) 0 (fN (m:Int)).length,.slice true (.ro kp) 0 m,.int .i64 (m:Int),.int .i64 0] [some ⟨1,fN (m:Int)⟩]) 0 28 [1,6,15,16,17] (.one (.exit 0) [.undef,.slice false (.rw 0) (.lit 0) (.len (.var 22 (fN (m:Int)++G5 (G kp) m))),.undef,.undef,.undef] [some ⟨1,.var 22 (fN (m:Int)++G5 (G kp) m)⟩])] 0) (R:=fun v H=>v=.tup [.slice false (.rw 0) 0 ((fN (m:Int)++G5 (G kp) m)).length,.int .i64 0]∧H=[some ⟨1,(fN (m:Int)++G5 (G kp) m)⟩]) (D7 (mix G B) (by kernel_rfl) (Rp G B) (.cast (.cons (i:=0) (by kernel_rfl) rfl l0 .nil) (by kernel_rfl))) (by kernel_rfl) (by kernel_rfl) (by kernel_rfl) (fuel:=300) (n0:=20) (keep:=1) (args:=[.slice true (.ro (.var 25 kp)) (.lit 0) (.var 4 m),.func 54 []]) (H:=[]) (by
  rw [t53,Yl (x:=(m:Int)) (W8.2 (by omega))]
  exact ⟨Sc (W8.2 (by omega)),by
   show D9 _ _ [.agg [.func 54 [],.slice false (.rw 0) 0 (A6 [.int .u64 (m:Int)]).length,_,_,_],_]=true;rw [show (A6 [.int .u64 (m:Int)]).length=(fN (m:Int)).length from (R1 _).symm]
   exact C5,rfl,rfl⟩)
 exact key.keep (H:=[]) (by simp) (by simp only [List.length_cons,List.length_nil,H9,C4 u,Bool.and_self]) (by simp [A8,A3]) (by simp)
def Dw (j:Nat) (q:List AV→Bool) (x:EL):DSum:=fun args H=>some (.chk (.uf j q [.agg (.of args),.agg (.of [])]) (.one (.tup [.slice false (.rw H.length) (.lit 0) (.len x),.int .i64 (.lit 0)]) [.new ⟨1,x⟩]))
theorem dQ {C:A0} {f j:Nat} {vs0:List AV} {x:EL} {q:List AV→Bool} (hq:q=D9 vs0 []) (h:ACalls C f vs0 [] fun v H=>v=.tup [.slice false (.rw 0) 0 (vL C.G x).length,.int .i64 0]∧H=[some ⟨1,vL C.G x⟩]) (ha:A3 0 vs0=true) (hu:u8s (vL C.G x)=true):D4 C f (Dw j q x):=by
 intro args H o ho;simp only [Dw,zK] at ho;subst ho;intro h1;have h1:q [.agg (vVs C.G args),.agg (R4 [])]=true:=h1;rw [hq] at h1;obtain ⟨e1,_⟩:=Hw h1;refine E0.new0 (C:=C) (args0:=vs0) (v0:=.tup [.slice false (.rw 0) 0 (vL C.G x).length,.int .i64 0]) (by simp only [D8];exact h) (C4 hu) ha e1 (by simp [A8,A3]) (by simp [vV,vVs,vR,vN,vI,C0,rens])
theorem dS {C:A0} {f j:Nat} {x:EL}:D4 C f (Dw j (fun _=>false) x):=by
 intro args H o ho;simp only [Dw,zK] at ho;subst ho;intro h1;exact absurd h1 (by simp [vB])
open Crc
def Bu (l:List AV):Int:=u (sum (S2 l 0 l.length))
def Ow:List AV→Int:=fun xs=>match xs with
 | [.agg l]=>Bu l
 | _=>0
theorem aS7 {l:List AV} (h:u8s l=true):Je .u8 l 0 l.length=true:=yK fun j hj=>by
 unfold u8s at h;rw [xM] at h;have h1:l[j]?=some l[j]:=yO hj
 have:=h _ (rM h1)
 rw [Nat.zero_add];unfold isI;rw [h1];unfold Fc at this;split at this
 ·rename_i e;rw [e];rfl
 ·cases this
theorem gM:∀ {l:List AV},u8s l=true→Ba l=true
 | [],_=>rfl
 | v::l,h=>by
  simp only [u8s,List.all_cons,zN] at h
  have h1:U5 v=true:=by
   have:=h.1
   unfold Fc at this;split at this<;>first | rfl | cases this
  simp only [Ba,h1,gM (l:=l) h.2,Bool.and_self]
def sumS:DSum:=fun xs H=>match xs with
 | [.slice _ (.rw j) (.lit 0) (.lit 1)]=>match H[j]? with
  | some (some ⟨1,.of [.slice m (.rw b) (.lit 0) n]⟩)=>match H[b]? with
   | some (some ⟨1,l⟩)=>some (.chk (.eqN (.len l) n)<|.chk (.u8s l)<|.chk (.leN n (.lit 1099511627776))<|.one (.int .u32 (.uf 2507 Ow [.agg l])) [])
   | _=>none
  | _=>none
 | _=>none
theorem qT (G:Nat→List AV) (B:Nat):D4 (⟨Try.prog,G,B⟩:A0) 57 sumS:=by
 intro xs H o ho;unfold sumS at ho;split at ho
 ·rename_i mb j;split at ho
  ·rename_i m b n hj;split at ho
   ·rename_i l hl;simp only [zK] at ho;subst ho;intro h1 h2 h3;simp only [vB,vN] at h1 h2 h3;have e1:=yV h1;have h3:=B2.1 h3;have gj:=I3 (G:=G) hj;have gl:=I3 (G:=G) hl;have fl:A3 0 (vL G l)=true∧Ba (vL G l)=true:=⟨C4 h2,gM h2⟩;refine E0.rdN (C:=(⟨Try.prog,G,B⟩:A0)) (σ:=fun k=>match k with | 0=>(.rw j,0) | _=>(.rw b,0)) (G':=fun k=>match k with | 0=>[.slice m (.ro 1) 0 (vN G n)] | 1=>vL G l | _=>[]) (args0:=[.slice mb (.ro 0) 0 1]) (fun k=>?_) rfl (fun ρ vs hv=>?_) (fun B'=>?_) ⟨rfl,rfl⟩
    ·match k with
     | 0=>
      refine .inr ⟨[.slice m (.rw b) 0 (vN G n)],?_,fun i v hv=>?_⟩
      ·simp only [H4,gj];rfl
      ·match i,hv with
       | 0,hv=>simp at hv;subst hv;exact ⟨rfl,by simp [sb]⟩
       | i+1,hv=>simp at hv
     | 1=>
      refine .inr ⟨vL G l,?_,fun i v hv=>?_⟩
      ·simp only [H4,gl];rfl
      ·obtain ⟨g1,g2⟩:=flatN fl i v hv (fun k=>match k with | 0=>(.rw j,0) | _=>(.rw b,0));exact ⟨g1,by rw [g2];simpa using hv⟩
     | _+2=>exact .inl rfl
    ·simpa [vVs,vV,vR,vN,sbs,sb] using hv
    ·have key:=aT4 (fun k=>match k with | 0=>[.slice m (.ro 1) 0 (vN G n)] | 1=>vL G l | _=>[]) B' 0 0 1 mb (by omega) fun i hi=>by
      obtain rfl:i=0:=by omega
      show (Fd [.slice m (.ro 1) 0 (vN G n)] 0&&(decide (vN G n≤9223372036854775807)&&Je .u8 (vL G l) 0 (vN G n)))=true;rw [←e1,aS7 h2,yM (by omega)];rfl
     refine key.monoK fun v H hv=>?_;rw [hv];show AV.int .u32 (u (sum (([S2 (vL G l) 0 (vN G n)]:List (List Int)).flatten)))=.int .u32 (Ow [.agg (vL G l)]);rw [List.flatten_cons,List.flatten_nil,List.append_nil,←e1];rfl
   ·simp at ho
  ·simp at ho
 ·simp at ho
theorem t28 (G:Nat→List AV) (q1 q2 q3:List AV→Bool) (ks kp n m:Nat) (s c:Int) (ws wp:List AV) (Q:Ex→List AV→Hp→Prop) (R:AV→Hp→Prop):vT G Q R (G0 (Dc Try.prog [] ([(20,X6 2512 q1 (.one (.int .i64 (.var 28 c)) [])),(51,Dw 2510 q2 (.var 21 ws)),(53,Dw 2511 q3 (.var 22 wp)),(57,sumS)]++progP) [] 0) 300 20 Try.f28 [.agg (.of [.int .i64 (.var 1 s),.slice true (.ro (.var 24 ks)) (.lit 0) (.var 3 n),.slice true (.ro (.var 25 kp)) (.lit 0) (.var 4 m)])] [] 10)=(
  q1 [.agg ([.agg ([.int .i64 s,.slice true (.ro ks) 0 n,.slice true (.ro kp) 0 m]:List AV)]:List AV),.agg ([]:List AV)]=true∧(((c:Int)==0)=true→q2 [.agg ([.slice true (.ro ks) 0 n,.func 52 []]:List AV),.agg ([]:List AV)]=true∧q3 [.agg ([.slice true (.ro kp) 0 m,.func 54 []]:List AV),.agg ([]:List AV)]=true∧inU64 [.int .u64 (IntKind.wrap .u64 s)]=true∧Nat.beq (List.length ([.int .u8 83,.int .u8 84,.int .u8 68,.int .u8 1]:List AV)) 4=true∧Nat.beq (List.length (B3 (A6 [.int .u64 (IntKind.wrap .u64 s)]))) (List.length (A6 [.int .u64 (IntKind.wrap .u64 s)]))=true∧Nat.beq (List.length ws) (List.length ws)=true∧Nat.beq (List.length wp) (List.length wp)=true∧u8s ([.int .u8 83,.int .u8 84,.int .u8 68,.int .u8 1]:List AV)=true∧u8s (B3 (A6 [.int .u64 (IntKind.wrap .u64 s)]))=true∧u8s ws=true∧u8s wp=true∧leB (4+List.length (A6 [.int .u64 (IntKind.wrap .u64 s)])+List.length ws+List.length wp) 1099511627776=true∧Nat.beq (List.length (((([.int .u8 83,.int .u8 84,.int .u8 68,.int .u8 1]:List AV)++(B3 (A6 [.int .u64 (IntKind.wrap .u64 s)])))++ws)++wp)) (List.length (((([.int .u8 83,.int .u8 84,.int .u8 68,.int .u8 1]:List AV)++(B3 (A6 [.int .u64 (IntKind.wrap .u64 s)])))++ws)++wp))=true∧u8s (((([.int .u8 83,.int .u8 84,.int .u8 68,.int .u8 1]:List AV)++(B3 (A6 [.int .u64 (IntKind.wrap .u64 s)])))++ws)++wp)=true∧leB (List.length (((([.int .u8 83,.int .u8 84,.int .u8 68,.int .u8 1]:List AV)++(B3 (A6 [.int .u64 (IntKind.wrap .u64 s)])))++ws)++wp)) 1099511627776=true∧
 leB (List.length (((([.int .u8 83,.int .u8 84,.int .u8 68,.int .u8 1]:List AV)++(B3 (A6 [.int .u64 (IntKind.wrap .u64 s)])))++ws)++wp)+4) 140737488355328=true∧Nat.beq (List.length (((([.int .u8 83,.int .u8 84,.int .u8 68,.int .u8 1]:List AV)++(B3 (A6 [.int .u64 (IntKind.wrap .u64 s)])))++ws)++wp)) (List.length (((([.int .u8 83,.int .u8 84,.int .u8 68,.int .u8 1]:List AV)++(B3 (A6 [.int .u64 (IntKind.wrap .u64 s)])))++ws)++wp))=true∧
 R (.tup [.slice false (.rw 9) 0 (List.length (((([.int .u8 83,.int .u8 84,.int .u8 68,.int .u8 1]:List AV)++(B3 (A6 [.int .u64 (IntKind.wrap .u64 s)])))++ws)++wp)+4),.int .i64 0]) [some ⟨1,([.int .i64 s,.slice true (.ro ks) 0 n,.slice true (.ro kp) 0 m]:List AV)⟩,some ⟨1,ws⟩,some ⟨1,wp⟩,some ⟨1,([.int .u8 83,.int .u8 84,.int .u8 68,.int .u8 1]:List AV)⟩,some ⟨1,(B3 (A6 [.int .u64 (IntKind.wrap .u64 s)]))⟩,some ⟨1,([.slice false (.rw 3) 0 4,.slice false (.rw 4) 0 (List.length (A6 [.int .u64 (IntKind.wrap .u64 s)])),.slice false (.rw 1) 0 (List.length ws),.slice false (.rw 2) 0 (List.length wp)]:List AV)⟩,none,some ⟨1,([.slice false (.rw 6) 0 (List.length (((([.int .u8 83,.int .u8 84,.int .u8 68,.int .u8 1]:List AV)++(B3 (A6 [.int .u64 (IntKind.wrap .u64 s)])))++ws)++wp))]:List AV)⟩,some ⟨1,([.int .u8 (IntKind.wrap .u8 (O0 .u32 (Ow [.agg (((([.int .u8 83,.int .u8 84,.int .u8 68,.int .u8 1]:List AV)++(B3 (A6 [.int .u64 (IntKind.wrap .u64 s)])))++ws)++wp)]) 24)),.int .u8 (IntKind.wrap .u8 (O0 .u32 (Ow [.agg (((([.int .u8 83,.int .u8 84,.int .u8 68,.int .u8 1]:List AV)++(B3 (A6 [.int .u64 (IntKind.wrap .u64 s)])))++ws)++wp)]) 16)),.int .u8 (IntKind.wrap .u8 (O0 .u32 (Ow [.agg (((([.int .u8 83,.int .u8 84,.int .u8 68,.int .u8 1]:List AV)++(B3 (A6 [.int .u64 (IntKind.wrap .u64 s)])))++ws)++wp)]) 8)),.int .u8 (IntKind.wrap .u8 (Ow [.agg (((([.int .u8 83,.int .u8 84,.int .u8 68,.int .u8 1]:List AV)++(B3 (A6 [.int .u64 (IntKind.wrap .u64 s)])))++ws)++wp)]))]:List AV)⟩,some ⟨1,((((([.int .u8 83,.int .u8 84,.int .u8 68,.int .u8 1]:List AV)++(B3 (A6 [.int .u64 (IntKind.wrap .u64 s)])))++ws)++wp)++([.int .u8 (IntKind.wrap .u8 (O0 .u32 (Ow [.agg (((([.int .u8 83,.int .u8 84,.int .u8 68,.int .u8 1]:List AV)++(B3 (A6 [.int .u64 (IntKind.wrap .u64 s)])))++ws)++wp)]) 24)),.int .u8 (IntKind.wrap .u8 (O0 .u32 (Ow [.agg (((([.int .u8 83,.int .u8 84,.int .u8 68,.int .u8 1]:List AV)++(B3 (A6 [.int .u64 (IntKind.wrap .u64 s)])))++ws)++wp)]) 16)),.int .u8 (IntKind.wrap .u8 (O0 .u32 (Ow [.agg (((([.int .u8 83,.int .u8 84,.int .u8 68,.int .u8 1]:List AV)++(B3 (A6 [.int .u64 (IntKind.wrap .u64 s)])))++ws)++wp)]) 8)),.int .u8 (IntKind.wrap .u8 (Ow [.agg (((([.int .u8 83,.int .u8 84,.int .u8 68,.int .u8 1]:List AV)++(B3 (A6 [.int .u64 (IntKind.wrap .u64 s)])))++ws)++wp)]))]:List AV))⟩])∧
 (((c:Int)==0)=false→R (.tup [.nils,.int .i64 c]) [some ⟨1,([.int .i64 s,.slice true (.ro ks) 0 n,.slice true (.ro kp) 0 m]:List AV)⟩])):=by kernel_rfl
def Uz:List AV:=[.int .u8 83,.int .u8 84,.int .u8 68,.int .u8 1]
def Y9 (G:Nat→List AV) (s:Int) (cs:List AV) (n:Nat) (ps:List AV) (m:Nat):List AV:=((Uz++fN s)++(fN (n:Int)++I5 G cs n))++(fN (m:Int)++G5 ps m)
def Ev (x:Int):List AV:=[.int .u8 (IntKind.wrap .u8 (O0 .u32 x 24)),.int .u8 (IntKind.wrap .u8 (O0 .u32 x 16)),.int .u8 (IntKind.wrap .u8 (O0 .u32 x 8)),.int .u8 (IntKind.wrap .u8 x)]
def F5 (G:Nat→List AV) (s:Int) (cs:List AV) (n:Nat) (ps:List AV) (m:Nat):List AV:=Y9 G s cs n ps m++Ev (Bu (Y9 G s cs n ps m))
theorem oY {G:Nat→List AV} {s:Int} {cs ps:List AV} {n m:Nat} (h:Oy G cs n):u8s (Y9 G s cs n ps m)=true:=by
 unfold Y9;rw [E4,E4,E4,E4,E4,Y7,Y7,Y7,Mk,Pl fun j hj=>h.u8 hj];rfl
theorem Sj {G:Nat→List AV} {s:Int} {cs ps:List AV} {n m:Nat} (h:Oy G cs n):u8s (F5 G s cs n ps m)=true:=by
 unfold F5;rw [E4,oY h];rfl
theorem jC {G:Nat→List AV} {s:Int} {cs ps:List AV} {n m:Nat} (h:Oy G cs n) (hp:m≤512):(Y9 G s cs n ps m).length≤80000:=by
 have h1:=W9 s;have h2:=W9 (n:Int);have h3:=W9 (m:Int);have h4:=Ui (ps:=ps) (n:=m);have h5:=Ys (G:=G) (cs:=cs) (n:=n) fun j hj=>by rw [h.len hj];exact (h.dat j hj).2.2
 have h8:=h.le8;simp only [Y9,zA0,Uz,List.length_cons,List.length_nil];omega
theorem aW2 {G:Nat→List AV} {s:Int} {ks kp n m:Nat} (hb:T2 G ks kp n m) (hy:E8 s (G ks) n (G kp) m=true):PlcF (G kp) m where
 le:=(Ai hy).1.2
 ok:=hb.pls
 num j hj:=W8.2 (by have:=Xa hy hb.pls j hj;omega)
theorem zX {cs:List AV} {s:Int}:∀ {n:Nat},As cs s n=true→∃ j,j<n∧sA cs j≤s∧s<sE cs j
 | 0,h=>by simp [As] at h
 | n+1,h=>by
  simp only [As,Bool.or_eq_true] at h;rcases h with h | h
  ·obtain ⟨j,h1,h2⟩:=zX h;exact ⟨j,by omega,h2⟩
  ·unfold eS at h;simp only [zN,xE] at h;exact ⟨n,by omega,h.2.1,h.2.2⟩
theorem Qe {s:Int} {cs ps:List AV} {n m:Nat} (h:E8 s cs n ps m=true):0≤s∧s≤8192:=by
 have h':=h;unfold E8 at h';simp only [zN,xE] at h';obtain ⟨j,h1,h2,h3⟩:=zX h'.2.2.2.2;have sb:=U2.1 (Z4 h j h1).2.2.2;have e:sE cs j=sA cs j+(sN cs j:Int)+sZ cs j:=rfl;omega
theorem may_s {s:Int} {cs ps:List AV} {n m:Nat} (h:E8 s cs n ps m=true):Al s=true:=W8.2 (by have:=Qe h;omega)
theorem backT {f:FuncId} {args:List AV} {C:A0} {mb:Bool} {q m:Nat} {cs:List AV} (hc:u8s cs=true) (h:ACalls C f args [] fun v' H'=>v'=.tup [.slice mb (.rw q) 0 m,.int .i64 0]∧H'[q]?=some (some ⟨1,cs⟩)) :
  ACalls C f args [] fun v' H'=>v'=.tup [.slice mb (.rw 0) 0 m,.int .i64 0]∧H'=[some ⟨1,cs⟩]:=by
 refine h.view fun v H' ⟨e1,e2⟩=>⟨_,_,⟨rfl,rfl⟩,?_⟩;rw [e1];exact C2.renM (θ:=[q]) (by simp) (fun i hi=>absurd hi (by simp)) (by simp) ⟨⟨C4 hc,by rw [B9 _ _ (C4 (k:=0) hc)];exact e2⟩,trivial⟩ (by simp [A3,A8]) (by simp [rens,C0,wk])
theorem tD (G:Nat→List AV) (B:Nat) (ks kp n m:Nat) (s:Int) (hb:T2 G ks kp n m) (hw:Gx G ks kp n m) (hn:n≤1000000) (hm:m≤1000000) (hy:E8 s (G ks) n (G kp) m=true):ACalls (⟨Try.prog,G,B⟩:A0) 28 [.agg [.int .i64 s,.slice true (.ro ks) 0 n,.slice true (.ro kp) 0 m]] [] fun v H=>v=.tup [.slice false (.rw 0) 0 (F5 G s (G ks) n (G kp) m).length,.int .i64 0]∧H=[some ⟨1,(F5 G s (G ks) n (G kp) m)⟩]:=by
 have hS:=Po hb hw hy;have hP:=aW2 hb hy;have hs:=may_s hy;have u1:S5 [.agg (G ks),.int .i64 (n:Int)]=true:=L9.2 ⟨hb.sec,hn⟩;have u2:Jr [.agg (G kp),.int .i64 (m:Int)]=true:=Z3.2 ⟨hb.pls,hm⟩;have c20:D4 (⟨Try.prog,G,B⟩:A0) 20 (X6 2512 (D9 [.agg [.int .i64 s,.slice true (.ro ks) 0 n,.slice true (.ro kp) 0 m]] []) (.one (.int .i64 (.var 28 (N5 s (G ks) n (G kp) m))) [])):=Hn (v0:=.int .i64 (N5 s (G ks) n (G kp) m)) rfl (Gv G B ks n kp m s u1 u2) rfl rfl (by simp) rfl
 have us:u8s (fN (n:Int)++I5 G (G ks) n)=true:=by rw [E4,Y7,Pl fun j hj=>hS.u8 hj];rfl
 have up:u8s (fN (m:Int)++G5 (G kp) m)=true:=by rw [E4,Y7,Mk];rfl
 have c51:D4 (⟨Try.prog,G,B⟩:A0) 51 (Dw 2510 (D9 [.slice true (.ro ks) 0 n,.func 52 []] []) (.var 21 (fN (n:Int)++I5 G (G ks) n))):=dQ rfl (put_s G B ks n hS) rfl us;have c53:D4 (⟨Try.prog,G,B⟩:A0) 53 (Dw 2511 (D9 [.slice true (.ro kp) 0 m,.func 54 []] []) (.var 22 (fN (m:Int)++G5 (G kp) m))):=dQ rfl (put_p G B kp m hP) rfl up;have e0:N5 s (G ks) n (G kp) m=0:=by unfold N5;rw [if_pos hy]
 have uF:u8s (F5 G s (G ks) n (G kp) m)=true:=Sj hS;have lB:=jC (G:=G) (s:=s) (ps:=(G kp)) hS hP.le
 have key:=C1 (C:=(⟨Try.prog,G,B⟩:A0)) (f:=28) (fn:=Try.f28) (K:=Dc Try.prog [] ([(20,X6 2512 (D9 [.agg [.int .i64 s,.slice true (.ro ks) 0 n,.slice true (.ro kp) 0 m]] []) (.one (.int .i64 (.var 28 (N5 s (G ks) n (G kp) m))) [])),(51,Dw 2510 (D9 [.slice true (.ro ks) 0 n,.func 52 []] []) (.var 21 (fN (n:Int)++I5 G (G ks) n))),(53,Dw 2511 (D9 [.slice true (.ro kp) 0 m,.func 54 []] []) (.var 22 (fN (m:Int)++G5 (G kp) m))),(57,sumS)]++progP) [] 0) (R:=fun v H=>v=.tup [.slice false (.rw 9) 0 (F5 G s (G ks) n (G kp) m).length,.int .i64 0]∧∃ H0,H=H0++[some ⟨1,(F5 G s (G ks) n (G kp) m)⟩]∧H0.length=9) (by rw [show B5 (C6 Try.f28)=[] by kernel_rfl];exact D7 (mix G B) (by kernel_rfl) (.cons c20 (.cons c51 (.cons c53 (.cons (qT G B) (Mj G B))))) .nil) (by kernel_rfl) (by kernel_rfl) (by kernel_rfl) (fuel:=300) (n0:=20) (keep:=10) (args:=[.agg (.of [.int .i64 (.var 1 s),.slice true (.ro (.var 24 ks)) (.lit 0) (.var 3 n),.slice true (.ro (.var 25 kp)) (.lit 0) (.var 4 m)])]) (H:=[]) (by
  rw [t28,Yl hs];have eq:∀ x:Int,B3 (A6 [.int .u64 x])=fN x:=fun x=>rfl;have el:∀ x:Int,(A6 [.int .u64 x]).length=(fN x).length:=fun x=>(R1 _).symm;simp only [eq,el];have eB:((([.int .u8 83,.int .u8 84,.int .u8 68,.int .u8 1]++fN s)++(fN (n:Int)++I5 G (G ks) n))++(fN (m:Int)++G5 (G kp) m):List AV)=Y9 G s (G ks) n (G kp) m:=rfl;rw [eB];have e4:4+(fN s).length+(fN (n:Int)++I5 G (G ks) n).length+(fN (m:Int)++G5 (G kp) m).length=(Y9 G s (G ks) n (G kp) m).length:=by simp only [Y9,zA0,Uz,List.length_cons,List.length_nil]
  rw [e4];refine ⟨C5,fun _=>⟨C5,C5,Sc hs,rfl,zA3 _,zA3 _,zA3 _,rfl,Y7 _,us,up,B2.2 (by omega),zA3 _,oY hS,B2.2 (by omega),B2.2 (by omega),zA3 _,?_,[_,_,_,_,_,_,_,_,_],rfl,rfl⟩,fun h=>?_⟩
  ·rw [F5,zA0];rfl
  ·rw [e0] at h;exact absurd h (by decide))
 refine backT (q:=9) uF (key.monoK fun v H ⟨h1,H0,h2,h3⟩=>⟨h1,?_⟩);have h4:(H.take 10)[9]?=some (some ⟨1,(F5 G s (G ks) n (G kp) m)⟩):=by rw [h2,xN (by omega),h3];rfl
 rwa [qL,if_pos (by omega)] at h4
theorem qU {l:List AV} {n:Nat} (h:l.length=n):A9 l 0 n=l:=by subst h;simp [A9]
theorem by_no (G:Nat→List AV) (B:Nat) (ks kp n m:Nat) (s:Int) (hb:T2 G ks kp n m) (hn:n≤1000000) (hm:m≤1000000) (hy:E8 s (G ks) n (G kp) m=false):ACalls (⟨Try.prog,G,B⟩:A0) 28 [.agg [.int .i64 s,.slice true (.ro ks) 0 n,.slice true (.ro kp) 0 m]] [] fun v _=>v=.tup [.nils,.int .i64 2]:=by
 have u1:S5 [.agg (G ks),.int .i64 (n:Int)]=true:=L9.2 ⟨hb.sec,hn⟩;have u2:Jr [.agg (G kp),.int .i64 (m:Int)]=true:=Z3.2 ⟨hb.pls,hm⟩;have e0:N5 s (G ks) n (G kp) m=2:=by unfold N5;rw [if_neg (by rw [hy];decide)]
 have c20:D4 (⟨Try.prog,G,B⟩:A0) 20 (X6 2512 (D9 [.agg [.int .i64 s,.slice true (.ro ks) 0 n,.slice true (.ro kp) 0 m]] []) (.one (.int .i64 (.var 28 (N5 s (G ks) n (G kp) m))) [])):=Hn (v0:=.int .i64 (N5 s (G ks) n (G kp) m)) rfl (Gv G B ks n kp m s u1 u2) rfl rfl (by simp) rfl
 have key:=C1 (C:=(⟨Try.prog,G,B⟩:A0)) (f:=28) (fn:=Try.f28) (K:=Dc Try.prog [] ([(20,X6 2512 (D9 [.agg [.int .i64 s,.slice true (.ro ks) 0 n,.slice true (.ro kp) 0 m]] []) (.one (.int .i64 (.var 28 (N5 s (G ks) n (G kp) m))) [])),(51,Dw 2510 (fun _=>false) (.var 21 [])),(53,Dw 2511 (fun _=>false) (.var 22 [])),(57,sumS)]++progP) [] 0) (R:=fun v _=>v=.tup [.nils,.int .i64 2]) (by rw [show B5 (C6 Try.f28)=[] by kernel_rfl];exact D7 (mix G B) (by kernel_rfl) (.cons c20 (.cons dS (.cons dS (.cons (qT G B) (Mj G B))))) .nil) (by kernel_rfl) (by kernel_rfl) (by kernel_rfl) (fuel:=300) (n0:=20) (keep:=10) (args:=[.agg (.of [.int .i64 (.var 1 s),.slice true (.ro (.var 24 ks)) (.lit 0) (.var 3 n),.slice true (.ro (.var 25 kp)) (.lit 0) (.var 4 m)])]) (H:=[]) (by
  rw [t28,e0]
  exact ⟨C5,fun h=>absurd h (by decide),fun _=>rfl⟩)
 exact key.monoK fun v H h=>h
section
variable (G:Nat→List AV) (B:Nat)
def Pv (s:List AV) (n:Nat) (a:Int):Hp:=[some ⟨1,([.slice false (.rw 1) 0 n,.int .i64 a]:List AV)⟩,some ⟨1,s⟩]
theorem rb20 (s:List AV) (n:Nat) (a v t h:Int) (Q:Ex→List AV→Hp→Prop) (R:AV→Hp→Prop):vT G Q R (G3 (Dc Try.prog [] [] [] 2) 200 10 2 (A2 Try.f86 0) 61 [0,2,3,4,5,6] [.ptr (.rw 0) (.lit 0),.int .u64 (.lit 0),.int .i64 (.lit 0),.int .u64 (.var 1 v),.int .i64 (.var 2 t),.int .u64 (.var 3 h)] [some ⟨1,.of [.slice false (.rw 1) (.lit 0) (.var 4 n),.int .i64 (.var 5 a)]⟩,some ⟨1,.var 6 s⟩])=(
  (decide ((t:Int)<(n:Int))=true→decide ((0:Int)≤t)=true∧decide ((t:Int)<(n:Int))=true∧isI .u8 s (Int.toNat t)=true∧(((h:Int)==63)=true→(decide ((A1 s (Int.toNat t):Int)>1)=true→Q (.exit 0) [.ptr (.rw 0) 0,.int .u64 0,.int .i64 0,.int .u64 v,.int .i64 t,.int .u64 h] (Pv s n a))∧(decide ((A1 s (Int.toNat t):Int)>1)=false→decide ((h:Int)>0)=true∧(((A1 s (Int.toNat t):Int)==0)=true→Q (.exit 0) [.ptr (.rw 0) 0,.int .u64 0,.int .i64 0,.int .u64 v,.int .i64 t,.int .u64 h] (Pv s n a))∧(((A1 s (Int.toNat t):Int)==0)=false→decide ((0:Int)≤h)=true∧decide ((A1 s (Int.toNat t):Int)<128)=true∧Q .ret [.ptr (.rw 0) 0,.int .u64 (Gp .u64 v (Be .u64 (IntKind.wrap .u64 (P0 .u8 (A1 s (Int.toNat t)) 127)) h)),.int .i64 0,.int .u64 (Gp .u64 v (Be .u64 (IntKind.wrap .u64 (P0 .u8 (A1 s (Int.toNat t)) 127)) h)),.int .i64 (IntKind.wrap .i64 (t+1)),.int .u64 h] [some ⟨1,([.slice false (.rw 1) 0 n,.int .i64 (IntKind.wrap .i64 (t+1))]:List AV)⟩,some ⟨1,s⟩])))∧(((h:Int)==63)=false→(decide ((h:Int)>0)=true→(((A1 s (Int.toNat t):Int)==0)=true→Q (.exit 0) [.ptr (.rw 0) 0,.int .u64 0,.int .i64 0,.int .u64 v,.int .i64 t,.int .u64 h] (Pv s n a))∧(((A1 s (Int.toNat t):Int)==0)=false→decide ((0:Int)≤h)=true∧(decide ((A1 s (Int.toNat t):Int)<128)=true→Q .ret [.ptr (.rw 0) 0,.int .u64 (Gp .u64 v (Be .u64 (IntKind.wrap .u64 (P0 .u8 (A1 s (Int.toNat t)) 127)) h)),.int .i64 0,.int .u64 (Gp .u64 v (Be .u64 (IntKind.wrap .u64 (P0 .u8 (A1 s (Int.toNat t)) 127)) h)),.int .i64 (IntKind.wrap .i64 (t+1)),.int .u64 h] [some ⟨1,([.slice false (.rw 1) 0 n,.int .i64 (IntKind.wrap .i64 (t+1))]:List AV)⟩,some ⟨1,s⟩])∧
 (decide ((A1 s (Int.toNat t):Int)<128)=false→Q .normal [.ptr (.rw 0) 0,.int .u64 0,.int .i64 0,.int .u64 (Gp .u64 v (Be .u64 (IntKind.wrap .u64 (P0 .u8 (A1 s (Int.toNat t)) 127)) h)),.int .i64 (IntKind.wrap .i64 (t+1)),.int .u64 (IntKind.wrap .u64 (h+7))] (Pv s n a))))∧(decide ((h:Int)>0)=false→decide ((0:Int)≤h)=true∧(decide ((A1 s (Int.toNat t):Int)<128)=true→Q .ret [.ptr (.rw 0) 0,.int .u64 (Gp .u64 v (Be .u64 (IntKind.wrap .u64 (P0 .u8 (A1 s (Int.toNat t)) 127)) h)),.int .i64 0,.int .u64 (Gp .u64 v (Be .u64 (IntKind.wrap .u64 (P0 .u8 (A1 s (Int.toNat t)) 127)) h)),.int .i64 (IntKind.wrap .i64 (t+1)),.int .u64 h] [some ⟨1,([.slice false (.rw 1) 0 n,.int .i64 (IntKind.wrap .i64 (t+1))]:List AV)⟩,some ⟨1,s⟩])∧(decide ((A1 s (Int.toNat t):Int)<128)=false→Q .normal [.ptr (.rw 0) 0,.int .u64 0,.int .i64 0,.int .u64 (Gp .u64 v (Be .u64 (IntKind.wrap .u64 (P0 .u8 (A1 s (Int.toNat t)) 127)) h)),.int .i64 (IntKind.wrap .i64 (t+1)),.int .u64 (IntKind.wrap .u64 (h+7))] (Pv s n a)))))∧(decide ((t:Int)<(n:Int))=false→Q (.exit 0) [.ptr (.rw 0) 0,.int .u64 0,.int .i64 0,.int .u64 v,.int .i64 t,.int .u64 h] (Pv s n a))):=by kernel_rfl
def Eu (s:List AV) (t:Nat):Nat→Nat→Option (Nat×Nat)
 | 0,_=>none
 | f+1,k=>if t+k<s.length then
   if (k=9∧1<(A1 s (t+k)).toNat)∨(0<k∧(A1 s (t+k)).toNat=0) then none
   else if (A1 s (t+k)).toNat<128 then some ((A1 s (t+k)).toNat,1)
   else (Eu s t f (k+1)).map fun p=>((A1 s (t+k)).toNat % 128+128*p.1,p.2+1)
  else none
def wrd (s:List AV) (t:Nat):Option (Nat×Nat):=Eu s t 10 0
def upd (acc k:Nat) (p:Nat×Nat):Nat×Nat:=(acc+128^k*p.1,k+p.2)
def b8:AV→Bool
 | .int .u8 n=>decide (0≤n)&&decide (n≤255)
 | _=>false
def I9 (l:List AV):Bool:=l.all b8
theorem Gb {l:List AV} (h:I9 l=true) {i:Nat} (hi:i<l.length):isI .u8 l i=true∧0≤A1 l i∧A1 l i≤255:=by
 simp only [I9,xM] at h
 have:=h l[i] (List.getElem_mem hi)
 have e:=yO hi;generalize l[i]=x at this e;cases x with
 | int k n=>cases k<;>simp_all [b8,isI,A1]
 | _=>simp [b8] at this
theorem O3 {l:List AV} (h:I9 l=true):u8s l=true:=by
 simp only [I9,u8s,xM] at h ⊢;intro v hv
 have:=h v hv
 cases v with
 | int k n=>cases k<;>simp_all [b8,Fc]
 | _=>simp [b8] at this
theorem aD5 (n:Int):IntKind.u64.wrap n=n % 18446744073709551616:=by
 simp only [IntKind.wrap,IntKind.signed,IntKind.bits,Bool.false_and,Bool.false_eq_true,if_false];omega
theorem pow9 {k:Nat} (h:k≤9):128^k≤9223372036854775808:=by
 have:=Nat.pow_le_pow_right (n:=128) (by omega) h
 have e:128^9=9223372036854775808:=by decide
 omega
theorem pow8 {k:Nat} (h:k≤8):128^k≤72057594037927936:=by
 have:=Nat.pow_le_pow_right (n:=128) (by omega) h
 have e:128^8=72057594037927936:=by decide
 omega
theorem sW {k d:Nat} (h:k≤9) (hd:d<128) (h9:k=9→d≤1):d*128^k≤9223372036854775808:=by
 by_cases e:k=9
 ·subst e
  have:=h9 rfl
  have e:128^9=9223372036854775808:=by decide
  rw [e];omega
 ·have:=pow8 (k:=k) (by omega)
  have:d*128^k≤127*72057594037927936:=Nat.mul_le_mul (by omega) this
  omega
theorem and127:∀ b:BitVec 8,(b &&& 127#8).toNat=b.toNat % 128:=by decide +kernel
theorem low7 {c:Int} (h0:0≤c) (h1:c≤255):IntKind.wrap .u64 (P0 .u8 c 127)=((c.toNat % 128:Nat):Int):=by
 have e:P0 .u8 c 127=((c.toNat % 128:Nat):Int):=by
  show IntKind.u8.wrap (((BitVec.ofInt 8 c &&& BitVec.ofInt 8 127).toNat:Nat):Int)=_;have e2:BitVec.ofInt 8 127=127#8:=by decide
  rw [e2,and127,Hh,BitVec.toNat_ofInt];omega
 rw [e,Iu (by omega)]
theorem aS8 (k:Nat):(2:Int)^(7*k)=((128^k:Nat):Int):=by
 rw [Int.pow_mul]
 have:(2:Int)^7=128:=by decide
 rw [this];simp
theorem aU0 {k d:Nat} (h:k≤9) (hd:d<128) (h9:k=9→d≤1):Be .u64 (d:Int) ((7*k:Nat):Int)=((d*128^k:Nat):Int):=by
 unfold Be
 have:min ((7*k:Nat):Int).toNat IntKind.u64.bits=7*k:=by
  show min ((7*k:Nat):Int).toNat 64=7*k;omega
 rw [this,aS8,aD5]
 have:=sW h hd h9
 rw [←Int.natCast_mul];omega
theorem or_dig {k d acc:Nat} (h:k≤9) (hd:d<128) (h9:k=9→d≤1) (ha:acc<128^k):Gp .u64 (acc:Int) ((d*128^k:Nat):Int)=((acc+d*128^k:Nat):Int):=by
 have hf:=sW h hd h9;have hp:=pow9 h;show IntKind.u64.wrap (((BitVec.ofInt 64 (acc:Int) ||| BitVec.ofInt 64 ((d*128^k:Nat):Int)).toNat:Nat):Int)=_;have e1:(BitVec.ofInt 64 (acc:Int)).toNat=acc:=by rw [BitVec.toNat_ofInt];omega
 have e2:(BitVec.ofInt 64 ((d*128^k:Nat):Int)).toNat=d*128^k:=by rw [BitVec.toNat_ofInt];omega
 rw [BitVec.toNat_or,e1,e2];have e3:(128:Nat)^k=2^(7*k):=by rw [Nat.pow_mul]
 have e4:=Nat.two_pow_add_eq_or_of_lt (i:=7*k) (b:=acc) (by rw [←e3];exact ha) d;rw [←e3] at e4
 have e5:acc ||| d*128^k=acc+d*128^k:=by
  rw [Nat.or_comm,Nat.mul_comm,←e4,Nat.add_comm]
 rw [e5,Iu (by omega)]
abbrev Vz (s:List AV) (t k:Nat):Prop:=(k=9∧1<(A1 s (t+k)).toNat)∨(0<k∧(A1 s (t+k)).toNat=0)
theorem wK {s:List AV} {a k:Nat} (hk:k≤9) (h:¬a+k<s.length∨Vz s a k):Eu s a (10 - k) k=none:=by
 have e:10 - k=(9 - k)+1:=by omega
 rw [e,Eu];rcases h with h | h
 ·rw [if_neg h]
 ·by_cases hl:a+k<s.length
  ·rw [if_pos hl,if_pos h]
  ·rw [if_neg hl]
theorem Qx {s:List AV} {a k acc:Nat} (hs:wrd s a=(Eu s a (10 - k) k).map (upd acc k)) (hk:k≤9) (h:¬a+k<s.length∨Vz s a k):wrd s a=none:=by
 rw [hs,wK hk h];rfl
theorem aC6 {s:List AV} {a k acc:Nat} (hs:wrd s a=(Eu s a (10 - k) k).map (upd acc k)) (hk:k≤9) (hl:a+k<s.length) (hb:¬Vz s a k) (hc:(A1 s (a+k)).toNat<128) :
  wrd s a=some (acc+(A1 s (a+k)).toNat*128^k,k+1):=by
 have e:10 - k=(9 - k)+1:=by omega
 rw [hs,e,Eu,if_pos hl,if_neg hb,if_pos hc];simp [upd,Nat.mul_comm]
theorem kU {s:List AV} {a k acc:Nat} (hs:wrd s a=(Eu s a (10 - k) k).map (upd acc k)) (hk:k≤9) (hl:a+k<s.length) (hb:¬Vz s a k) (hc:¬(A1 s (a+k)).toNat<128) :
  k≤8∧wrd s a=(Eu s a (10 - (k+1)) (k+1)).map (upd (acc+(A1 s (a+k)).toNat % 128*128^k) (k+1)):=by
 have h8:k≤8:=by
  rcases Nat.lt_or_ge k 9 with h | h
  ·omega
  ·exfalso;apply hb;left;omega
 refine ⟨h8,?_⟩;have e:10 - k=(9 - k)+1:=by omega
 have e2:10 - (k+1)=9 - k:=by omega
 rw [hs,e,Eu,if_pos hl,if_neg hb,if_neg hc,e2,Option.map_map];congr 1;funext p;simp only [Function.comp,upd,yN];refine ⟨?_,by omega⟩;rw [Nat.pow_succ,Nat.mul_add,Nat.mul_comm (128^k) (_ % 128),Nat.mul_assoc,Nat.add_assoc]
def kA (n a:Nat):Option Blk:=some ⟨1,[.slice false (.rw 1) 0 n,.int .i64 (a:Int)]⟩
theorem pG {k acc d:Nat} (h:acc<128^k) (hd:d<128):acc+d*128^k<128^(k+1):=by
 have:d*128^k≤127*128^k:=Nat.mul_le_mul (by omega) (zA1 _)
 rw [Nat.pow_succ];omega
theorem dg02 :L6 (⟨Try.prog,G,B⟩:A0) (Dc Try.prog [] [] [] 2) []:=D7 (mix G B) (by kernel_rfl) .nil .nil
theorem rl20 (s:List AV) (n a:Nat) (hb:I9 s=true) (hn:s.length=n) (h62:n≤4611686018427387904) (ha:a≤n) :
  AWp (⟨Try.prog,G,B⟩:A0) 2 (.loop (A2 Try.f86 0)) (fl 61 [0,2,3,4,5,6] [.ptr (.rw 0) 0,.int .u64 0,.int .i64 0,.int .u64 0,.int .i64 (a:Int),.int .u64 0]) [kA n a,some ⟨1,s⟩]
   (lv 61 [0,2,3,4,5,6] fun e vs H=>(e=.exit 0∧wrd s a=none∧wk [.ptr (.rw 0) 0,.int .u64 0,.int .i64 0,.undef,.undef,.undef] vs∧H=[kA n a,some ⟨1,s⟩])
    ∨ (e=.ret∧∃ v j,wrd s a=some (v,j)∧wk [.ptr (.rw 0) 0,.int .u64 (v:Int),.int .i64 0,.undef,.undef,.undef] vs∧H=[kA n (a+j),some ⟨1,s⟩])):=by
 refine Bf (fun j vs H=>∃ k acc:Nat,k≤9∧j=9 - k∧acc<128^k∧wrd s a=(Eu s a (10 - k) k).map (upd acc k)∧vs=[.ptr (.rw 0) 0,.int .u64 0,.int .i64 0,.int .u64 (acc:Int),.int .i64 ((a+k:Nat):Int),.int .u64 ((7*k:Nat):Int)]∧H=[kA n a,some ⟨1,s⟩]) 9
  ⟨0,0,by omega,rfl,by simp,by rw [show upd 0 0=id from by funext p;simp [upd]];simp [wrd],rfl,rfl⟩ ?_
 rintro j vs H ⟨k,acc,hk,rfl,hacc,hs,rfl,rfl⟩
 refine D1 (C:=(⟨Try.prog,G,B⟩:A0)) (dg02 G B) (fuel:=200) (n0:=10) (m:=2) (c:=A2 Try.f86 0) (vs:=[.ptr (.rw 0) (.lit 0),.int .u64 (.lit 0),.int .i64 (.lit 0),.int .u64 (.var 1 (acc:Int)),.int .i64 (.var 2 ((a+k:Nat):Int)),.int .u64 (.var 3 ((7*k:Nat):Int))])
  (H:=[some ⟨1,.of [.slice false (.rw 1) (.lit 0) (.var 4 n),.int .i64 (.var 5 (a:Int))]⟩,some ⟨1,.var 6 s⟩]) (by simp) ?_
 rw [rb20,Int.toNat_natCast];have i1:IntKind.wrap .i64 (((a+k:Nat):Int)+1)=((a+k+1:Nat):Int):=by rw [B6 (by omega)];omega
 have i2:IntKind.wrap .u64 (((7*k:Nat):Int)+7)=((7*(k+1):Nat):Int):=by rw [Iu (by omega)];omega
 rw [i1,i2];by_cases hl:a+k<s.length
 ·obtain ⟨g1,g2,g3⟩:=Gb hb hl;have hc:A1 s (a+k)=((A1 s (a+k)).toNat:Int):=by omega
  have hd:(A1 s (a+k)).toNat % 128<128:=Nat.mod_lt _ (by omega);have g0:decide ((0:Int)≤((a+k:Nat):Int))=true:=yM (by omega);have g7:decide ((0:Int)≤((7*k:Nat):Int))=true:=yM (by omega);rw [low7 g2 g3]
  -- the number with one digit more
  have vals:¬Vz s a k→Gp .u64 (acc:Int) (Be .u64 (((A1 s (a+k)).toNat % 128:Nat):Int) ((7*k:Nat):Int))=((acc+(A1 s (a+k)).toNat % 128*128^k:Nat):Int):=fun hb=>by
   have h9:k=9→(A1 s (a+k)).toNat % 128≤1:=fun h=>by
    have:¬1<(A1 s (a+k)).toNat:=fun h1=>hb (.inl ⟨h,h1⟩)
    omega
   rw [aU0 hk hd h9,or_dig hk hd h9 hacc]
  have ret:¬Vz s a k→(A1 s (a+k)).toNat<128→wrd s a=some (acc+(A1 s (a+k)).toNat % 128*128^k,k+1):=fun hb hc=>by
   have:=aC6 hs hk hl hb hc
   rwa [Nat.mod_eq_of_lt hc]
  refine ⟨fun _=>⟨g0,yM (by omega),g1,fun h63=>⟨fun h=>?_,fun h=>⟨yM (by have:=eq_of_beq h63;omega),fun h0=>?_,fun h0=>?_⟩⟩,fun h63=>⟨fun hp=>⟨fun h0=>?_,fun h0=>⟨g7,fun hlt=>?_,fun hlt=>?_⟩⟩,fun hp=>⟨g7,fun hlt=>?_,fun hlt=>?_⟩⟩⟩,fun h=>absurd (yP h) (by omega)⟩
  all_goals try simp only [xE,decide_eq_false_iff_not,beq_iff_eq,beq_eq_false_iff_ne,ne_eq] at *
  ·exact .inl ⟨by trivial,Qx hs hk (.inr (.inl ⟨by omega,by omega⟩)),by simp [wk],rfl⟩
  ·exact .inl ⟨by trivial,Qx hs hk (.inr (.inr ⟨by omega,by omega⟩)),by simp [wk],rfl⟩
  ·have nb:¬Vz s a k:=by rintro (⟨_,h2⟩ | ⟨_,h2⟩)<;>omega
   rw [vals nb];exact ⟨by omega,by omega,.inr ⟨by trivial,_,_,ret nb (by omega),by simp [wk],rfl⟩⟩
  ·exact .inl ⟨by trivial,Qx hs hk (.inr (.inr ⟨by omega,by omega⟩)),by simp [wk],rfl⟩
  ·have nb:¬Vz s a k:=by rintro (⟨_,h2⟩ | ⟨_,h2⟩)<;>omega
   rw [vals nb];exact .inr ⟨by trivial,_,_,ret nb (by omega),by simp [wk],rfl⟩
  ·have nb:¬Vz s a k:=by rintro (⟨_,h2⟩ | ⟨_,h2⟩)<;>omega
   rw [vals nb];obtain ⟨n1,n2⟩:=kU hs hk hl nb (by omega);exact ⟨9 - (k+1),by omega,.inl ⟨k+1,_,by omega,rfl,pG hacc hd,n2,rfl,rfl⟩⟩
  ·have nb:¬Vz s a k:=by rintro (⟨_,h2⟩ | ⟨_,h2⟩)<;>omega
   rw [vals nb];exact .inr ⟨by trivial,_,_,ret nb (by omega),by simp [wk],rfl⟩
  ·have nb:¬Vz s a k:=by rintro (⟨_,h2⟩ | ⟨_,h2⟩)<;>omega
   rw [vals nb];obtain ⟨n1,n2⟩:=kU hs hk hl nb (by omega);exact ⟨9 - (k+1),by omega,.inl ⟨k+1,_,by omega,rfl,pG hacc hd,n2,rfl,rfl⟩⟩
 ·refine ⟨fun h=>absurd (yL h) (by omega),fun _=>.inl ⟨by trivial,Qx hs hk (.inl hl),by simp [wk],rfl⟩⟩
def Nn (xs:List AV):Bool:=match xs with
 | [.agg l,.int _ t]=>(wrd l t.toNat).isSome
 | _=>false
def B0 (xs:List AV):Int:=match xs with
 | [.agg l,.int _ t]=>match wrd l t.toNat with
  | some (v,_)=>v
  | none=>0
 | _=>0
def D3 (xs:List AV):Int:=match xs with
 | [.agg l,.int _ t]=>match wrd l t.toNat with
  | some _=>0
  | none=>4
 | _=>4
def A5 (xs:List AV):Int:=match xs with
 | [.agg l,.int _ t]=>match wrd l t.toNat with
  | some (_,j)=>((t.toNat+j:Nat):Int)
  | none=>t
 | _=>0
def okRdU (xs:List AV):Bool:=match xs with
 | [.agg l,.ptr _ n,.int _ a]=>I9 l&&(Nat.beq l.length n&&(leB n 4611686018427387904&&(decide (0≤a)&&decide (a≤(n:Int)))))
 | _=>false
structure J2 (l:List AV) (n:Nat) (a:Int):Prop where
 b:I9 l=true
 len:l.length=n
 big:n≤4611686018427387904
 pos:a=(a.toNat:Int)
 le:a.toNat≤n
theorem J9 {l:List AV} {r:Ref} {n:Nat} {k:IntKind} {a:Int}:okRdU [.agg l,.ptr r n,.int k a]=true↔J2 l n a:=by
 simp only [okRdU,zN,B2,xE];exact ⟨fun ⟨h1,h2,h3,h4,h5⟩=>⟨h1,yV h2,h3,by omega,by omega⟩,fun h=>⟨h.b,by rw [h.len];exact zA3 _,h.big,by have:=h.pos;omega,by have:=h.pos;have:=h.le;omega⟩⟩
def rL20:DL:=⟨0,61,[0,2,3,4,5,6],fun vs H=>match vs,H with
 | [.ptr (.rw 0) (.lit 0),.int .u64 (.lit 0),.int .i64 (.lit 0),.int .u64 (.lit 0),.int .i64 a,.int .u64 (.lit 0)],[some ⟨1,.of [.slice false (.rw 1) (.lit 0) n,.int .i64 b]⟩,some ⟨1,l⟩]=>
  some (.chk (.uf 1120 okRdU [.agg l,.ptr (.rw 0) n,.int .i64 a])<|.chk (.cmp .eql a b)<|.tst (.uf 1121 Nn [.agg l,.int .i64 a])
   (.one .ret [.ptr (.rw 0) (.lit 0),.int .u64 (.uf 1122 B0 [.agg l,.int .i64 a]),.int .i64 (.lit 0),.undef,.undef,.undef] [some ⟨1,.of [.slice false (.rw 1) (.lit 0) n,.int .i64 (.uf 1124 A5 [.agg l,.int .i64 a])]⟩,some ⟨1,l⟩])
   (.one (.exit 0) [.ptr (.rw 0) (.lit 0),.int .u64 (.lit 0),.int .i64 (.lit 0),.undef,.undef,.undef] [some ⟨1,.of [.slice false (.rw 1) (.lit 0) n,.int .i64 b]⟩,some ⟨1,l⟩]))
 | _,_=>none⟩
theorem aV9 :H5 (⟨Try.prog,G,B⟩:A0) 2 (A2 Try.f86 0) rL20:=by
 refine .of fun vs H o ho n Q hQ=>?_;simp only [rL20] at ho;split at ho
 ·rename_i a n b l;simp only [zK] at ho;subst ho;obtain ⟨h1,h2,h3,h4⟩:=hQ;simp only [vB,vVs,vV,vR,vN] at h1 h2 h3 h4;have ok:=J9.1 h1;have h2:vI G a=vI G b:=by simpa [Sp] using h2
  simp only [rL20,vVs,vV,vR,vN,vI,vL,B7,List.map_cons,List.map_nil,Option.map_some,D8];rw [←h2,ok.pos];refine (rl20 G B _ _ _ ok.b ok.len ok.big ok.le).lmono ?_;rintro e vs'' H'' (⟨rfl,g1,g2,rfl⟩ | ⟨rfl,v,j,g1,g2,rfl⟩)
  ·have:=h4 (by simp [Nn,g1])
   refine .inl ⟨_,g2,?_⟩;simp only [K2,vVs,vV,vR,vN,vI,vB,vL,B7,List.map_cons,List.map_nil,Option.map_some,D8] at this;rw [←h2,ok.pos] at this;exact this
  ·have:=h3 (by simp [Nn,g1])
   refine .inl ⟨_,g2,?_⟩;simp only [K2,vVs,vV,vR,vN,vI,vB,vL,B7,List.map_cons,List.map_nil,Option.map_some,D8,B0,A5,g1] at this;exact this
 ·simp at ho
theorem dgR20 :L6 (⟨Try.prog,G,B⟩:A0) (Dc Try.prog [87] [] [rL20] 2) (B5 (C6 Try.f86)):=D7 (mix G B) (by kernel_rfl) .nil (.cast (.cons (i:=0) (by kernel_rfl) rfl (aV9 G B) .nil) (by kernel_rfl))
theorem w20 (s:List AV) (n:Nat) (a:Int) (Q:Ex→List AV→Hp→Prop) (R:AV→Hp→Prop):vT G Q R (G0 (Dc Try.prog [87] [] [rL20] 2) 200 10 Try.f86 [.ptr (.rw 0) (.lit 0)] [some ⟨1,.of [.slice false (.rw 1) (.lit 0) (.var 4 n),.int .i64 (.var 5 a)]⟩,some ⟨1,.var 6 s⟩] 2)=(
  okRdU [.agg s,.ptr (.rw 0) n,.int .i64 a]=true∧((a:Int)==a)=true∧(Nn [.agg s,.int .i64 a]=true→R (.tup [.int .u64 (B0 [.agg s,.int .i64 a]),.int .i64 0]) [some ⟨1,([.slice false (.rw 1) 0 n,.int .i64 (A5 [.agg s,.int .i64 a])]:List AV)⟩,some ⟨1,s⟩])∧(Nn [.agg s,.int .i64 a]=false→R (.tup [.int .u64 0,.int .i64 4]) [some ⟨1,([.slice false (.rw 1) 0 n,.int .i64 a]:List AV)⟩,some ⟨1,s⟩])):=by kernel_rfl
theorem aV7 {l:List AV} {k:IntKind} {a:Int}:(Nn [.agg l,.int k a]=true→D3 [.agg l,.int k a]=0)∧(Nn [.agg l,.int k a]=false→D3 [.agg l,.int k a]=4∧B0 [.agg l,.int k a]=0∧A5 [.agg l,.int k a]=a):=by
 simp only [Nn,D3,B0,A5];cases wrd l a.toNat with
 | none=>exact ⟨fun h=>by simp at h,fun _=>⟨rfl,rfl,rfl⟩⟩
 | some p=>exact ⟨fun _=>rfl,fun h=>by simp at h⟩
theorem read20 (s:List AV) (n:Nat) (a:Int) (h:okRdU [.agg s,.ptr (.rw 0) n,.int .i64 a]=true):ACalls (⟨Try.prog,G,B⟩:A0) 86 [.ptr (.rw 0) 0] [some ⟨1,[.slice false (.rw 1) 0 n,.int .i64 a]⟩,some ⟨1,s⟩]
  fun v' H'=>v'=.tup [.int .u64 (B0 [.agg s,.int .i64 a]),.int .i64 (D3 [.agg s,.int .i64 a])]∧H'=[some ⟨1,[.slice false (.rw 1) 0 n,.int .i64 (A5 [.agg s,.int .i64 a])]⟩,some ⟨1,s⟩]:=by
 have hf:∀ j,A3 j s=true:=fun j=>C4 (O3 (J9.1 h).b)
 have key:=C1 (C:=(⟨Try.prog,G,B⟩:A0)) (fn:=Try.f86) (f:=86) (R:=fun v' H'=>v'=.tup [.int .u64 (B0 [.agg s,.int .i64 a]),.int .i64 (D3 [.agg s,.int .i64 a])]∧H'=[some ⟨1,[.slice false (.rw 1) 0 n,.int .i64 (A5 [.agg s,.int .i64 a])]⟩,some ⟨1,s⟩])
  (dgR20 G B) (by kernel_rfl) (by kernel_rfl) (by kernel_rfl) (fuel:=200) (n0:=10) (keep:=2) (args:=[.ptr (.rw 0) (.lit 0)]) (H:=[some ⟨1,.of [.slice false (.rw 1) (.lit 0) (.var 4 n),.int .i64 (.var 5 a)]⟩,some ⟨1,.var 6 s⟩]) (by
  rw [w20];obtain ⟨g1,g2⟩:=aV7 (l:=s) (k:=.i64) (a:=a);refine ⟨h,beq_self_eq_true a,fun hk=>?_,fun hk=>?_⟩
  ·rw [g1 hk];exact ⟨rfl,rfl⟩
  ·obtain ⟨e1,e2,e3⟩:=g2 hk
   rw [e1,e2,e3];exact ⟨rfl,rfl⟩)
 exact ACalls.keep (H:=[some ⟨1,[.slice false (.rw 1) 0 n,.int .i64 a]⟩,some ⟨1,s⟩]) key (by simp) (by simp [H9,A3,A8,hf]) (by simp [A8,A3]) (by simp)
def readS:DSum:=fun xs H=>match xs with
 | [.ptr (.rw i) (.lit 0)]=>match H[i]? with
  | some (some ⟨1,.of [.slice false (.rw m) (.lit 0) n,.int .i64 a]⟩)=>match H[m]? with
   | some (some ⟨1,l⟩)=>match Nat.beq i m with
    | true=>none
    | false=>some (.chk (.uf 1120 okRdU [.agg l,.ptr (.rw 0) n,.int .i64 a]) (.one (.tup [.int .u64 (.uf 1122 B0 [.agg l,.int .i64 a]),.int .i64 (.uf 1123 D3 [.agg l,.int .i64 a])]) [.set i ⟨1,.of [.slice false (.rw m) (.lit 0) n,.int .i64 (.uf 1124 A5 [.agg l,.int .i64 a])]⟩]))
   | _=>none
  | _=>none
 | _=>none
theorem mC :D4 (⟨Try.prog,G,B⟩:A0) 86 readS:=by
 intro xs H o ho;simp only [readS] at ho;split at ho
 ·rename_i i;split at ho
  ·rename_i m n a hi;split at ho
   ·rename_i l hm;split at ho
    ·simp at ho
    ·rename_i him;have him:i≠m:=fun h=>by rw [h,zA3] at him;simp at him
     simp only [zK] at ho;subst ho;intro h1;simp only [vB,vVs,vV,vR,vN] at h1;have hf:∀ j,A3 j (vL G l)=true:=fun j=>C4 (O3 (J9.1 h1).b);have key:=read20 G B (vL G l) (vN G n) (vI G a) h1;refine E0.fr (θ:=[i,m]) (by simp [him]) rfl (fun k b hk=>?_) (by simp [A3,A8]) (by simp [vVs,vV,vR,vN,rens,C0]) key (by simp) (by simp [A8,A3]) (by simp [H9,hf,A3,A8]) (by simp [vV,vVs,vI,C0,rens]) ?_
     ·match k with
      | 0=>simp at hk;subst hk;exact ⟨_,rfl,by simp [A3,A8],by simpa [K3,D8,vL,vVs,vV,vR,vN,rens,C0] using I3 (G:=G) hi⟩
      | 1=>simp at hk;subst hk;exact ⟨_,rfl,hf _,by simpa [K3,D8,B9 _ _ (hf 0)] using I3 (G:=G) hm⟩
      | k+2=>simp at hk
     ·have hs:=Gd (G:=G) hm;simp only [D8] at hs;simp only [List.map_cons,List.map_nil,acts,Hop.act,J6,D8,X3,lay,R9,K3,Option.map_some,B9 _ _ (hf 0),List.length_cons,List.length_nil,List.drop_succ_cons,List.drop_nil,List.append_nil,vL,vVs,vV,vR,vN,vI];rw [List.set_comm _ _ him,hs];simp [rens,C0,N7]
   ·simp at ho
  ·simp at ho
 ·simp at ho
end
end Go.Am
