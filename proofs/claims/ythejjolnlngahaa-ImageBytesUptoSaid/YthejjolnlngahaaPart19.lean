/-
  Images as files: a file is read: both lists taken. Images as files: a file is read: the rest of Read, its tree.
-/
import Derived.Test.YthejjolnlngahaaPart18
import Derived.Test.YthejjolnlngahaaBase5
import Derived.TacticsInMore
import Derived.Test.YthejjolnlngahaaPart14
namespace Go.Am
open Go.Proofs
set_option maxRecDepth 100000
theorem hT {ρ:Env} {r:Ref} {o n:Nat} {v cv:AV} {c:Value} (h:VR ρ (.tup [.slice false r o n,v]) c):VR ρ (.tup [.slice true r o n,v]) c:=by
 simp only [VR] at h ⊢;obtain ⟨vs,e,hs⟩:=h;simp only [VRs] at hs;obtain ⟨x,ys,e1,e2,e3⟩:=hs;simp only [VRs];exact ⟨vs,e,x,ys,e1,by have:=N3 (ρ:=ρ) (v:=x) (mb:=false) (by simpa only [VR] using e2);simpa only [VR] using this,e3⟩
theorem zN (G:Nat→List AV) (B:Nat) (ks kp n m a N:Nat) (s rest:List AV) (h:Ef G (G ks) n) (hB:mI (G ks) n) (hw:W0 G ks kp n m) (hs:s.drop a=fN (n:Int)++(A9 G (G ks) n++rest)) (hl:s.length=N) (hN:N≤1000000) (h8:V5 s=true) (hp:a≤N) :
  ACalls (⟨Try.prog,G,B⟩:A2) 63 [.ptr (.rw 0) 0,.int .i64 8,.func 64 []] [some ⟨1,[.slice false (.rw 1) 0 N,.int .i64 (a:Int)]⟩,some ⟨1,s⟩] fun v H=>v=.tup [.slice true (.ro ks) 0 n,.int .i64 0]∧H=[some ⟨1,[.slice false (.rw 1) 0 N,.int .i64 ((a+(fN (n:Int)).length+(A9 G (G ks) n).length:Nat):Int)]⟩,some ⟨1,s⟩]:=by
 have us:∀ j,A4 j s=true:=fun j=>B7 (W8 h8);have h88:=h.le8
 have lw:N - a=(fN (n:Int)).length+((A9 G (G ks) n).length+rest.length):=by
  have:=congrArg List.length hs
  rw [List.length_drop,hl] at this;simp only [List.length_append] at this;exact this
 obtain ⟨r1e,r1v,r1a⟩:=Jf (x:=(n:Int)) (K4.2 (by omega)) hs
 have l0:H5 (⟨Try.prog,G,B⟩:A2) 2 (A5 Try.f63 0) (F9 2515 (F8 [.ptr (.rw 0) 0,.func 64 [],.nils,.int .i64 0,.int .i64 (a:Int),.int .i64 (n:Int),.int .i64 0,.slice false (.rw 2) 0 0,.int .i64 0] [some ⟨1,[.slice false (.rw 1) 0 N,.int .i64 ((a+(fN (n:Int)).length:Nat):Int)]⟩,some ⟨1,s⟩,some ⟨4,[]⟩]) 0 59 [0,2,6,7,8,9,10,11,12] (.one (.exit 0) [.ptr (.rw 0) (.lit 0),.func 64 [],.nils,.int .i64 (.lit 0),.int .i64 (.var 8 (a:Int)),.int .i64 (.ofN (.var 2 n)),.int .i64 (.lit 0),.slice false (.ro (.var 24 ks)) (.lit 0) (.var 2 n),.int .i64 (.ofN (.var 2 n))] [some ⟨1,.of [.slice false (.rw 1) (.lit 0) (.var 4 N),.int .i64 (.var 7 ((a+(fN (n:Int)).length+(A9 G (G ks) n).length:Nat):Int))]⟩,some ⟨1,.var 6 s⟩,none])):=by
  exact Cr rfl ((rU G B ks kp n m (a+(fN (n:Int)).length) N (a:Int) s rest h hB hw (O6 hs) hl hN h8 (by omega)).lmono fun e vs H ⟨h1,h2,h3⟩=>⟨h1,.inl ⟨by rw [h2];exact Ks _,h3⟩⟩)
 have key:=C7 (C:=(⟨Try.prog,G,B⟩:A2)) (f:=63) (fn:=Try.f63) (K:=Dc Try.prog [87,88] progR [F9 2515 (F8 [.ptr (.rw 0) 0,.func 64 [],.nils,.int .i64 0,.int .i64 (a:Int),.int .i64 (n:Int),.int .i64 0,.slice false (.rw 2) 0 0,.int .i64 0] [some ⟨1,[.slice false (.rw 1) 0 N,.int .i64 ((a+(fN (n:Int)).length:Nat):Int)]⟩,some ⟨1,s⟩,some ⟨4,[]⟩]) 0 59 [0,2,6,7,8,9,10,11,12] (.one (.exit 0) [.ptr (.rw 0) (.lit 0),.func 64 [],.nils,.int .i64 (.lit 0),.int .i64 (.var 8 (a:Int)),.int .i64 (.ofN (.var 2 n)),.int .i64 (.lit 0),.slice false (.ro (.var 24 ks)) (.lit 0) (.var 2 n),.int .i64 (.ofN (.var 2 n))] [some ⟨1,.of [.slice false (.rw 1) (.lit 0) (.var 4 N),.int .i64 (.var 7 ((a+(fN (n:Int)).length+(A9 G (G ks) n).length:Nat):Int))]⟩,some ⟨1,.var 6 s⟩,none])] 2) (R:=fun v H=>v=.tup [.slice false (.ro ks) 0 n,.int .i64 0]∧H=[some ⟨1,[.slice false (.rw 1) 0 N,.int .i64 ((a+(fN (n:Int)).length+(A9 G (G ks) n).length:Nat):Int)]⟩,some ⟨1,s⟩]) (D3 (mix G B) (by kernel_rfl) (Ci G B) (.cast (.cons (i:=0) (by kernel_rfl) rfl l0 .nil) (by kernel_rfl))) (by kernel_rfl) (by kernel_rfl) (by kernel_rfl) (fuel:=300) (n0:=20) (keep:=2) (args:=[.ptr (.rw 0) (.lit 0),.int .i64 (.lit 8),.func 64 []]) (H:=[some ⟨1,.of [.slice false (.rw 1) (.lit 0) (.var 4 N),.int .i64 (.var 5 (a:Int))]⟩,some ⟨1,.var 6 s⟩]) (by
  rw [t63];simp only [r1e,r1v,r1a];rw [C4 (n:=(n:Int)) (by omega)]
  exact ⟨cY h8 hl hN hp,fun _=>⟨fun hh=>absurd (of_decide_eq_true hh) (by omega),fun _=>⟨rfl,G3,trivial,trivial⟩⟩,fun hh=>absurd hh (by decide)⟩)
 have k2:=ACalls.keep (H:=[some ⟨1,[.slice false (.rw 1) 0 N,.int .i64 (a:Int)]⟩,some ⟨1,s⟩]) (H1:=[some ⟨1,[.slice false (.rw 1) 0 N,.int .i64 ((a+(fN (n:Int)).length+(A9 G (G ks) n).length:Nat):Int)]⟩,some ⟨1,s⟩]) key (by simp) (by simp [J5,A4,A8,us]) (by simp [A8,A4]) (by simp);exact k2.conv fun v H ⟨e1,e2⟩=>⟨_,⟨rfl,e2⟩,fun ρ cv hv=>by rw [e1] at hv;exact hT (cv:=.undef) hv⟩
theorem zO (G:Nat→List AV) (B:Nat) (ks kp n m a N:Nat) (s rest:List AV) (h:Ub (G kp) m) (hB:uO (G kp) m) (hw:W0 G ks kp n m) (hs:s.drop a=fN (m:Int)++(B1 (G kp) m++rest)) (hl:s.length=N) (hN:N≤1000000) (h8:V5 s=true) (hp:a≤N) :
  ACalls (⟨Try.prog,G,B⟩:A2) 66 [.ptr (.rw 0) 0,.int .i64 512,.func 67 []] [some ⟨1,[.slice false (.rw 1) 0 N,.int .i64 (a:Int)]⟩,some ⟨1,s⟩] fun v H=>v=.tup [.slice true (.ro kp) 0 m,.int .i64 0]∧H=[some ⟨1,[.slice false (.rw 1) 0 N,.int .i64 ((a+(fN (m:Int)).length+(B1 (G kp) m).length:Nat):Int)]⟩,some ⟨1,s⟩]:=by
 have us:∀ j,A4 j s=true:=fun j=>B7 (W8 h8);have h88:=h.le
 have lw:N - a=(fN (m:Int)).length+((B1 (G kp) m).length+rest.length):=by
  have:=congrArg List.length hs
  rw [List.length_drop,hl] at this;simp only [List.length_append] at this;exact this
 obtain ⟨r1e,r1v,r1a⟩:=Jf (x:=(m:Int)) (K4.2 (by omega)) hs
 have l0:H5 (⟨Try.prog,G,B⟩:A2) 2 (A5 Try.f66 0) (F9 2515 (F8 [.ptr (.rw 0) 0,.func 67 [],.nils,.int .i64 0,.int .i64 (a:Int),.int .i64 (m:Int),.int .i64 0,.slice false (.rw 2) 0 0,.int .i64 0] [some ⟨1,[.slice false (.rw 1) 0 N,.int .i64 ((a+(fN (m:Int)).length:Nat):Int)]⟩,some ⟨1,s⟩,some ⟨2,[]⟩]) 0 59 [0,2,6,7,8,9,10,11,12] (.one (.exit 0) [.ptr (.rw 0) (.lit 0),.func 67 [],.nils,.int .i64 (.lit 0),.int .i64 (.var 8 (a:Int)),.int .i64 (.ofN (.var 2 m)),.int .i64 (.lit 0),.slice false (.ro (.var 24 kp)) (.lit 0) (.var 2 m),.int .i64 (.ofN (.var 2 m))] [some ⟨1,.of [.slice false (.rw 1) (.lit 0) (.var 4 N),.int .i64 (.var 7 ((a+(fN (m:Int)).length+(B1 (G kp) m).length:Nat):Int))]⟩,some ⟨1,.var 6 s⟩,none])):=by
  exact Cr rfl ((rV G B ks kp n m (a+(fN (m:Int)).length) N (a:Int) s rest h hB hw (O6 hs) hl hN h8 (by omega)).lmono fun e vs H ⟨h1,h2,h3⟩=>⟨h1,.inl ⟨by rw [h2];exact Ks _,h3⟩⟩)
 have key:=C7 (C:=(⟨Try.prog,G,B⟩:A2)) (f:=66) (fn:=Try.f66) (K:=Dc Try.prog [87,88] progR [F9 2515 (F8 [.ptr (.rw 0) 0,.func 67 [],.nils,.int .i64 0,.int .i64 (a:Int),.int .i64 (m:Int),.int .i64 0,.slice false (.rw 2) 0 0,.int .i64 0] [some ⟨1,[.slice false (.rw 1) 0 N,.int .i64 ((a+(fN (m:Int)).length:Nat):Int)]⟩,some ⟨1,s⟩,some ⟨2,[]⟩]) 0 59 [0,2,6,7,8,9,10,11,12] (.one (.exit 0) [.ptr (.rw 0) (.lit 0),.func 67 [],.nils,.int .i64 (.lit 0),.int .i64 (.var 8 (a:Int)),.int .i64 (.ofN (.var 2 m)),.int .i64 (.lit 0),.slice false (.ro (.var 24 kp)) (.lit 0) (.var 2 m),.int .i64 (.ofN (.var 2 m))] [some ⟨1,.of [.slice false (.rw 1) (.lit 0) (.var 4 N),.int .i64 (.var 7 ((a+(fN (m:Int)).length+(B1 (G kp) m).length:Nat):Int))]⟩,some ⟨1,.var 6 s⟩,none])] 2) (R:=fun v H=>v=.tup [.slice false (.ro kp) 0 m,.int .i64 0]∧H=[some ⟨1,[.slice false (.rw 1) 0 N,.int .i64 ((a+(fN (m:Int)).length+(B1 (G kp) m).length:Nat):Int)]⟩,some ⟨1,s⟩]) (D3 (mix G B) (by kernel_rfl) (Ci G B) (.cast (.cons (i:=0) (by kernel_rfl) rfl l0 .nil) (by kernel_rfl))) (by kernel_rfl) (by kernel_rfl) (by kernel_rfl) (fuel:=300) (n0:=20) (keep:=2) (args:=[.ptr (.rw 0) (.lit 0),.int .i64 (.lit 512),.func 67 []]) (H:=[some ⟨1,.of [.slice false (.rw 1) (.lit 0) (.var 4 N),.int .i64 (.var 5 (a:Int))]⟩,some ⟨1,.var 6 s⟩]) (by
  rw [t66];simp only [r1e,r1v,r1a];rw [C4 (n:=(m:Int)) (by omega)]
  exact ⟨cY h8 hl hN hp,fun _=>⟨fun hh=>absurd (of_decide_eq_true hh) (by omega),fun _=>⟨rfl,G3,trivial,trivial⟩⟩,fun hh=>absurd hh (by decide)⟩)
 have k2:=ACalls.keep (H:=[some ⟨1,[.slice false (.rw 1) 0 N,.int .i64 (a:Int)]⟩,some ⟨1,s⟩]) (H1:=[some ⟨1,[.slice false (.rw 1) 0 N,.int .i64 ((a+(fN (m:Int)).length+(B1 (G kp) m).length:Nat):Int)]⟩,some ⟨1,s⟩]) key (by simp) (by simp [J5,A4,A8,us]) (by simp [A8,A4]) (by simp);exact k2.conv fun v H ⟨e1,e2⟩=>⟨_,⟨rfl,e2⟩,fun ρ cv hv=>by rw [e1] at hv;exact hT (cv:=.undef) hv⟩
open Classical in
noncomputable def Kk (s:List AV) (N:Nat) (a:Int) (rest:List AV):List AV→Bool:=fun xs=>decide (xs=[.agg s,.ptr (.rw 0) N,.int .i64 a,.agg rest])
def Ka (j:Nat) (q:List AV→Bool) (x:EV) (a2:EI):DSum:=fun xs H=>match xs with
 | .ptr (.rw i) (.lit 0)::rest=>match H[i]? with
  | some (some ⟨1,.of [.slice false (.rw m) (.lit 0) n,.int .i64 a]⟩)=>match H[m]? with
   | some (some ⟨1,l⟩)=>match Nat.beq i m with
    | true=>none
    | false=>some (.chk (.uf j q [.agg l,.ptr (.rw 0) n,.int .i64 a,.agg (.of rest)]) (.one x [.set i ⟨1,.of [.slice false (.rw m) (.lit 0) n,.int .i64 a2]⟩]))
   | _=>none
  | _=>none
 | _=>none
theorem hZ {C:A2} {f j:Nat} {q:List AV→Bool} {x:EV} {a2:EI} {s:List AV} {N:Nat} {a:Int} {rest0:List AV} (hq:q=Kk s N a rest0) (h8:V5 s=true) (hr:A4 0 rest0=true) (hv:A8 0 (vV C.G x)=true)
  (key:ACalls C f (.ptr (.rw 0) 0::rest0) [some ⟨1,[.slice false (.rw 1) 0 N,.int .i64 a]⟩,some ⟨1,s⟩] fun v' H'=>v'=vV C.G x∧H'=[some ⟨1,[.slice false (.rw 1) 0 N,.int .i64 (vI C.G a2)]⟩,some ⟨1,s⟩]):C5 C f (Ka j q x a2):=by
 intro xs H o ho;simp only [Ka] at ho;split at ho
 ·rename_i i rest;split at ho
  ·rename_i m n a' hi;split at ho
   ·rename_i l hm;split at ho
    ·simp at ho
    ·rename_i him;have him:i≠m:=fun h=>by rw [h,Nat.beq_refl] at him;simp at him
     simp only [Option.some.injEq] at ho;subst ho;intro h1;simp only [vB,vVs,vV,vR,vN,vL,hq,Kk,decide_eq_true_eq,List.cons.injEq,AV.agg.injEq,AV.ptr.injEq,AV.int.injEq,true_and,and_true] at h1;obtain ⟨e1,e2,e3,e4⟩:=h1;refine E0.reader (C:=C) (rest:=rest) him hi hm (fun j=>by rw [e1];exact B7 (W8 h8)) (by rw [e4];exact hr) hv ?_;rw [e1,e2,e3,e4];exact key
   ·simp at ho
  ·simp at ho
 ·simp at ho
end Go.Am
namespace Go.Am
open Go.Proofs
set_option maxRecDepth 100000
theorem t29 (G:Nat→List AV) (q1 q2 q3:List AV→Bool) (ks kp n m L:Nat) (x1 x2:Int) (l f:List AV) (Q:Ex→List AV→Hp→Prop) (R:AV→Hp→Prop):vT G Q R (E8 (Dc Try.prog [59,42,60,61,85,62,65,69,68,70,87,92] ([(63,Ka 2516 (q1) (.tup [.slice true (.ro (.var 24 ks)) (.lit 0) (.var 3 n),.int .i64 (.lit 0)]) (.var 11 x1)),(66,Ka 2517 (q2) (.tup [.slice true (.ro (.var 25 kp)) (.lit 0) (.var 4 m),.int .i64 (.lit 0)]) (.var 12 x2)),(28,X3 2518 (q3) (.var 21 f))]++progR) [] 1) 400 30 1 (I2 (I2 (B4 Try.f29))) 55 [0,2,3] [.slice false (.rw 0) (.lit 0) (.var 5 L),.ptr (.rw 1) (.lit 0),.ptr (.rw 2) (.lit 0)] [some ⟨1,.var 20 l⟩,some ⟨1,.of [.int .i64 (.lit 0),.nils,.nils]⟩,some ⟨1,.of [.int .i64 (.lit 0)]⟩])=(
  decide ((0:Int)≤(if 0>IntKind.wrap .i64 (((L:Nat):Int) - 4) then 0 else IntKind.wrap .i64 (((L:Nat):Int) - 4)))=true∧decide (((if 0>IntKind.wrap .i64 (((L:Nat):Int) - 4) then 0 else IntKind.wrap .i64 (((L:Nat):Int) - 4)):Int)≤((L:Nat):Int))=true∧(decide ((((Int.toNat ((if 0>IntKind.wrap .i64 (((L:Nat):Int) - 4) then 0 else IntKind.wrap .i64 (((L:Nat):Int) - 4))):Nat):Int):Int)≥4)=true→decide ((4:Int)≤((Int.toNat ((if 0>IntKind.wrap .i64 (((L:Nat):Int) - 4) then 0 else IntKind.wrap .i64 (((L:Nat):Int) - 4))):Nat):Int))=true∧leB (4) (List.length l)=true∧u8s (A7 l (0) (4))=true∧u8s ([.int .u8 (83),.int .u8 (84),.int .u8 (68),.int .u8 (1)]:List AV)=true∧((((O4 (A7 l (0) (4))):List UInt8)==(O4 ([.int .u8 (83),.int .u8 (84),.int .u8 (68),.int .u8 (1)]:List AV)))=true→decide ((4:Int)≤(if 0>IntKind.wrap .i64 (((L:Nat):Int) - 4) then 0 else IntKind.wrap .i64 (((L:Nat):Int) - 4)))=true∧decide (((if 0>IntKind.wrap .i64 (((L:Nat):Int) - 4) then 0 else IntKind.wrap .i64 (((L:Nat):Int) - 4)):Int)≤((L:Nat):Int))=true∧decide ((0:Int)≤IntKind.wrap .i64 ((((Int.toNat ((if 0>IntKind.wrap .i64 (((L:Nat):Int) - 4) then 0 else IntKind.wrap .i64 (((L:Nat):Int) - 4)))) - (4):Nat):Int)+1))=true∧decide ((Yo 1 [.int .i64 (IntKind.wrap .i64 ((((Int.toNat ((if 0>IntKind.wrap .i64 (((L:Nat):Int) - 4) then 0 else IntKind.wrap .i64 (((L:Nat):Int) - 4)))) - (4):Nat):Int)+1))]:Int)≤140737488355328)=true∧decide ((IntKind.wrap .i64 ((((Int.toNat ((if 0>IntKind.wrap .i64 (((L:Nat):Int) - 4) then 0 else IntKind.wrap .i64 (((L:Nat):Int) - 4)))) - (4):Nat):Int)+1):Int)≤140737488355328)=true∧leB (4+((Int.toNat ((if 0>IntKind.wrap .i64 (((L:Nat):Int) - 4) then 0 else IntKind.wrap .i64 (((L:Nat):Int) - 4)))) - (4))) (List.length l)=true∧
 cellsB (A7 l (4) ((Int.toNat ((if 0>IntKind.wrap .i64 (((L:Nat):Int) - 4) then 0 else IntKind.wrap .i64 (((L:Nat):Int) - 4)))) - (4)))=true∧leB ((Int.toNat ((if 0>IntKind.wrap .i64 (((L:Nat):Int) - 4) then 0 else IntKind.wrap .i64 (((L:Nat):Int) - 4)))) - (4)) (140737488355328)=true∧okRdU [.agg (A7 l (4) ((Int.toNat ((if 0>IntKind.wrap .i64 (((L:Nat):Int) - 4) then 0 else IntKind.wrap .i64 (((L:Nat):Int) - 4)))) - (4))),.ptr (.rw 0) ((Int.toNat ((if 0>IntKind.wrap .i64 (((L:Nat):Int) - 4) then 0 else IntKind.wrap .i64 (((L:Nat):Int) - 4)))) - (4)),.int .i64 (0)]=true∧(((I6 [.agg (A7 l (4) ((Int.toNat ((if 0>IntKind.wrap .i64 (((L:Nat):Int) - 4) then 0 else IntKind.wrap .i64 (((L:Nat):Int) - 4)))) - (4))),.int .i64 (0)]:Int)==0)=true→(decide ((C0 [.agg (A7 l (4) ((Int.toNat ((if 0>IntKind.wrap .i64 (((L:Nat):Int) - 4) then 0 else IntKind.wrap .i64 (((L:Nat):Int) - 4)))) - (4))),.int .i64 (0)]:Int)>131072)=true→False)∧(decide ((C0 [.agg (A7 l (4) ((Int.toNat ((if 0>IntKind.wrap .i64 (((L:Nat):Int) - 4) then 0 else IntKind.wrap .i64 (((L:Nat):Int) - 4)))) - (4))),.int .i64 (0)]:Int)>131072)=false→(q1) [.agg (A7 l (4) ((Int.toNat ((if 0>IntKind.wrap .i64 (((L:Nat):Int) - 4) then 0 else IntKind.wrap .i64 (((L:Nat):Int) - 4)))) - (4))),.ptr (.rw 0) ((Int.toNat ((if 0>IntKind.wrap .i64 (((L:Nat):Int) - 4) then 0 else IntKind.wrap .i64 (((L:Nat):Int) - 4)))) - (4)),.int .i64 (B3 [.agg (A7 l (4) ((Int.toNat ((if 0>IntKind.wrap .i64 (((L:Nat):Int) - 4) then 0 else IntKind.wrap .i64 (((L:Nat):Int) - 4)))) - (4))),.int .i64 (0)]),.agg ([.int .i64 (8),.func 64 []]:List AV)]=true∧
 (q2) [.agg (A7 l (4) ((Int.toNat ((if 0>IntKind.wrap .i64 (((L:Nat):Int) - 4) then 0 else IntKind.wrap .i64 (((L:Nat):Int) - 4)))) - (4))),.ptr (.rw 0) ((Int.toNat ((if 0>IntKind.wrap .i64 (((L:Nat):Int) - 4) then 0 else IntKind.wrap .i64 (((L:Nat):Int) - 4)))) - (4)),.int .i64 (x1),.agg ([.int .i64 (512),.func 67 []]:List AV)]=true∧(decide ((IntKind.wrap .i64 ((((Int.toNat ((if 0>IntKind.wrap .i64 (((L:Nat):Int) - 4) then 0 else IntKind.wrap .i64 (((L:Nat):Int) - 4)))) - (4):Nat):Int) - x2):Int)>0)=true→False)∧(decide ((IntKind.wrap .i64 ((((Int.toNat ((if 0>IntKind.wrap .i64 (((L:Nat):Int) - 4) then 0 else IntKind.wrap .i64 (((L:Nat):Int) - 4)))) - (4):Nat):Int) - x2):Int)>0)=false→(q3) [.agg ([.agg ([.int .i64 (IntKind.wrap .i64 (C0 [.agg (A7 l (4) ((Int.toNat ((if 0>IntKind.wrap .i64 (((L:Nat):Int) - 4) then 0 else IntKind.wrap .i64 (((L:Nat):Int) - 4)))) - (4))),.int .i64 (0)])),.slice true (.ro (ks)) (0) (n),.slice true (.ro (kp)) (0) (m)]:List AV)]:List AV),.agg ([]:List AV)]=true∧leB (List.length f) (List.length f)=true∧u8s (A7 f (0) (List.length f))=true∧leB (L) (List.length l)=true∧u8s (A7 l (0) (L))=true∧((((O4 (A7 f (0) (List.length f))):List UInt8)==(O4 (A7 l (0) (L))))=true→
 Q .ret [.slice false (.rw 0) (0) (L),.ptr (.rw 1) (0),.ptr (.rw 2) (0)] [some ⟨1,l⟩,some ⟨1,([.int .i64 (IntKind.wrap .i64 (C0 [.agg (A7 l (4) ((Int.toNat ((if 0>IntKind.wrap .i64 (((L:Nat):Int) - 4) then 0 else IntKind.wrap .i64 (((L:Nat):Int) - 4)))) - (4))),.int .i64 (0)])),.slice true (.ro (ks)) (0) (n),.slice true (.ro (kp)) (0) (m)]:List AV)⟩,some ⟨1,([.int .i64 (0)]:List AV)⟩,some ⟨1,([.int .u8 (83),.int .u8 (84),.int .u8 (68),.int .u8 (1)]:List AV)⟩,none,some ⟨1,(A7 l (4) ((Int.toNat ((if 0>IntKind.wrap .i64 (((L:Nat):Int) - 4) then 0 else IntKind.wrap .i64 (((L:Nat):Int) - 4)))) - (4)))⟩,some ⟨1,([.slice false (.rw 5) (0) ((Int.toNat ((if 0>IntKind.wrap .i64 (((L:Nat):Int) - 4) then 0 else IntKind.wrap .i64 (((L:Nat):Int) - 4)))) - (4)),.int .i64 (x2)]:List AV)⟩,some ⟨1,f⟩])∧((((O4 (A7 f (0) (List.length f))):List UInt8)==(O4 (A7 l (0) (L))))=false→False))))∧(((I6 [.agg (A7 l (4) ((Int.toNat ((if 0>IntKind.wrap .i64 (((L:Nat):Int) - 4) then 0 else IntKind.wrap .i64 (((L:Nat):Int) - 4)))) - (4))),.int .i64 (0)]:Int)==0)=false→False))∧((((O4 (A7 l (0) (4))):List UInt8)==(O4 ([.int .u8 (83),.int .u8 (84),.int .u8 (68),.int .u8 (1)]:List AV)))=false→False))∧(decide ((((Int.toNat ((if 0>IntKind.wrap .i64 (((L:Nat):Int) - 4) then 0 else IntKind.wrap .i64 (((L:Nat):Int) - 4))):Nat):Int):Int)≥4)=false→False)):=by kernel_rfl
end Go.Am
namespace Go.Am
open Go.Proofs Crc
set_option maxRecDepth 100000
theorem Zv {s:List AV} {N:Nat} {a:Int} {rest:List AV}:Kk s N a rest [.agg s,.ptr (.rw 0) N,.int .i64 a,.agg rest]=true:=by simp [Kk]
def G8 (G:Nat→List AV) (s:Int) (cs:List AV) (n:Nat) (ps:List AV) (m:Nat):List AV:=fN s++(fN (n:Int)++(A9 G cs n++(fN (m:Int)++B1 ps m)))
theorem aG {G:Nat→List AV} {s:Int} {cs ps:List AV} {n m:Nat}:Y0 G s cs n ps m=magL++G8 G s cs n ps m:=by
 simp only [Y0,G8,List.append_assoc]
theorem Eb {a b:List AV}:V5 (a++b)=(V5 a&&V5 b):=by simp only [V5,List.all_append]
theorem Jx:∀ (a:List UInt8),V5 (A3 a)=true
 | []=>rfl
 | x::a=>by
  have:=Jx a
  have h:=x.toNat_lt;simp only [V5,A3,List.map_cons,List.all_cons,Bool.and_eq_true] at this ⊢;refine ⟨?_,this⟩;simp only [b8,Bool.and_eq_true,decide_eq_true_eq];omega
theorem zB {b:List Nat} (h:fR b):V5 (Av b)=true:=by
 simp only [V5,Av,List.all_map,List.all_eq_true];intro x hx
 have:=h x hx
 simp only [Function.comp,b8,Bool.and_eq_true,decide_eq_true_eq];omega
theorem iD {G:Nat→List AV} {cs:List AV}:∀ {n:Nat},(∀ j,j<n→V5 (H9 G cs j)=true)→V5 (A9 G cs n)=true
 | 0,_=>rfl
 | n+1,h=>by
  rw [A9,Eb,iD (n:=n) fun j hj=>h j (by omega),Cw,O7];simp only [Eb,fN,Jx,h n (by omega),Bool.and_self]
theorem dE {ps:List AV}:∀ {n:Nat},V5 (B1 ps n)=true
 | 0=>rfl
 | n+1=>by
  rw [B1,Eb,dE (n:=n),X5,V7,Eb,fN,Jx];cases hP ps n<;>decide
theorem wR {G:Nat→List AV} {s:Int} {ks kp n m:Nat} (hb:Eh G ks kp n m):V5 (G8 G s (G ks) n (G kp) m)=true:=by
 simp only [G8,Eb,fN,Jx,dE,Bool.and_true,Bool.true_and];refine iD fun j hj=>?_;obtain ⟨b,h1,h2⟩:=hb.dat j hj;rw [h2];exact zB h1
theorem fD {G:Nat→List AV} {s:Int} {cs ps:List AV} {n m:Nat}:D1 G s cs n ps m=magL++(G8 G s cs n ps m++sum4 (Qe (Y0 G s cs n ps m))):=by
 rw [D1,aG,List.append_assoc]
theorem xQ (G:Nat→List AV) (B:Nat) (ks kp n m:Nat) (s:Int) (hb:Eh G ks kp n m) (hw:W0 G ks kp n m) (hn:n≤1000000) (hm:m≤1000000) (hy:I7 s (G ks) n (G kp) m=true) :
  DGood (⟨Try.prog,G,B⟩:A2) (Dc Try.prog [59,42,60,61,85,62,65,69,68,70,87,92] ([(63,Ka 2516 (Kk (G8 G s (G ks) n (G kp) m) ((G8 G s (G ks) n (G kp) m)).length (((fN s).length:Nat):Int) [.int .i64 8,.func 64 []]) (.tup [.slice true (.ro (.var 24 ks)) (.lit 0) (.var 3 n),.int .i64 (.lit 0)]) (.var 11 (((fN s).length+(fN (n:Int)).length+(A9 G (G ks) n).length:Nat):Int))),(66,Ka 2517 (Kk (G8 G s (G ks) n (G kp) m) ((G8 G s (G ks) n (G kp) m)).length (((fN s).length+(fN (n:Int)).length+(A9 G (G ks) n).length:Nat):Int) [.int .i64 512,.func 67 []]) (.tup [.slice true (.ro (.var 25 kp)) (.lit 0) (.var 4 m),.int .i64 (.lit 0)]) (.var 12 (((fN s).length+(fN (n:Int)).length+(A9 G (G ks) n).length+(fN (m:Int)).length+(B1 (G kp) m).length:Nat):Int))),(28,X3 2518 (F8 [.agg [.int .i64 s,.slice true (.ro ks) 0 n,.slice true (.ro kp) 0 m]] []) (.var 21 (D1 G s (G ks) n (G kp) m)))]++progR) [] 1) []∧vT G (fun e vs H=>e=Ex.ret∧vs=[.slice false (.rw 0) 0 ((D1 G s (G ks) n (G kp) m)).length,.ptr (.rw 1) 0,.ptr (.rw 2) 0]∧∃ E:Hp,H=[some ⟨1,(D1 G s (G ks) n (G kp) m)⟩,some ⟨1,[.int .i64 s,.slice true (.ro ks) 0 n,.slice true (.ro kp) 0 m]⟩,some ⟨1,[.int .i64 0]⟩]++E) (fun _ _=>False) (E8 (Dc Try.prog [59,42,60,61,85,62,65,69,68,70,87,92] ([(63,Ka 2516 (Kk (G8 G s (G ks) n (G kp) m) ((G8 G s (G ks) n (G kp) m)).length (((fN s).length:Nat):Int) [.int .i64 8,.func 64 []]) (.tup [.slice true (.ro (.var 24 ks)) (.lit 0) (.var 3 n),.int .i64 (.lit 0)]) (.var 11 (((fN s).length+(fN (n:Int)).length+(A9 G (G ks) n).length:Nat):Int))),(66,Ka 2517 (Kk (G8 G s (G ks) n (G kp) m) ((G8 G s (G ks) n (G kp) m)).length (((fN s).length+(fN (n:Int)).length+(A9 G (G ks) n).length:Nat):Int) [.int .i64 512,.func 67 []]) (.tup [.slice true (.ro (.var 25 kp)) (.lit 0) (.var 4 m),.int .i64 (.lit 0)]) (.var 12 (((fN s).length+(fN (n:Int)).length+(A9 G (G ks) n).length+(fN (m:Int)).length+(B1 (G kp) m).length:Nat):Int))),(28,X3 2518 (F8 [.agg [.int .i64 s,.slice true (.ro ks) 0 n,.slice true (.ro kp) 0 m]] []) (.var 21 (D1 G s (G ks) n (G kp) m)))]++progR) [] 1) 400 30 1 (I2 (I2 (B4 Try.f29))) 55 [0,2,3] [.slice false (.rw 0) (.lit 0) (.var 5 ((D1 G s (G ks) n (G kp) m)).length),.ptr (.rw 1) (.lit 0),.ptr (.rw 2) (.lit 0)] [some ⟨1,.var 20 (D1 G s (G ks) n (G kp) m)⟩,some ⟨1,.of [.int .i64 (.lit 0),.nils,.nils]⟩,some ⟨1,.of [.int .i64 (.lit 0)]⟩]):=by
 have hS:=Lc hb hw hy;have hP:=Xo hb hy;obtain ⟨s0,s1⟩:=oW hy;have hs:=lC hy;have h8:=hS.le8;have h512:=hP.le;have h8T:V5 (G8 G s (G ks) n (G kp) m)=true:=wR hb;have lB:=Qg (G:=G) (s:=s) (ps:=(G kp)) hS hP.le;have eB:((Y0 G s (G ks) n (G kp) m)).length=((G8 G s (G ks) n (G kp) m)).length+4:=by rw [aG,List.length_append];simp only [magL,List.length_cons,List.length_nil];omega
 have eF:((D1 G s (G ks) n (G kp) m)).length=((G8 G s (G ks) n (G kp) m)).length+8:=by rw [D1,List.length_append,eB];rfl
 have eT:((G8 G s (G ks) n (G kp) m)).length=(fN s).length+((fN (n:Int)).length+((A9 G (G ks) n).length+((fN (m:Int)).length+(B1 (G kp) m).length))):=by simp only [G8,List.length_append]
 have uF:u8s (D1 G s (G ks) n (G kp) m)=true:=Im hS;have d0:((G8 G s (G ks) n (G kp) m)).drop 0=fN s++(fN (n:Int)++(A9 G (G ks) n++(fN (m:Int)++B1 (G kp) m))):=rfl;have d1:=O6 d0;rw [Nat.zero_add] at d1;have d2:=O6 (u:=fN (n:Int)++A9 G (G ks) n) (v:=fN (m:Int)++B1 (G kp) m) (by rw [d1];simp only [List.append_assoc]);rw [List.length_append,←Nat.add_assoc] at d2;have k1:=zN G B ks kp n m (fN s).length ((G8 G s (G ks) n (G kp) m)).length (G8 G s (G ks) n (G kp) m) _ hS (xF hy) hw d1 rfl (by omega) h8T (by omega)
 have k2:=zO G B ks kp n m ((fN s).length+(fN (n:Int)).length+(A9 G (G ks) n).length) ((G8 G s (G ks) n (G kp) m)).length (G8 G s (G ks) n (G kp) m) [] hP (fun j hj=>vK hy hb.pls j hj) hw (by rw [d2,List.append_nil]) rfl (by omega) h8T (by omega);have k3:=jR G B ks kp n m s hb hw hn hm hy
 have c63:C5 (⟨Try.prog,G,B⟩:A2) 63 (Ka 2516 (Kk (G8 G s (G ks) n (G kp) m) ((G8 G s (G ks) n (G kp) m)).length (((fN s).length:Nat):Int) [.int .i64 8,.func 64 []]) (.tup [.slice true (.ro (.var 24 ks)) (.lit 0) (.var 3 n),.int .i64 (.lit 0)]) (.var 11 (((fN s).length+(fN (n:Int)).length+(A9 G (G ks) n).length:Nat):Int))):=hZ rfl h8T rfl rfl k1
 have c66:C5 (⟨Try.prog,G,B⟩:A2) 66 (Ka 2517 (Kk (G8 G s (G ks) n (G kp) m) ((G8 G s (G ks) n (G kp) m)).length (((fN s).length+(fN (n:Int)).length+(A9 G (G ks) n).length:Nat):Int) [.int .i64 512,.func 67 []]) (.tup [.slice true (.ro (.var 25 kp)) (.lit 0) (.var 4 m),.int .i64 (.lit 0)]) (.var 12 (((fN s).length+(fN (n:Int)).length+(A9 G (G ks) n).length+(fN (m:Int)).length+(B1 (G kp) m).length:Nat):Int))):=hZ rfl h8T rfl rfl k2
 have c28:C5 (⟨Try.prog,G,B⟩:A2) 28 (X3 2518 (F8 [.agg [.int .i64 s,.slice true (.ro ks) 0 n,.slice true (.ro kp) 0 m]] []) (.var 21 (D1 G s (G ks) n (G kp) m))):=Qw rfl k3 rfl uF;refine ⟨D3 (mix G B) (by kernel_rfl) (.cons c63 (.cons c66 (.cons c28 (Ci G B)))) .nil,?_⟩;rw [t29]
 have eE:(if 0>IntKind.wrap .i64 (((((D1 G s (G ks) n (G kp) m)).length:Nat):Int) - 4) then 0 else IntKind.wrap .i64 (((((D1 G s (G ks) n (G kp) m)).length:Nat):Int) - 4):Int)=((((G8 G s (G ks) n (G kp) m)).length+4:Nat):Int):=by
  rw [C4 (n:=((((D1 G s (G ks) n (G kp) m)).length:Nat):Int) - 4) (by omega),eF,if_neg (by omega)];omega
 rw [eE,Int.toNat_natCast,Nat.add_sub_cancel];have eM:A7 (D1 G s (G ks) n (G kp) m) 0 4=magL:=by rw [fD];rfl
 have eS:A7 (D1 G s (G ks) n (G kp) m) 4 ((G8 G s (G ks) n (G kp) m)).length=(G8 G s (G ks) n (G kp) m):=by
  rw [fD];show List.take ((G8 G s (G ks) n (G kp) m)).length ((G8 G s (G ks) n (G kp) m)++_)=(G8 G s (G ks) n (G kp) m);rw [List.take_left]
 have eA:A7 (D1 G s (G ks) n (G kp) m) 0 ((D1 G s (G ks) n (G kp) m)).length=(D1 G s (G ks) n (G kp) m):=Z0 rfl;rw [eM,eS,eA];have z0:((0:Nat):Int)=0:=rfl;obtain ⟨r1e,r1v,r1a⟩:=Jf hs d0;rw [z0] at r1e r1v r1a;rw [Nat.zero_add] at r1a;rw [r1e,r1v,r1a,C4 (n:=s) (by omega),C4 (n:=((((G8 G s (G ks) n (G kp) m)).length:Nat):Int) - (((fN s).length+(fN (n:Int)).length+(A9 G (G ks) n).length+(fN (m:Int)).length+(B1 (G kp) m).length:Nat):Int)) (by omega),C4 (n:=((((G8 G s (G ks) n (G kp) m)).length:Nat):Int)+1) (by omega)]
 have bg:Yo 1 [.int .i64 (((((G8 G s (G ks) n (G kp) m)).length:Nat):Int)+1)]≤140737488355328:=by show (((((G8 G s (G ks) n (G kp) m)).length:Nat):Int)+1)*((1:Nat):Int)≤_;omega
 refine ⟨decide_eq_true (by omega),decide_eq_true (by omega),fun _=>⟨decide_eq_true (by omega),A6.2 (by omega),rfl,rfl,fun _=>⟨decide_eq_true (by omega),decide_eq_true (by omega),decide_eq_true (by omega),decide_eq_true bg,decide_eq_true (by omega),A6.2 (by omega),G2 (W8 h8T),A6.2 (by omega),cY h8T rfl (by omega) (Nat.zero_le _),fun _=>⟨fun hh=>absurd (of_decide_eq_true hh) (by omega),fun _=>⟨Zv,Zv,fun hh=>absurd (of_decide_eq_true hh) (by omega),fun _=>⟨G3,A6.2 (Nat.le_refl _),uF,A6.2 (Nat.le_refl _),uF,fun _=>⟨rfl,rfl,_,rfl⟩,fun hh=>absurd hh (by simp)⟩⟩⟩,fun hh=>absurd hh (by decide)⟩,fun hh=>absurd hh (by simp [magL])⟩,fun hh=>absurd (of_decide_eq_false hh) (by omega)⟩
end Go.Am
namespace Go.Am
open Go.Proofs Go.RowKit
set_option maxRecDepth 100000
def o58 : Oper := { dst := some 5, op := .call { callee := .builtin .recover, args := #[], argTypes := #[] }, type := 20, pos := "image.go:125", after := #[], guard := none }
def q58 : Oper := { dst := some 7, op := .binOp .eql 20 (.tmp 5) (.const .nilIface) 20, type := 4, pos := "image.go:125", after := #[], guard := none }
def p58 : Oper := { dst := some 2, op := .assign (.tmp 5), type := 20, pos := "image.go:125", after := #[], guard := none }
noncomputable def z58:Code:=match B4 Try.f58 with | .seq _ (.block _ (.seq _ (.cond _ _ z)))=>z | _=>.skip
theorem body58:B4 Try.f58=.seq (.region 0 #[o58] false) (.block 0 (.seq (.region 3 #[q58] false) (.cond (.tmp 7) (.region 4 #[p58] false) z58))):=by kernel_rfl
theorem run58o {a:Act} {w:World}:(execOp a.eval o58).run Try.prog w=.ok .recover w:=rfl
theorem idle58 (x y:Value) (w:World):CallsDIn Fence.wide 0 Try.prog 58 #[x,y] .returning w fun e u' w'=>e=.returned (.tuple #[])∧u'=.returning∧w'=w:=by
 refine callsDIn_of_wpSIn (fn:=Try.f58) (c:=B4 Try.f58) (by kernel_rfl) (by kernel_rfl) trivial fun c₀ cs hu=>?_;rw [body58];have hnt:Try.f58.ntmps=12:=by kernel_rfl
 have hres:Try.f58.results=#[]:=by kernel_rfl
 rw [hnt];apply wpSIn_seq;apply wpSIn_region;have hr:recoverD (c₀::cs)=none:=by simp [recoverD,hu]
 have e0:List.range (#[o58]:Array Oper).size=[0]:=rfl;rw [e0];unfold wpOpsSIn;have e1:(#[o58]:Array Oper)[0]?=some o58:=rfl;rw [e1];refine ⟨fun _ _=>trivial,?_⟩;rw [if_pos (by rfl),run58o];simp only [hr];unfold wpOpsSIn;show Exit.thenS _ _ .normal _ _ _;unfold Exit.thenS;refine wpSIn_of_wpIn rfl (wpIn_block (wpIn_seq (wpIn_region_list ?_)));simp [wpListIn,Oper.wpIn,q58,o58,go_sem];refine wpIn_cond_true (by simp [Act.eval,Array.replicate]) (wpIn_region_list ?_);simp [wpListIn,Oper.wpIn,p58,go_sem,Exit.inBlock];cases c₀;simp_all [bodyPostS,results,hres]
end Go.Am
namespace Go.Am
open Go.Proofs Go.RowKit
set_option maxRecDepth 100000
def oA : Oper := { dst := some 2, op := .alloc 25, type := 0, pos := "image.go:123", after := #[], guard := none }
def Pa : Oper := { dst := some 3, op := .alloc 29, type := 0, pos := "image.go:123", after := #[], guard := none }
def oC : Oper := { dst := some 7, op := .makeFunc (.func 58) #[] #[.tmp 2, .tmp 3], type := 1, pos := "image.go:124", after := #[], guard := none }
def oD : Oper := { dst := none, op := .defer { callee := .value (.tmp 7), args := #[], argTypes := #[] }, type := 0, pos := "image.go:124", after := #[{ on := 0, ground := .data }], guard := none }
theorem body29:B4 Try.f29=.seq (.region 0 #[oA,Pa] false) (.seq (.region 1 #[oC,oD] false) (I2 (I2 (B4 Try.f29)))):=by kernel_rfl
theorem zW:Kb (I2 (I2 (B4 Try.f29)))=true:=by kernel_rfl
theorem wA (G:Nat→List AV) (B:Nat) {F:Fr} {H:Hp}:G4 (⟨Try.prog,G,B⟩:A2) F H oA.op=some (true,.ptr (.rw H.length) 0,.new ⟨1,[.int .i64 0,.nils,.nils]⟩):=by kernel_rfl
theorem wB9 (G:Nat→List AV) (B:Nat) {F:Fr} {H:Hp}:G4 (⟨Try.prog,G,B⟩:A2) F H Pa.op=some (true,.ptr (.rw H.length) 0,.new ⟨1,[.int .i64 0]⟩):=by kernel_rfl
theorem pC {F:Fr} {x y:AV} (hx:F.getD 2 .undef=x) (hy:F.getD 3 .undef=y):E1 Try.prog F oC.op=some (true,.func 58 [x,y]):=by
 subst hx hy;kernel_rfl
theorem AP.lvd {C:A2} {m:Nat} {ρ:Env} {w:World} {N:Nat} {live:List Nat} {Q:Ex→List AV→Hp→Prop} {Q':Post} {e:Exit} {a':Act} {w':World} (h:AP C m ρ w (lv N live Q) e a' w') (hq:∀ e vs H',Q e vs H'→Q' e (fl N live vs) H'):AP C m ρ w Q' e a' w':=by
 obtain ⟨ae,ρ',F',H',rfl,h2,h3,h4,h5,h6⟩:=h;obtain ⟨h7,h8⟩:=Au h2;exact ⟨ae,ρ',_,H',rfl,hq _ _ _ h8,h3,h4,Ou h5 (Nat.eq_of_beq_eq_true h7),h6⟩
theorem idleD {cs:Array Value} (h:cs.size=2):uP Try.prog ⟨.fn (.func 58) cs,#[]⟩:=by
 have he:Wu Try.prog 58:=⟨Try.f58,B4 Try.f58,by kernel_rfl,by kernel_rfl,by kernel_rfl⟩;refine ⟨.func 58,cs,58,#[]++cs,rfl,fun w=>⟨?_,?_⟩⟩
 ·show (invoke (.fn (.func 58) cs) #[]).run Try.prog w=_;simp only [invoke];exact Dz he _ w
 ·have e:(#[]++cs:Array Value)=#[cs[0],cs[1]]:=by
   apply Array.ext (by simp [h]);intro i h1 h2;simp at h2
   match i,h2 with
   | 0,_=>simp
   | 1,_=>simp
  rw [e];exact idle58 _ _ w
theorem rW (G:Nat→List AV) (B:Nat) (ks kp n m:Nat) (s:Int) (hb:Eh G ks kp n m) (hw:W0 G ks kp n m) (hn:n≤1000000) (hm:m≤1000000) (hy:I7 s (G ks) n (G kp) m=true):ACalls (⟨Try.prog,G,B⟩:A2) 29 [.slice false (.rw 0) 0 ((D1 G s (G ks) n (G kp) m)).length] [some ⟨1,(D1 G s (G ks) n (G kp) m)⟩] fun v H=>v=.tup [.agg [.int .i64 s,.slice true (.ro ks) 0 n,.slice true (.ro kp) 0 m],.int .i64 0]∧∃ E,H=[some ⟨1,(D1 G s (G ks) n (G kp) m)⟩]++E:=by
 obtain ⟨hgood,hvt⟩:=xQ G B ks kp n m s hb hw hn hm hy;refine fY (fn:=Try.f29) (c:=B4 Try.f29) (by kernel_rfl) (by kernel_rfl) (by kernel_rfl) fun ρ a w hH hF hdf=>?_;rw [body29];have g0:=Lt (C:=(⟨Try.prog,G,B⟩:A2)) (mix G B) [];refine wpIn_seq (wpIn_region_list ?_);show wpListIn (W none) 0 Try.prog (([oA,Pa]:List Oper).toArray) _ [oA,Pa] a w;unfold wpListIn;refine St.sound g0 (all:=[oA,Pa]) (o:=oA) (.write rfl (by kernel_rfl) (wA G B)) hH hF (r:=none) (fun ρ1 cv1 w1 hH1 hv1 hl1 hf1=>?_);have hF1:=(hF.mono hl1).put oA.dst _ cv1 hv1;unfold wpListIn
 refine St.sound g0 (all:=[oA,Pa]) (o:=Pa) (.write rfl (by kernel_rfl) (wB9 G B)) hH1 hF1 (r:=none) (fun ρ2 cv2 w2 hH2 hv2 hl2 hf2=>?_);have hF2:=(hF1.mono hl2).put Pa.dst _ cv2 hv2;unfold wpListIn;show Code.wpIn (W none) 0 Try.prog _ _ _ _;refine wpIn_seq (wpIn_region_list ?_);show wpListIn (W none) 0 Try.prog (([oC,oD]:List Oper).toArray) _ [oC,oD] _ w2;unfold wpListIn;refine St.sound g0 (all:=[oC,oD]) (o:=oC) (.pure rfl (by kernel_rfl) (pC (x:=.ptr (.rw 1) 0) (y:=.ptr (.rw 2) 0) (by kernel_rfl) (by kernel_rfl))) hH2 hF2 (r:=none) (fun ρ3 cv3 w3 hH3 hv3 hl3 hf3=>?_)
 have hF3:=(hF2.mono hl3).put oC.dst _ cv3 hv3;unfold wpListIn;rw [if_pos (by rfl)];have hv:=hF3.at 7;have e7:(put (put (put (J1 Try.f29 [.slice false (.rw 0) 0 ((D1 G s (G ks) n (G kp) m)).length]) oA.dst (.ptr (.rw 1) 0)) Pa.dst (.ptr (.rw 2) 0)) oC.dst (.func 58 [.ptr (.rw 1) 0,.ptr (.rw 2) 0])).getD 7 .undef=.func 58 [.ptr (.rw 1) 0,.ptr (.rw 2) 0]:=by kernel_rfl
 replace hv:=(congrArg (fun x=>VR ρ3 x ((((a.put oA.dst cv1).put Pa.dst cv2).put oC.dst cv3).tmps.getD 7 undef)) e7).mp hv
 simp only [VR] at hv;obtain ⟨cs,hcs,hr⟩:=hv
 have hsz:cs.size=2:=by
  have:=D8 hr
  simpa using this
 obtain ⟨a3,ha3⟩:∃ a3,a3=((a.put oA.dst cv1).put Pa.dst cv2).put oC.dst cv3:=⟨_,rfl⟩;have hd3:a3.defers=[]:=by rw [ha3];exact hdf
 have hev:a3.eval (.tmp 7)=.func (.func 58) #[] cs:=by rw [ha3];exact hcs
 rw [←ha3] at hF3 ⊢
 have hrun:(oD.semAt (W none).round a3.eval).run Try.prog w3=.ok (.defer ⟨.fn (.func 58) cs,#[]⟩) w3:=by
  show (oD.semAt none a3.eval).run Try.prog w3=_;rw [Oper.semAt_none];simp [execOp,oD,resolve,hev,Deferred.ofValue,Sem.run_bind,Sem.run_pure]
 refine ⟨fun _ _=>trivial,?_⟩;rw [hrun];show Code.wpIn (W none) 0 Try.prog (I2 (I2 (B4 Try.f29))) _ ⟨a3.tmps,⟨.fn (.func 58) cs,#[]⟩::a3.defers⟩ w3;rw [hd3]
 have hF4:D5 ρ3 (fl 55 [0,2,3] [.slice false (.rw 0) 0 ((D1 G s (G ks) n (G kp) m)).length,.ptr (.rw 1) 0,.ptr (.rw 2) 0]) ⟨a3.tmps,[]⟩:=by
  refine Vx Nod.nil (by rw [←hF3.len];kernel_rfl) fun j i v h1 h2=>?_
  match j,h1,h2 with
  | 0,h1,h2=>
   simp at h1 h2;subst h1 h2;exact hF3.at 0
  | 1,h1,h2=>
   simp at h1 h2;subst h1 h2;exact hF3.at 2
  | 2,h1,h2=>
   simp at h1 h2;subst h1 h2;exact hF3.at 3
 have hp3:N5 1 ρ ρ3:=N5.of_le hH (Env.le_trans hl1 (Env.le_trans hl2 hl3)) (by simp);have hf:Frm ρ w ρ3 w3:=hf1.trans (hf2.trans hf3);have key:=tR hgood [⟨.fn (.func 58) cs,#[]⟩] zW hvt (ρ:=ρ3) (a:=⟨a3.tmps,[]⟩) (w:=w3) (by simp) hH3 hF4;refine Code.wpIn_mono ?_ key;rintro e a' w' ⟨a0,e0,h⟩;refine ⟨_,a0,e0,idleD hsz,AP.link hp3 hf (AP.lvd h ?_)⟩;rintro e vs H' ⟨rfl,rfl,E,rfl⟩
 have hres:Mo (⟨Try.prog,G,B⟩:A2) Try.f29 (fl 55 [0,2,3] [.slice false (.rw 0) 0 ((D1 G s (G ks) n (G kp) m)).length,.ptr (.rw 1) 0,.ptr (.rw 2) 0]) ([some ⟨1,(D1 G s (G ks) n (G kp) m)⟩,some ⟨1,[.int .i64 s,.slice true (.ro ks) 0 n,.slice true (.ro kp) 0 m]⟩,some ⟨1,[.int .i64 0]⟩]++E)=some (true,.tup [.agg [.int .i64 s,.slice true (.ro ks) 0 n,.slice true (.ro kp) 0 m],.int .i64 0]):=by kernel_rfl
 unfold J6;rw [hres];exact ⟨rfl,_,rfl⟩
theorem xR (G:Nat→List AV) (B:Nat) (ks kp n m:Nat) (s:Int) (hb:Eh G ks kp n m) (hw:W0 G ks kp n m) (hn:n≤1000000) (hm:m≤1000000) (hy:I7 s (G ks) n (G kp) m=true):ACalls (⟨Try.prog,G,B⟩:A2) 29 [.slice false (.rw 0) 0 ((D1 G s (G ks) n (G kp) m)).length] [some ⟨1,(D1 G s (G ks) n (G kp) m)⟩] fun v H=>v=.tup [.agg [.int .i64 s,.slice true (.ro ks) 0 n,.slice true (.ro kp) 0 m],.int .i64 0]∧H=[some ⟨1,(D1 G s (G ks) n (G kp) m)⟩]:=by
 have hu:u8s (D1 G s (G ks) n (G kp) m)=true:=Im (Lc hb hw hy);refine (rW G B ks kp n m s hb hw hn hm hy).view fun v H' ⟨e1,E,e2⟩=>⟨_,_,⟨rfl,rfl⟩,?_⟩;rw [e1,e2];exact C2.same (by simp) (by simp [J5,B7 hu]) ⟨⟨by simp [A8,A4],rfl⟩,trivial⟩
end Go.Am
namespace Go.Am
open Go.Proofs
set_option maxRecDepth 100000
def cQ (j:Nat) (q:List AV→Bool) (x:EV):DSum:=fun xs H=>match xs with
 | [.slice false (.rw i) (.lit 0) n]=>match H[i]? with
  | some (some ⟨1,l⟩)=>some (.chk (.uf j q [.agg l,.ptr (.rw 0) n]) (.one x []))
  | _=>none
 | _=>none
def Uu (j:Nat) (q:List AV→Bool) (x:EL):DSum:=fun args H=>some (.chk (.uf j q [.agg (.of args),.agg (.of [])]) (.one (.slice false (.rw H.length) (.lit 0) (.len x)) [.new ⟨1,x⟩]))
theorem rI {C:A2} {f j:Nat} {vs0:List AV} {x:EL} {q:List AV→Bool} (hq:q=F8 vs0 []) (h:ACalls C f vs0 [] fun v H=>v=.slice false (.rw 0) 0 (vL C.G x).length∧H=[some ⟨1,vL C.G x⟩]) (ha:A4 0 vs0=true) (hu:u8s (vL C.G x)=true):C5 C f (Uu j q x):=by
 intro args H o ho;simp only [Uu,Option.some.injEq] at ho;subst ho;intro h1;have h1:q [.agg (vVs C.G args),.agg (P2 [])]=true:=h1;rw [hq] at h1;obtain ⟨e1,_⟩:=Rk h1;refine E0.new0 (C:=C) (args0:=vs0) (v0:=.slice false (.rw 0) 0 (vL C.G x).length) (by simp only [C8];exact h) (B7 hu) ha e1 (by simp [A8]) (by simp [vV,vR,vN,vI,C1])
open Classical in
noncomputable def Xx (s:List AV) (N:Nat):List AV→Bool:=fun xs=>decide (xs=[.agg s,.ptr (.rw 0) N])
theorem pD {s:List AV} {N:Nat}:Xx s N [.agg s,.ptr (.rw 0) N]=true:=by simp [Xx]
theorem xG {C:A2} {f j:Nat} {q:List AV→Bool} {x:EV} {s:List AV} {N:Nat} (hq:q=Xx s N) (hu:u8s s=true) (hv:A8 0 (vV C.G x)=true)
  (key:ACalls C f [.slice false (.rw 0) 0 N] [some ⟨1,s⟩] fun v' H'=>v'=vV C.G x∧H'=[some ⟨1,s⟩]):C5 C f (cQ j q x):=by
 intro xs H o ho;simp only [cQ] at ho;split at ho
 ·rename_i i n;split at ho
  ·rename_i l hm;simp only [Option.some.injEq] at ho;subst ho;intro h1;simp only [vB,vVs,vV,vR,vN,vL,hq,Xx,decide_eq_true_eq,List.cons.injEq,AV.agg.injEq,AV.ptr.injEq,true_and,and_true] at h1;obtain ⟨e1,e2⟩:=h1;have hf:∀ j,A4 j s=true:=fun j=>B7 hu;have hs:=E9 (G:=C.G) hm;simp only [C8,e1] at hs;refine E0.fr (θ:=[i]) (by simp) rfl (fun k b hk=>?_) (by simp [A4,A8]) (by simp [vVs,vV,vR,vN,rens,C1,e2]) key (by simp) (Tv (Nat.zero_le _) _ hv) (by simp [J5,hf]) (Es _ _ hv).symm ?_
   ·match k with
    | 0=>simp at hk;subst hk;exact ⟨_,rfl,hf _,by simpa [K2,B5 _ _ (hf 0)] using hs⟩
    | k+1=>simp at hk
   ·simp only [List.map_nil,acts,T8,lay,U4,K2,Option.map_some,B5 _ _ (hf 0),List.length_cons,List.length_nil,List.drop_succ_cons,List.drop_nil,List.append_nil];obtain ⟨h2,h3⟩:=List.getElem?_eq_some_iff.1 hs;rw [←h3,List.set_getElem_self]
  ·simp at ho
 ·simp at ho
theorem by_law (G:Nat→List AV) (q1 q2 q3 q4 q5 q6:List AV→Bool) (ks kp n m:Nat) (s ck:Int) (f:List AV) (may:Bool) (Q:Ex→List AV→Hp→Prop) (R:AV→Hp→Prop):vT G Q R (G6 (Dc Try.prog [16] [(10,muchS),(11,trueS),(12,O8 2519 (q1) (.one (.agg (.of [.int .i64 (.var 1 s),.slice true (.ro (.var 24 ks)) (.lit 0) (.var 3 n),.slice true (.ro (.var 25 kp)) (.lit 0) (.var 4 m)])) [])),(28,X3 2520 (q2) (.var 21 f)),(20,O8 2522 (q3) (.one (.int .i64 (.var 5 ck)) [])),(15,Lg G),(21,O8 2523 (q4) (.one (.bool (.var 20 may)) [])),(29,cQ 2524 (q5) (.tup [.agg (.of [.int .i64 (.var 1 s),.slice true (.ro (.var 24 ks)) (.lit 0) (.var 3 n),.slice true (.ro (.var 25 kp)) (.lit 0) (.var 4 m)]),.int .i64 (.lit 0)])),(30,Uu 2525 (q6) (.var 22 f))] [] 0) 400 20 Try.f7 [.agg (.of [.int .i64 (.var 1 s),.slice true (.ro (.var 24 ks)) (.lit 0) (.var 3 n),.slice true (.ro (.var 25 kp)) (.lit 0) (.var 4 m)])] [] 0)=(
  secOkU [.agg (G (ks)),.int .i64 (((n:Nat):Int))]=true∧(Mw [.agg (G (ks)),.int .i64 (((n:Nat):Int)),.int .i64 (((m:Nat):Int))]=true→R (.bool (true)) [])∧(Mw [.agg (G (ks)),.int .i64 (((n:Nat):Int)),.int .i64 (((m:Nat):Int))]=false→(q1) [.agg ([.agg ([.int .i64 (s),.slice true (.ro (ks)) (0) (n),.slice true (.ro (kp)) (0) (m)]:List AV)]:List AV),.agg ([]:List AV)]=true∧(q2) [.agg ([.agg ([.int .i64 (s),.slice true (.ro (ks)) (0) (n),.slice true (.ro (kp)) (0) (m)]:List AV)]:List AV),.agg ([]:List AV)]=true∧(q3) [.agg ([.agg ([.int .i64 (s),.slice true (.ro (ks)) (0) (n),.slice true (.ro (kp)) (0) (m)]:List AV)]:List AV),.agg ([]:List AV)]=true∧(Le G) [.int .i64 (s),.agg (G (ks)),.int .i64 (((n:Nat):Int)),.agg (G (kp)),.int .i64 (((m:Nat):Int)),.int .i64 (s),.agg (G (ks)),.int .i64 (((n:Nat):Int)),.agg (G (kp)),.int .i64 (((m:Nat):Int))]=true∧((Jc G) [.int .i64 (s),.agg (G (ks)),.int .i64 (((n:Nat):Int)),.agg (G (kp)),.int .i64 (((m:Nat):Int)),.int .i64 (s),.agg (G (ks)),.int .i64 (((n:Nat):Int)),.agg (G (kp)),.int .i64 (((m:Nat):Int))]=true→(q4) [.agg ([.agg ([.int .i64 (s),.slice true (.ro (ks)) (0) (n),.slice true (.ro (kp)) (0) (m)]:List AV)]:List AV),.agg ([]:List AV)]=true∧(may=true→(q5) [.agg f,.ptr (.rw 0) (List.length f)]=true∧leB (List.length f) (List.length f)=true∧u8s (A7 f (0) (List.length f))=true∧(q6) [.agg ([.agg ([.int .i64 (s),.slice true (.ro (ks)) (0) (n),.slice true (.ro (kp)) (0) (m)]:List AV)]:List AV),.agg ([]:List AV)]=true∧leB (List.length f) (List.length f)=true∧u8s (A7 f (0) (List.length f))=true∧((((O4 (A7 f (0) (List.length f))):List UInt8)==(O4 (A7 f (0) (List.length f))))=true→(((IntKind.wrap .i64 (IntKind.wrap .i64 (0+ck)+0):Int)==0)=true→
 (Le G) [.int .i64 (s),.agg (G (ks)),.int .i64 (((n:Nat):Int)),.agg (G (kp)),.int .i64 (((m:Nat):Int)),.int .i64 (s),.agg (G (ks)),.int .i64 (((n:Nat):Int)),.agg (G (kp)),.int .i64 (((m:Nat):Int))]=true∧(Jc G) [.int .i64 (s),.agg (G (ks)),.int .i64 (((n:Nat):Int)),.agg (G (kp)),.int .i64 (((m:Nat):Int)),.int .i64 (s),.agg (G (ks)),.int .i64 (((n:Nat):Int)),.agg (G (kp)),.int .i64 (((m:Nat):Int))]=true∧R (.bool (true)) [])∧(((IntKind.wrap .i64 (IntKind.wrap .i64 (0+ck)+0):Int)==0)=false→R (.bool (false)) []))∧((((O4 (A7 f (0) (List.length f))):List UInt8)==(O4 (A7 f (0) (List.length f))))=false→R (.bool (false)) []))∧(may=false→(((((List.length f:Nat):Int):Int)==0)=true→R (.bool (false)) [])∧(((((List.length f:Nat):Int):Int)==0)=false→R (.bool (false)) [])))∧((Jc G) [.int .i64 (s),.agg (G (ks)),.int .i64 (((n:Nat):Int)),.agg (G (kp)),.int .i64 (((m:Nat):Int)),.int .i64 (s),.agg (G (ks)),.int .i64 (((n:Nat):Int)),.agg (G (kp)),.int .i64 (((m:Nat):Int))]=false→R (.bool (false)) []))):=by kernel_rfl
theorem jQ (G:Nat→List AV) (q1 q2 q3 q4:List AV→Bool) (ks kp n m:Nat) (s ck:Int) (may:Bool) (Q:Ex→List AV→Hp→Prop) (R:AV→Hp→Prop):vT G Q R (G6 (Dc Try.prog [16] [(10,muchS),(11,trueS),(12,O8 2519 (q1) (.one (.agg (.of [.int .i64 (.var 1 s),.slice true (.ro (.var 24 ks)) (.lit 0) (.var 3 n),.slice true (.ro (.var 25 kp)) (.lit 0) (.var 4 m)])) [])),(28,O8 2521 (q2) (.one (.tup [.nils,.int .i64 (.lit 2)]) [])),(20,O8 2522 (q3) (.one (.int .i64 (.var 5 ck)) [])),(15,Lg G),(21,O8 2523 (q4) (.one (.bool (.var 20 may)) []))] [] 0) 400 20 Try.f7 [.agg (.of [.int .i64 (.var 1 s),.slice true (.ro (.var 24 ks)) (.lit 0) (.var 3 n),.slice true (.ro (.var 25 kp)) (.lit 0) (.var 4 m)])] [] 0)=(
  secOkU [.agg (G (ks)),.int .i64 (((n:Nat):Int))]=true∧(Mw [.agg (G (ks)),.int .i64 (((n:Nat):Int)),.int .i64 (((m:Nat):Int))]=true→R (.bool (true)) [])∧(Mw [.agg (G (ks)),.int .i64 (((n:Nat):Int)),.int .i64 (((m:Nat):Int))]=false→(q1) [.agg ([.agg ([.int .i64 (s),.slice true (.ro (ks)) (0) (n),.slice true (.ro (kp)) (0) (m)]:List AV)]:List AV),.agg ([]:List AV)]=true∧(q2) [.agg ([.agg ([.int .i64 (s),.slice true (.ro (ks)) (0) (n),.slice true (.ro (kp)) (0) (m)]:List AV)]:List AV),.agg ([]:List AV)]=true∧(q3) [.agg ([.agg ([.int .i64 (s),.slice true (.ro (ks)) (0) (n),.slice true (.ro (kp)) (0) (m)]:List AV)]:List AV),.agg ([]:List AV)]=true∧(Le G) [.int .i64 (s),.agg (G (ks)),.int .i64 (((n:Nat):Int)),.agg (G (kp)),.int .i64 (((m:Nat):Int)),.int .i64 (s),.agg (G (ks)),.int .i64 (((n:Nat):Int)),.agg (G (kp)),.int .i64 (((m:Nat):Int))]=true∧((Jc G) [.int .i64 (s),.agg (G (ks)),.int .i64 (((n:Nat):Int)),.agg (G (kp)),.int .i64 (((m:Nat):Int)),.int .i64 (s),.agg (G (ks)),.int .i64 (((n:Nat):Int)),.agg (G (kp)),.int .i64 (((m:Nat):Int))]=true→(q4) [.agg ([.agg ([.int .i64 (s),.slice true (.ro (ks)) (0) (n),.slice true (.ro (kp)) (0) (m)]:List AV)]:List AV),.agg ([]:List AV)]=true∧(may=true→False)∧(may=false→(((ck:Int)==2)=true→R (.bool (true)) [])∧(((ck:Int)==2)=false→R (.bool (false)) [])))∧((Jc G) [.int .i64 (s),.agg (G (ks)),.int .i64 (((n:Nat):Int)),.agg (G (kp)),.int .i64 (((m:Nat):Int)),.int .i64 (s),.agg (G (ks)),.int .i64 (((n:Nat):Int)),.agg (G (kp)),.int .i64 (((m:Nat):Int))]=false→R (.bool (false)) []))):=by kernel_rfl
end Go.Am
