/-
  Images read, whatever the bytes: summaries of Take and of Bytes; the t Images read, whatever the bytes: Read's deferred closure, where Read p
-/
import Derived.Test.YthejjolnlngahaaPart21
namespace Go.Am
open Go.Proofs Go.RowKit
set_option maxRecDepth 100000
abbrev PSum:=List EV→DHp→Option (EB×EB×EV×List DHop×List Nat)
def Kg:List (Nat×PSum)→FuncId→PSum
 | [],_,_,_=>none
 | (g,s)::l,f,args,H=>match Nat.beq g f with
  | true=>s args H
  | false=>Kg l f args H
def Jo (C:A0) (rt:Nat) (f:FuncId) (s:PSum):Prop:=∀ args H c b v hs hp,s args H=some (c,b,v,hs,hp)→vB C.G c=true→(vB C.G b=true→E0 C f args H v hs)∧(vB C.G b=false→pJ C rt f args H hp)
theorem xZ {C:A0} {rt:Nat}:∀ f,Jo C rt f (Kg [] f):=fun f args H c b v hs hp h=>by simp [Kg] at h
theorem aU {C:A0} {rt g:Nat} {s:PSum} {l:List (Nat×PSum)} (h:Jo C rt g s) (k:∀ f,Jo C rt f (Kg l f)):∀ f,Jo C rt f (Kg ((g,s)::l) f):=by
 intro f args H c b v hs hp ho;simp only [Kg] at ho;split at ho
 ·rename_i hg
  have:=yV hg
  subst this;exact h args H c b v hs hp ho
 ·exact k f args H c b v hs hp ho
def Ek (j:Nat) (q:List AV→Bool) (b:EB) (x:EV) (a2:EI):PSum:=fun xs H=>match xs with
 | .ptr (.rw i) (.lit 0)::rest=>match H[i]? with
  | some (some ⟨1,.of [.slice false (.rw m) (.lit 0) n,.int .i64 a]⟩)=>match H[m]? with
   | some (some ⟨1,l⟩)=>match Nat.beq i m with
    | true=>none
    | false=>some (.uf j q [.agg l,.ptr (.rw 0) n,.int .i64 a,.agg (.of rest)],b,x,[.set i ⟨1,.of [.slice false (.rw m) (.lit 0) n,.int .i64 a2]⟩],[i,m])
   | _=>none
  | _=>none
 | _=>none
theorem aD7 {C:A0} {rt:Nat} {f j:Nat} {q:List AV→Bool} {b:EB} {x:EV} {a2:EI} {s:List AV} {N:Nat} {a:Int} {rest0:List AV} (hq:q=Hy s N a rest0) (h8:I9 s=true) (hr:A3 0 rest0=true) (hv:A8 0 (vV C.G x)=true)
  (keyY:vB C.G b=true→ACalls C f (.ptr (.rw 0) 0::rest0) [some ⟨1,[.slice false (.rw 1) 0 N,.int .i64 a]⟩,some ⟨1,s⟩] fun v' H'=>v'=vV C.G x∧H'=[some ⟨1,[.slice false (.rw 1) 0 N,.int .i64 (vI C.G a2)]⟩,some ⟨1,s⟩])
  (keyN:vB C.G b=false→ACallsX C rt f (.ptr (.rw 0) 0::rest0) [some ⟨1,[.slice false (.rw 1) 0 N,.int .i64 a]⟩,some ⟨1,s⟩] (fun _ _=>False) fun _=>True):Jo C rt f (Ek j q b x a2):=by
 intro xs H c b' v hs hp ho hc;simp only [Ek] at ho;split at ho
 ·rename_i i rest;split at ho
  ·rename_i m n a' hi;split at ho
   ·rename_i l hm;split at ho
    ·simp at ho
    ·rename_i him;have him:i≠m:=fun h=>by rw [h,zA3] at him;simp at him
     simp only [zK,yN] at ho;obtain ⟨rfl,rfl,rfl,rfl,rfl⟩:=ho;simp only [vB,vVs,vV,vR,vN,vL,hq,Hy,xE,List.cons.injEq,AV.agg.injEq,AV.ptr.injEq,AV.int.injEq,true_and,and_true] at hc;obtain ⟨e1,e2,e3,e4⟩:=hc;have hf:∀ j,A3 j s=true:=fun j=>C4 (O3 h8);refine ⟨fun hb=>?_,fun hb=>?_⟩
     ·refine E0.reader (C:=C) (rest:=rest) him hi hm (fun j=>by rw [e1];exact hf j) (by rw [e4];exact hr) hv ?_;rw [e1,e2,e3,e4];exact keyY hb
     ·unfold pJ;have key:=yG (H:=B7 C.G H) (keyN hb) [i,m] rfl (by simp [him]) (fun k b hk=>?_) (by simp only [A3,A8,zN];exact ⟨by simp,G6 (zA2 _) _ hr⟩)
      ·have ea:rens [i,m] (.ptr (.rw 0) 0::rest0)=vVs C.G (.ptr (.rw i) (.lit 0)::rest):=by
        simp only [vVs,vV,vR,vN,rens,C0,B9 _ _ hr,e4];rfl
       rw [ea] at key;exact key
      ·match k with
       | 0=>simp at hk;subst hk;exact ⟨_,rfl,rfl,by simp [A3,A8],by simpa [K3,D8,vL,vVs,vV,vR,vN,rens,C0,e2,e3] using I3 (G:=C.G) hi⟩
       | 1=>simp at hk;subst hk;exact ⟨_,rfl,rfl,hf _,by simpa [K3,D8,B9 _ _ (hf 0),e1] using I3 (G:=C.G) hm⟩
       | k+2=>simp at hk
   ·simp at ho
  ·simp at ho
 ·simp at ho
def gX (j:Nat) (q:List AV→Bool) (b:EB) (x:EL):DSum:=fun args H=>some (.chk (.uf j q [.agg (.of args),.agg (.of [])]) (.tst b (.one (.tup [.slice false (.rw H.length) (.lit 0) (.len x),.int .i64 (.lit 0)]) [.new ⟨1,x⟩]) (.one (.tup [.nils,.int .i64 (.lit 2)]) [])))
theorem sBy_ok {C:A0} {f j:Nat} {vs0:List AV} {x:EL} {b:EB} {q:List AV→Bool} (hq:q=D9 vs0 []) (h:vB C.G b=true→u8s (vL C.G x)=true∧ACalls C f vs0 [] fun v H=>v=.tup [.slice false (.rw 0) 0 (vL C.G x).length,.int .i64 0]∧H=[some ⟨1,vL C.G x⟩]) (hn:vB C.G b=false→ACalls C f vs0 [] fun v _=>v=.tup [.nils,.int .i64 2]) (ha:A3 0 vs0=true):D4 C f (gX j q b x):=by
 intro args H o ho;simp only [gX,zK] at ho;subst ho;intro h1;have h1:q [.agg (vVs C.G args),.agg (R4 [])]=true:=h1;rw [hq] at h1;obtain ⟨e1,_⟩:=Hw h1;refine ⟨fun hb=>?_,fun hb=>?_⟩
 ·obtain ⟨hu,hk⟩:=h hb;refine E0.new0 (C:=C) (args0:=vs0) (v0:=.tup [.slice false (.rw 0) 0 (vL C.G x).length,.int .i64 0]) (by simp only [D8];exact hk) (C4 hu) ha e1 (by simp [A8,A3]) (by simp [vV,vVs,vR,vN,vI,C0,rens])
 ·exact E0.ro0 (by rw [e1];exact ACalls.drop0 (hn hb) rfl (by simp [vV,vVs])) (by rw [e1];exact ha) rfl
theorem t29p (G:Nat→List AV) (q1 q2 q3:List AV→Bool) (ks kp n m L:Nat) (x1 x2 e1 e2:Int) (b1 b2 my:Bool) (l f:List AV) (Q:Ex→List AV→Hp→Prop) (R:AV→Hp→Prop):vT G Q R (Wm ⟨Dc Try.prog [59,42,60,61,85,62,65,69,68,70,87,92] ((28,gX 2518 q3 (.var 33 my) (.var 21 f))::progR) [] 1,96,Kg [(63,Ek 2516 q1 (.var 31 b1) (.tup [.slice true (.ro (.var 24 ks)) (.lit 0) (.var 3 n),.int .i64 (.var 13 e1)]) (.var 11 x1)),(66,Ek 2517 q2 (.var 32 b2) (.tup [.slice true (.ro (.var 25 kp)) (.lit 0) (.var 4 m),.int .i64 (.var 14 e2)]) (.var 12 x2))],fun _ _=>none,.skip⟩ 400 30 3 (J5 (J5 (C6 Try.f29))) 55 [0,2,3] [.slice false (.rw 0) (.lit 0) (.var 5 L),.ptr (.rw 1) (.lit 0),.ptr (.rw 2) (.lit 0)] [some ⟨1,.var 20 l⟩,some ⟨1,.of [.int .i64 (.lit 0),.nils,.nils]⟩,some ⟨1,.of [.int .i64 (.lit 0)]⟩])=(
  decide ((0:Int)≤(if 0>IntKind.wrap .i64 ((L:Int) - 4) then 0 else IntKind.wrap .i64 ((L:Int) - 4)))=true∧decide (((if 0>IntKind.wrap .i64 ((L:Int) - 4) then 0 else IntKind.wrap .i64 ((L:Int) - 4)):Int)≤(L:Int))=true∧(decide ((((Int.toNat ((if 0>IntKind.wrap .i64 ((L:Int) - 4) then 0 else IntKind.wrap .i64 ((L:Int) - 4))):Nat):Int):Int)≥4)=true→decide ((4:Int)≤((Int.toNat ((if 0>IntKind.wrap .i64 ((L:Int) - 4) then 0 else IntKind.wrap .i64 ((L:Int) - 4))):Nat):Int))=true∧leB 4 (List.length l)=true∧u8s (A9 l 0 4)=true∧u8s ([.int .u8 83,.int .u8 84,.int .u8 68,.int .u8 1]:List AV)=true∧((((O8 (A9 l 0 4)):List UInt8)==(O8 ([.int .u8 83,.int .u8 84,.int .u8 68,.int .u8 1]:List AV)))=true→decide ((4:Int)≤(if 0>IntKind.wrap .i64 ((L:Int) - 4) then 0 else IntKind.wrap .i64 ((L:Int) - 4)))=true∧decide (((if 0>IntKind.wrap .i64 ((L:Int) - 4) then 0 else IntKind.wrap .i64 ((L:Int) - 4)):Int)≤(L:Int))=true∧decide ((0:Int)≤IntKind.wrap .i64 ((((Int.toNat ((if 0>IntKind.wrap .i64 ((L:Int) - 4) then 0 else IntKind.wrap .i64 ((L:Int) - 4)))) - 4:Nat):Int)+1))=true∧decide ((gA 1 [.int .i64 (IntKind.wrap .i64 ((((Int.toNat ((if 0>IntKind.wrap .i64 ((L:Int) - 4) then 0 else IntKind.wrap .i64 ((L:Int) - 4)))) - 4:Nat):Int)+1))]:Int)≤140737488355328)=true∧decide ((IntKind.wrap .i64 ((((Int.toNat ((if 0>IntKind.wrap .i64 ((L:Int) - 4) then 0 else IntKind.wrap .i64 ((L:Int) - 4)))) - 4:Nat):Int)+1):Int)≤140737488355328)=true∧leB (4+((Int.toNat ((if 0>IntKind.wrap .i64 ((L:Int) - 4) then 0 else IntKind.wrap .i64 ((L:Int) - 4)))) - 4)) (List.length l)=true∧
 cellsB (A9 l 4 ((Int.toNat ((if 0>IntKind.wrap .i64 ((L:Int) - 4) then 0 else IntKind.wrap .i64 ((L:Int) - 4)))) - 4))=true∧leB ((Int.toNat ((if 0>IntKind.wrap .i64 ((L:Int) - 4) then 0 else IntKind.wrap .i64 ((L:Int) - 4)))) - 4) 140737488355328=true∧okRdU [.agg (A9 l 4 ((Int.toNat ((if 0>IntKind.wrap .i64 ((L:Int) - 4) then 0 else IntKind.wrap .i64 ((L:Int) - 4)))) - 4)),.ptr (.rw 0) ((Int.toNat ((if 0>IntKind.wrap .i64 ((L:Int) - 4) then 0 else IntKind.wrap .i64 ((L:Int) - 4)))) - 4),.int .i64 0]=true∧(((D3 [.agg (A9 l 4 ((Int.toNat ((if 0>IntKind.wrap .i64 ((L:Int) - 4) then 0 else IntKind.wrap .i64 ((L:Int) - 4)))) - 4)),.int .i64 0]:Int)==0)=true→(decide ((B0 [.agg (A9 l 4 ((Int.toNat ((if 0>IntKind.wrap .i64 ((L:Int) - 4) then 0 else IntKind.wrap .i64 ((L:Int) - 4)))) - 4)),.int .i64 0]:Int)>131072)=true→R (.func 987654 []) [some ⟨1,l⟩,some ⟨1,([.int .i64 0,.nils,.nils]:List AV)⟩,some ⟨1,([.int .i64 0]:List AV)⟩,some ⟨1,([.int .u8 83,.int .u8 84,.int .u8 68,.int .u8 1]:List AV)⟩,none,some ⟨1,(A9 l 4 ((Int.toNat ((if 0>IntKind.wrap .i64 ((L:Int) - 4) then 0 else IntKind.wrap .i64 ((L:Int) - 4)))) - 4))⟩,some ⟨1,([.slice false (.rw 5) 0 ((Int.toNat ((if 0>IntKind.wrap .i64 ((L:Int) - 4) then 0 else IntKind.wrap .i64 ((L:Int) - 4)))) - 4),.int .i64 (A5 [.agg (A9 l 4 ((Int.toNat ((if 0>IntKind.wrap .i64 ((L:Int) - 4) then 0 else IntKind.wrap .i64 ((L:Int) - 4)))) - 4)),.int .i64 0])]:List AV)⟩])∧(decide ((B0 [.agg (A9 l 4 ((Int.toNat ((if 0>IntKind.wrap .i64 ((L:Int) - 4) then 0 else IntKind.wrap .i64 ((L:Int) - 4)))) - 4)),.int .i64 0]:Int)>131072)=false→
 q1 [.agg (A9 l 4 ((Int.toNat ((if 0>IntKind.wrap .i64 ((L:Int) - 4) then 0 else IntKind.wrap .i64 ((L:Int) - 4)))) - 4)),.ptr (.rw 0) ((Int.toNat ((if 0>IntKind.wrap .i64 ((L:Int) - 4) then 0 else IntKind.wrap .i64 ((L:Int) - 4)))) - 4),.int .i64 (A5 [.agg (A9 l 4 ((Int.toNat ((if 0>IntKind.wrap .i64 ((L:Int) - 4) then 0 else IntKind.wrap .i64 ((L:Int) - 4)))) - 4)),.int .i64 0]),.agg ([.int .i64 8,.func 64 []]:List AV)]=true∧(b1=true→(((e1:Int)==0)=true→q2 [.agg (A9 l 4 ((Int.toNat ((if 0>IntKind.wrap .i64 ((L:Int) - 4) then 0 else IntKind.wrap .i64 ((L:Int) - 4)))) - 4)),.ptr (.rw 0) ((Int.toNat ((if 0>IntKind.wrap .i64 ((L:Int) - 4) then 0 else IntKind.wrap .i64 ((L:Int) - 4)))) - 4),.int .i64 x1,.agg ([.int .i64 512,.func 67 []]:List AV)]=true∧(b2=true→(((e2:Int)==0)=true→(decide ((IntKind.wrap .i64 ((((Int.toNat ((if 0>IntKind.wrap .i64 ((L:Int) - 4) then 0 else IntKind.wrap .i64 ((L:Int) - 4)))) - 4:Nat):Int) - x2):Int)>0)=true→R (.func 987654 []) [some ⟨1,l⟩,some ⟨1,([.int .i64 (IntKind.wrap .i64 (B0 [.agg (A9 l 4 ((Int.toNat ((if 0>IntKind.wrap .i64 ((L:Int) - 4) then 0 else IntKind.wrap .i64 ((L:Int) - 4)))) - 4)),.int .i64 0])),.slice true (.ro ks) 0 n,.slice true (.ro kp) 0 m]:List AV)⟩,some ⟨1,([.int .i64 0]:List AV)⟩,some ⟨1,([.int .u8 83,.int .u8 84,.int .u8 68,.int .u8 1]:List AV)⟩,none,some ⟨1,(A9 l 4 ((Int.toNat ((if 0>IntKind.wrap .i64 ((L:Int) - 4) then 0 else IntKind.wrap .i64 ((L:Int) - 4)))) - 4))⟩,some ⟨1,([.slice false (.rw 5) 0 ((Int.toNat ((if 0>IntKind.wrap .i64 ((L:Int) - 4) then 0 else IntKind.wrap .i64 ((L:Int) - 4)))) - 4),.int .i64 x2]:List AV)⟩])∧
 (decide ((IntKind.wrap .i64 ((((Int.toNat ((if 0>IntKind.wrap .i64 ((L:Int) - 4) then 0 else IntKind.wrap .i64 ((L:Int) - 4)))) - 4:Nat):Int) - x2):Int)>0)=false→q3 [.agg ([.agg ([.int .i64 (IntKind.wrap .i64 (B0 [.agg (A9 l 4 ((Int.toNat ((if 0>IntKind.wrap .i64 ((L:Int) - 4) then 0 else IntKind.wrap .i64 ((L:Int) - 4)))) - 4)),.int .i64 0])),.slice true (.ro ks) 0 n,.slice true (.ro kp) 0 m]:List AV)]:List AV),.agg ([]:List AV)]=true∧(my=true→leB (List.length f) (List.length f)=true∧u8s (A9 f 0 (List.length f))=true∧leB L (List.length l)=true∧u8s (A9 l 0 L)=true∧((((O8 (A9 f 0 (List.length f))):List UInt8)==(O8 (A9 l 0 L)))=true→Q .ret [.slice false (.rw 0) 0 L,.ptr (.rw 1) 0,.ptr (.rw 2) 0] [some ⟨1,l⟩,some ⟨1,([.int .i64 (IntKind.wrap .i64 (B0 [.agg (A9 l 4 ((Int.toNat ((if 0>IntKind.wrap .i64 ((L:Int) - 4) then 0 else IntKind.wrap .i64 ((L:Int) - 4)))) - 4)),.int .i64 0])),.slice true (.ro ks) 0 n,.slice true (.ro kp) 0 m]:List AV)⟩,some ⟨1,([.int .i64 0]:List AV)⟩,some ⟨1,([.int .u8 83,.int .u8 84,.int .u8 68,.int .u8 1]:List AV)⟩,none,some ⟨1,(A9 l 4 ((Int.toNat ((if 0>IntKind.wrap .i64 ((L:Int) - 4) then 0 else IntKind.wrap .i64 ((L:Int) - 4)))) - 4))⟩,some ⟨1,([.slice false (.rw 5) 0 ((Int.toNat ((if 0>IntKind.wrap .i64 ((L:Int) - 4) then 0 else IntKind.wrap .i64 ((L:Int) - 4)))) - 4),.int .i64 x2]:List AV)⟩,some ⟨1,f⟩])∧((((O8 (A9 f 0 (List.length f))):List UInt8)==(O8 (A9 l 0 L)))=false→
 R (.func 987654 []) [some ⟨1,l⟩,some ⟨1,([.int .i64 (IntKind.wrap .i64 (B0 [.agg (A9 l 4 ((Int.toNat ((if 0>IntKind.wrap .i64 ((L:Int) - 4) then 0 else IntKind.wrap .i64 ((L:Int) - 4)))) - 4)),.int .i64 0])),.slice true (.ro ks) 0 n,.slice true (.ro kp) 0 m]:List AV)⟩,some ⟨1,([.int .i64 0]:List AV)⟩,some ⟨1,([.int .u8 83,.int .u8 84,.int .u8 68,.int .u8 1]:List AV)⟩,none,some ⟨1,(A9 l 4 ((Int.toNat ((if 0>IntKind.wrap .i64 ((L:Int) - 4) then 0 else IntKind.wrap .i64 ((L:Int) - 4)))) - 4))⟩,some ⟨1,([.slice false (.rw 5) 0 ((Int.toNat ((if 0>IntKind.wrap .i64 ((L:Int) - 4) then 0 else IntKind.wrap .i64 ((L:Int) - 4)))) - 4),.int .i64 x2]:List AV)⟩,some ⟨1,f⟩]))∧(my=false→R (.func 987654 []) [some ⟨1,l⟩,some ⟨1,([.int .i64 (IntKind.wrap .i64 (B0 [.agg (A9 l 4 ((Int.toNat ((if 0>IntKind.wrap .i64 ((L:Int) - 4) then 0 else IntKind.wrap .i64 ((L:Int) - 4)))) - 4)),.int .i64 0])),.slice true (.ro ks) 0 n,.slice true (.ro kp) 0 m]:List AV)⟩,some ⟨1,([.int .i64 0]:List AV)⟩,some ⟨1,([.int .u8 83,.int .u8 84,.int .u8 68,.int .u8 1]:List AV)⟩,none,some ⟨1,(A9 l 4 ((Int.toNat ((if 0>IntKind.wrap .i64 ((L:Int) - 4) then 0 else IntKind.wrap .i64 ((L:Int) - 4)))) - 4))⟩,some ⟨1,([.slice false (.rw 5) 0 ((Int.toNat ((if 0>IntKind.wrap .i64 ((L:Int) - 4) then 0 else IntKind.wrap .i64 ((L:Int) - 4)))) - 4),.int .i64 x2]:List AV)⟩])))∧(((e2:Int)==0)=false→
 R (.func 987654 []) [some ⟨1,l⟩,some ⟨1,([.int .i64 (IntKind.wrap .i64 (B0 [.agg (A9 l 4 ((Int.toNat ((if 0>IntKind.wrap .i64 ((L:Int) - 4) then 0 else IntKind.wrap .i64 ((L:Int) - 4)))) - 4)),.int .i64 0])),.slice true (.ro ks) 0 n,.nils]:List AV)⟩,some ⟨1,([.int .i64 0]:List AV)⟩,some ⟨1,([.int .u8 83,.int .u8 84,.int .u8 68,.int .u8 1]:List AV)⟩,none,some ⟨1,(A9 l 4 ((Int.toNat ((if 0>IntKind.wrap .i64 ((L:Int) - 4) then 0 else IntKind.wrap .i64 ((L:Int) - 4)))) - 4))⟩,some ⟨1,([.slice false (.rw 5) 0 ((Int.toNat ((if 0>IntKind.wrap .i64 ((L:Int) - 4) then 0 else IntKind.wrap .i64 ((L:Int) - 4)))) - 4),.int .i64 x2]:List AV)⟩]))∧(b2=false→R (.func 987654 []) [some ⟨1,l⟩,some ⟨1,([.int .i64 (IntKind.wrap .i64 (B0 [.agg (A9 l 4 ((Int.toNat ((if 0>IntKind.wrap .i64 ((L:Int) - 4) then 0 else IntKind.wrap .i64 ((L:Int) - 4)))) - 4)),.int .i64 0])),.slice true (.ro ks) 0 n,.nils]:List AV)⟩,some ⟨1,([.int .i64 0]:List AV)⟩,some ⟨1,([.int .u8 83,.int .u8 84,.int .u8 68,.int .u8 1]:List AV)⟩,none,none,none]))∧(((e1:Int)==0)=false→
 R (.func 987654 []) [some ⟨1,l⟩,some ⟨1,([.int .i64 (IntKind.wrap .i64 (B0 [.agg (A9 l 4 ((Int.toNat ((if 0>IntKind.wrap .i64 ((L:Int) - 4) then 0 else IntKind.wrap .i64 ((L:Int) - 4)))) - 4)),.int .i64 0])),.nils,.nils]:List AV)⟩,some ⟨1,([.int .i64 0]:List AV)⟩,some ⟨1,([.int .u8 83,.int .u8 84,.int .u8 68,.int .u8 1]:List AV)⟩,none,some ⟨1,(A9 l 4 ((Int.toNat ((if 0>IntKind.wrap .i64 ((L:Int) - 4) then 0 else IntKind.wrap .i64 ((L:Int) - 4)))) - 4))⟩,some ⟨1,([.slice false (.rw 5) 0 ((Int.toNat ((if 0>IntKind.wrap .i64 ((L:Int) - 4) then 0 else IntKind.wrap .i64 ((L:Int) - 4)))) - 4),.int .i64 x1]:List AV)⟩]))∧(b1=false→R (.func 987654 []) [some ⟨1,l⟩,some ⟨1,([.int .i64 (IntKind.wrap .i64 (B0 [.agg (A9 l 4 ((Int.toNat ((if 0>IntKind.wrap .i64 ((L:Int) - 4) then 0 else IntKind.wrap .i64 ((L:Int) - 4)))) - 4)),.int .i64 0])),.nils,.nils]:List AV)⟩,some ⟨1,([.int .i64 0]:List AV)⟩,some ⟨1,([.int .u8 83,.int .u8 84,.int .u8 68,.int .u8 1]:List AV)⟩,none,none,none])))∧(((D3 [.agg (A9 l 4 ((Int.toNat ((if 0>IntKind.wrap .i64 ((L:Int) - 4) then 0 else IntKind.wrap .i64 ((L:Int) - 4)))) - 4)),.int .i64 0]:Int)==0)=false→
 R (.func 987654 []) [some ⟨1,l⟩,some ⟨1,([.int .i64 0,.nils,.nils]:List AV)⟩,some ⟨1,([.int .i64 0]:List AV)⟩,some ⟨1,([.int .u8 83,.int .u8 84,.int .u8 68,.int .u8 1]:List AV)⟩,none,some ⟨1,(A9 l 4 ((Int.toNat ((if 0>IntKind.wrap .i64 ((L:Int) - 4) then 0 else IntKind.wrap .i64 ((L:Int) - 4)))) - 4))⟩,some ⟨1,([.slice false (.rw 5) 0 ((Int.toNat ((if 0>IntKind.wrap .i64 ((L:Int) - 4) then 0 else IntKind.wrap .i64 ((L:Int) - 4)))) - 4),.int .i64 (A5 [.agg (A9 l 4 ((Int.toNat ((if 0>IntKind.wrap .i64 ((L:Int) - 4) then 0 else IntKind.wrap .i64 ((L:Int) - 4)))) - 4)),.int .i64 0])]:List AV)⟩]))∧((((O8 (A9 l 0 4)):List UInt8)==(O8 ([.int .u8 83,.int .u8 84,.int .u8 68,.int .u8 1]:List AV)))=false→R (.func 987654 []) [some ⟨1,l⟩,some ⟨1,([.int .i64 0,.nils,.nils]:List AV)⟩,some ⟨1,([.int .i64 0]:List AV)⟩,some ⟨1,([.int .u8 83,.int .u8 84,.int .u8 68,.int .u8 1]:List AV)⟩]))∧(decide ((((Int.toNat ((if 0>IntKind.wrap .i64 ((L:Int) - 4) then 0 else IntKind.wrap .i64 ((L:Int) - 4))):Nat):Int):Int)≥4)=false→R (.func 987654 []) [some ⟨1,l⟩,some ⟨1,([.int .i64 0,.nils,.nils]:List AV)⟩,some ⟨1,([.int .i64 0]:List AV)⟩,some ⟨1,([.int .u8 83,.int .u8 84,.int .u8 68,.int .u8 1]:List AV)⟩])):=by kernel_rfl
def cyes:Code→Code
 | .seq _ (.cond _ c _)=>c
 | _=>.skip
def cno:Code→Code
 | .cond _ _ c=>c
 | _=>.skip
def blkC:Code→Code
 | .block _ c=>c
 | _=>.skip
def eG : Oper := { dst := some 8, op := .typeAssert (.tmp 5) 20 96 true, type := 0, pos := "image.go:125", after := #[], guard := none }
def mG : Oper := { dst := some 9, op := .extract (.tmp 8) 1, type := 4, pos := "image.go:125", after := #[{ on := 0, ground := .data }], guard := none }
def mF : Oper := { dst := some 10, op := .extract (.tmp 8) 0, type := 96, pos := "image.go:125", after := #[{ on := 0, ground := .data }], guard := none }
theorem z58_eq:z58=.seq (.region 5 #[eG,mG,mF] false) (.cond (.tmp 9) (cyes (cno (J5 (blkC (J5 (C6 Try.f58)))))) (cno (J5 z58))):=by kernel_rfl
theorem run58a {e:Operand→Value} {w:World} (h:e (.tmp 5)=.iface 96 (.agg #[])):(execOp e eG).run Try.prog w=.ok (.value (.tuple #[.agg #[],.bool true])) w:=by
 simp only [execOp,eG,h];rfl
section
variable (G:Nat→List AV) (B:Nat)
theorem sT {C:A0} {lps:List Code} (g0:Fl (K0 C) lps) {all:List Oper} {r:Option Nat} {Q:Exit→Act→World→Prop}:∀ {l:List Oper} {F F':Fr} {H H':Hp} {trs:List Tr},DT (K0 C) all l F H trs F' H'→∀ (ρ:Env) (a:Act) (w:World),B1 C ρ H w→D0 ρ F a→
  (∀ ρ' a' w',B1 C ρ' H' w'→D0 ρ' F' a'→ρ.le ρ'→Frm ρ w ρ' w'→a'.defers=a.defers→Q .normal a' w')→wpListIn (W r) 0 C.P all.toArray Q l a w:=by
 intro l F F' H H' trs h
 induction h with
 | nil F H=>exact fun ρ a w hH hF hQ=>hQ ρ a w hH hF (Env.le_refl ρ) (Frm.refl ρ w) rfl
 | @cons o l F F' H H' H'' tr v trs hst _ ih=>
  intro ρ a w hH hF hQ;unfold wpListIn;refine St.sound g0 hst hH hF (r:=r) (fun ρ1 cv w1 h1 h2 h3 h4=>?_);refine ih ρ1 _ w1 h1 ((hF.mono h3).put _ _ _ h2) fun ρ' a' w' q1 q2 q3 q4 q5=>hQ ρ' a' w' q1 q2 (Env.le_trans h3 q3) (h4.trans q4) (q5.trans ?_);cases o.dst<;>rfl
def o6a : Oper := { dst := some 3, op := .alloc 96, type := 0, pos := "image.go:125", after := #[], guard := none }
def o6b : Oper := { dst := none, op := .store 96 (.tmp 3) (.tmp 10), type := 0, pos := "image.go:125", after := #[{ on := 0, ground := .data }, { on := 0, ground := .phase }], guard := none }
def o7a : Oper := { dst := some 11, op := .build 25 #[], type := 25, pos := "image.go:128", after := #[], guard := none }
def o7b : Oper := { dst := none, op := .store 25 (.tmp 0) (.tmp 11), type := 0, pos := "image.go:128", after := #[{ on := 0, ground := .data }, { on := 0, ground := .phase }], guard := none }
def o7c : Oper := { dst := none, op := .store 29 (.tmp 1) (.const (.int .i64 4)), type := 0, pos := "image.go:128", after := #[{ on := 1, ground := .chain }, { on := 0, ground := .phase }, { on := 1, ground := .phase }], guard := none }
theorem c58_eq:(cyes (cno (J5 (blkC (J5 (C6 Try.f58))))))=.seq (.region 6 #[o6a,o6b] false) (.region 7 #[o7a,o7b,o7c] false):=by kernel_rfl
theorem w6a (l:List AV):G7 (⟨Try.prog,G,B⟩:A0) (fl 12 [0,1,10] [.ptr (.rw 1) 0,.ptr (.rw 2) 0,.agg []]) [some ⟨1,l⟩,some ⟨1,[.undef,.undef,.undef]⟩,some ⟨1,[.undef]⟩] o6a.op=some (true,.ptr (.rw 3) 0,.new ⟨1,[]⟩):=by kernel_rfl
theorem w6b (l:List AV):G7 (⟨Try.prog,G,B⟩:A0) (put (fl 12 [0,1,10] [.ptr (.rw 1) 0,.ptr (.rw 2) 0,.agg []]) (some 3) (.ptr (.rw 3) 0)) [some ⟨1,l⟩,some ⟨1,[.undef,.undef,.undef]⟩,some ⟨1,[.undef]⟩,some ⟨1,[]⟩] o6b.op=some (true,.tup [],.set 3 ⟨1,[]⟩):=by kernel_rfl
theorem w7a (G:Nat→List AV) (B:Nat):F8 Try.prog (put (put (fl 12 [0,1,10] [.ptr (.rw 1) 0,.ptr (.rw 2) 0,.agg []]) (some 3) (.ptr (.rw 3) 0)) none (.tup [])) o7a.op=some (true,.agg [.int .i64 0,.nils,.nils]):=by kernel_rfl
theorem w7b (l:List AV):G7 (⟨Try.prog,G,B⟩:A0) (put (put (put (fl 12 [0,1,10] [.ptr (.rw 1) 0,.ptr (.rw 2) 0,.agg []]) (some 3) (.ptr (.rw 3) 0)) none (.tup [])) (some 11) (.agg [.int .i64 0,.nils,.nils])) [some ⟨1,l⟩,some ⟨1,[.undef,.undef,.undef]⟩,some ⟨1,[.undef]⟩,some ⟨1,[]⟩] o7b.op=some (true,.tup [],.set 1 ⟨1,[.int .i64 0,.nils,.nils]⟩):=by kernel_rfl
theorem w7c (l:List AV):G7 (⟨Try.prog,G,B⟩:A0) (put (put (put (put (fl 12 [0,1,10] [.ptr (.rw 1) 0,.ptr (.rw 2) 0,.agg []]) (some 3) (.ptr (.rw 3) 0)) none (.tup [])) (some 11) (.agg [.int .i64 0,.nils,.nils])) none (.tup [])) [some ⟨1,l⟩,some ⟨1,[.int .i64 0,.nils,.nils]⟩,some ⟨1,[.undef]⟩,some ⟨1,[]⟩] o7c.op=some (true,.tup [],.set 2 ⟨1,[.int .i64 4]⟩):=by kernel_rfl
theorem und3 (x y z:AV) (h:isRec ⟨1,[x,y,z]⟩=false):aG ⟨1,[x,y,z]⟩ ⟨1,[.undef,.undef,.undef]⟩:=.inr ⟨rfl,h,rfl,fun j v hj=>by
 match j,hj with
 | 0,hj=>simp at hj;subst hj;exact ⟨x,rfl,fun ρ cv _=>by simp [VR]⟩
 | 1,hj=>simp at hj;subst hj;exact ⟨y,rfl,fun ρ cv _=>by simp [VR]⟩
 | 2,hj=>simp at hj;subst hj;exact ⟨z,rfl,fun ρ cv _=>by simp [VR]⟩⟩
theorem und1 (x:AV) (h:isRec ⟨1,[x]⟩=false):aG ⟨1,[x]⟩ ⟨1,[.undef]⟩:=.inr ⟨rfl,h,rfl,fun j v hj=>by
 match j,hj with
 | 0,hj=>simp at hj;subst hj;exact ⟨x,rfl,fun ρ cv _=>by simp [VR]⟩⟩
theorem tail58 (l:List AV) (E:Hp) (hl:u8s l=true) {ρ:Env} {w:World} {a0:Act} (hT:B1 (⟨Try.prog,G,B⟩:A0) ρ ([some ⟨1,l⟩,some ⟨1,[.undef,.undef,.undef]⟩,some ⟨1,[.undef]⟩]++E) w) (hd:a0.defers=[]) (hs:a0.tmps.size=12) (q0:VR ρ (.ptr (.rw 1) 0) (a0.tmps.getD 0 undef)) (q1:VR ρ (.ptr (.rw 2) 0) (a0.tmps.getD 1 undef)) (q2:VR ρ (.agg []) (a0.tmps.getD 10 undef))
  {Q:Exit→Act→World→Prop} (hQ:∀ ρ3 a' w3,K9 3 ρ ρ3→B1 (⟨Try.prog,G,B⟩:A0) ρ3 [some ⟨1,l⟩,some ⟨1,[.int .i64 0,.nils,.nils]⟩,some ⟨1,[.int .i64 4]⟩,some ⟨1,[]⟩] w3→Frm ρ w ρ3 w3→a'.defers=[]→Q .normal a' w3):(cyes (cno (J5 (blkC (J5 (C6 Try.f58)))))).wpIn (W none) 0 Try.prog Q a0 w:=by
 have hv:C2 3 [.ptr (.rw 1) 0,.ptr (.rw 2) 0,.agg []] [some ⟨1,l⟩,some ⟨1,[.undef,.undef,.undef]⟩,some ⟨1,[.undef]⟩] [.ptr (.rw 1) 0,.ptr (.rw 2) 0,.agg []] ([some ⟨1,l⟩,some ⟨1,[.undef,.undef,.undef]⟩,some ⟨1,[.undef]⟩]++E):=C2.same (by simp) (by simp [H9,C4 hl,A3,A8]) ⟨⟨rfl,rfl⟩,⟨rfl,rfl⟩,⟨rfl,rfl⟩,trivial⟩
 obtain ⟨ρ2,g1,g2,g3,g4⟩:=hv.live (N:=12) (live:=[0,1,10]) (a:=a0) hT (by obtain ⟨t,d⟩:=a0;cases hd;exact pL.nil) hs rfl (fun j i v h1 h2=>by
  match j,h1,h2 with
  | 0,h1,h2=>simp at h1 h2;subst h1 h2;exact q0
  | 1,h1,h2=>simp at h1 h2;subst h1 h2;exact q1
  | 2,h1,h2=>simp at h1 h2;subst h1 h2;exact q2)
 have g0:=Lg (C:=(⟨Try.prog,G,B⟩:A0)) (mix G B) [];rw [c58_eq];refine wpIn_seq (wpIn_region_list ?_);refine sT g0 (all:=[o6a,o6b]) (l:=[o6a,o6b]) (.cons (o:=o6a) (.write rfl (by kernel_rfl) (w6a G B l)) (.cons (o:=o6b) (.write rfl (by kernel_rfl) (w6b G B l)) (.nil _ _))) ρ2 a0 w g1 g2 fun ρ4 a4 w4 k1 k2 k3 k4 k5=>?_;refine wpIn_region_list ?_
 refine sT g0 (all:=[o7a,o7b,o7c]) (l:=[o7a,o7b,o7c]) (.cons (o:=o7a) (.pure rfl (by kernel_rfl) (w7a G B)) (.cons (o:=o7b) (.write rfl (by kernel_rfl) (w7b G B l)) (.cons (o:=o7c) (.write rfl (by kernel_rfl) (w7c G B l)) (.nil _ _)))) ρ4 a4 w4 k1 k2 fun ρ5 a5 w5 j1 j2 j3 j4 j5=>?_;exact hQ ρ5 a5 w5 (g3.trans (K9.of_le g1 (Env.le_trans k3 j3) (by simp))) j1 (g4.trans (k4.trans j4)) (j5.trans (k5.trans hd))
theorem mend58 (l:List AV) (E:Hp) (x y z u:AV) (hl:u8s l=true) {ρ:Env} {w:World} {p2 p3:Value} (hH:B1 (⟨Try.prog,G,B⟩:A0) ρ ([some ⟨1,l⟩,some ⟨1,[x,y,z]⟩,some ⟨1,[u]⟩]++E) w) (h2:VR ρ (.ptr (.rw 1) 0) p2) (h3:VR ρ (.ptr (.rw 2) 0) p3) :
  CallsDIn Fence.wide 0 Try.prog 58 #[p2,p3] (.panicking (PX 96)) w fun e u' w3=>e=.returned (.tuple #[])∧settle u'=.returning∧∃ ρ3,K9 3 ρ ρ3∧B1 (⟨Try.prog,G,B⟩:A0) ρ3 [some ⟨1,l⟩,some ⟨1,[.int .i64 0,.nils,.nils]⟩,some ⟨1,[.int .i64 4]⟩,some ⟨1,[]⟩] w3∧Frm ρ w ρ3 w3:=by
 refine callsDIn_of_wpSIn (fn:=Try.f58) (c:=C6 Try.f58) (by kernel_rfl) (by kernel_rfl) trivial fun c₀ cs hu=>?_;rw [aA9];have hnt:Try.f58.ntmps=12:=by kernel_rfl
 have hres:Try.f58.results=#[]:=by kernel_rfl
 rw [hnt];apply wpSIn_seq;apply wpSIn_region;have hr:recoverD (c₀::cs)=some (.iface 96 (.agg #[]),{ c₀ with mode:=.panicking [{ v:=.iface 96 (.agg #[]),recovered:=true }] }::cs):=by simp [recoverD,hu,PX]
 have e0:List.range (#[o58]:Array Oper).size=[0]:=rfl;rw [e0];unfold wpOpsSIn;have e1:(#[o58]:Array Oper)[0]?=some o58:=rfl;rw [e1];refine ⟨fun _ _=>trivial,?_⟩;rw [if_pos (by rfl),xO];simp only [hr];unfold wpOpsSIn;show Exit.thenS _ _ .normal _ _ _;unfold Exit.thenS;refine wpSIn_of_wpIn rfl (wpIn_block (wpIn_seq (wpIn_region_list ?_)));simp [wpListIn,Oper.wpIn,q58,o58,go_sem];refine wpIn_cond_false (by simp [Act.eval,Array.replicate]) ?_;rw [z58_eq];refine wpIn_seq (wpIn_region_list ?_);show wpListIn (W none) 0 Try.prog #[eG,mG,mF] _ [eG,mG,mF] _ w;unfold wpListIn
 rw [if_pos (by rfl)];refine U0 (by rintro c hh;cases hh) ?_;rw [run58a (by simp [Act.eval,Array.replicate])];show wpListIn Fence.wide 0 Try.prog _ _ [mG,mF] _ w;simp [wpListIn,Oper.wpIn,eG,mG,mF,go_sem];refine wpIn_cond_true (by simp [Act.eval,Array.replicate]) ?_;have hT:B1 (⟨Try.prog,G,B⟩:A0) ρ ([some ⟨1,l⟩,some ⟨1,[.undef,.undef,.undef]⟩,some ⟨1,[.undef]⟩]++E) w:=hH.tell (Tt (A:=[some ⟨1,l⟩,some ⟨1,[x,y,z]⟩,some ⟨1,[u]⟩]) ⟨.inl rfl,und3 x y z rfl,und1 u rfl,trivial⟩ (Rc E))
 refine tail58 G B l E hl hT rfl (by simp) (by simpa using h2) (by simpa using h3) (by simp [VR,VRs,Array.replicate]) fun ρ3 a' w3 k1 k2 k3 k4=>?_;simp only [Exit.inBlock,bodyPostS];exact ⟨k4,_,rfl,.tuple #[],by simp [results,hres],rfl,rfl,ρ3,k1,k2,k3⟩
end
theorem xH {s:List AV} {N:Nat} {p:Int}:Z9 s N p=true↔Ah s p=true∧Ah s (d1 s p)=true∧uS s N (d2 s p)=true∧Ah s (d3 s N p)=true:=by
 simp only [Z9,zN]
structure SecIs (s:List AV) (N:Nat) (p:Int):Prop where
 nx:J2 s N (d4 s N p)
 a:0≤dA s p∧dA s p≤131072
 r:0≤Da s p∧Da s p≤131072
 z:0≤dZ s N p∧dZ s N p≤131072
 n:(dD s N p).length=dN s N p∧dN s N p≤8192
 d:I9 (dD s N p)=true
theorem sec_is {s:List AV} {N:Nat} {p:Int} (h:J2 s N p) (hk:Z9 s N p=true):SecIs s N p:=by
 obtain ⟨o1,o2,o3,o4⟩:=xH.1 hk;obtain ⟨q1,l1⟩:=T4.1 o1;obtain ⟨q2,l2⟩:=T4.1 o2;obtain ⟨q4,l4⟩:=T4.1 o4;obtain ⟨r1,v1,_⟩:=N8 h q1;obtain ⟨r2,v2,_⟩:=N8 r1 q2;obtain ⟨r3,v3,w3,b3⟩:=rN (M:=8192) r2 (eq_of_beq o3);obtain ⟨r4,v4,_⟩:=N8 r3 q4;exact ⟨r4,⟨v1,l1⟩,⟨v2,l2⟩,⟨v4,l4⟩,⟨v3,w3⟩,b3⟩
theorem eM {s:List AV} {N:Nat} {p:Int} {n:Nat} (h:J2 s N p) (ha:Fk s N p n=true):∀ k,k≤n→J2 s N (B4 s N p k)
 | 0,_=>h
 | k+1,hk=>(sec_is (eM h ha k (by omega)) (F6.1 ha k (by omega))).nx
theorem pF {s:List AV} {N:Nat} {p:Int} {n:Nat} (h:J2 s N p) (ha:Fk s N p n=true) (k:Nat) (hk:k<n):SecIs s N (B4 s N p k):=
 sec_is (eM h ha k (by omega)) (F6.1 ha k hk)
theorem eO {s:List AV} {N:Nat} {p:Int} {n:Nat} (h:J2 s N p) (ha:Ig s p n=true):∀ k,k≤n→J2 s N (I0 s p k)∧(k<n→0≤dA s (I0 s p k)∧dA s (I0 s p k)≤131072)
 | 0,hk=>⟨h,fun hk=>by
  have o:=F6.1 ha 0 hk;simp only [En,zN] at o;obtain ⟨q1,l1⟩:=T4.1 o.1
  exact ⟨(N8 h q1).2.1,l1⟩⟩
 | k+1,hk=>by
  have o:=F6.1 ha k (by omega);simp only [En,zN] at o;obtain ⟨q1,l1⟩:=T4.1 o.1;have r1:=(eO h ha k (by omega)).1;have r2:J2 s N (I0 s p (k+1)):=rK (N8 r1 q1).1 (eq_of_beq o.2);refine ⟨r2,fun hk'=>?_⟩;have o':=F6.1 ha (k+1) hk';simp only [En,zN] at o';obtain ⟨q1',l1'⟩:=T4.1 o'.1;exact ⟨(N8 r2 q1').2.1,l1'⟩
theorem cJ {s:List AV} {N n:Nat} {p:Int} {kd:Nat→Nat} {j b:Nat} (hj:j<n) (hb:b<4):(M6 s N p kd n)[j*4+b]?=some (tY s N p kd j b):=P9 (f:=tY s N p kd) hj hb
theorem vP {s:List AV} {m:Nat} {p':Int} {j b:Nat} (hj:j<m) (hb:b<2):(R8 s p' m)[j*2+b]?=some (plcD s p' j b):=P9 (f:=plcD s p') hj hb
theorem kL {s:List AV} {N n:Nat} {p:Int} {kd:Nat→Nat} {j:Nat} (hj:j<n):sA (M6 s N p kd n) j=dA s (B4 s N p j)∧sR (M6 s N p kd n) j=Da s (B4 s N p j)∧sN (M6 s N p kd n) j=dN s N (B4 s N p j)∧sZ (M6 s N p kd n) j=dZ s N (B4 s N p j)∧E9 (M6 s N p kd n) (j*4+2)=0∧C8 (M6 s N p kd n) (j*4+2)=kd j:=by
 have e0:=cJ (s:=s) (N:=N) (p:=p) (kd:=kd) hj (b:=0) (by omega);have e1:=cJ (s:=s) (N:=N) (p:=p) (kd:=kd) hj (b:=1) (by omega);have e2:=cJ (s:=s) (N:=N) (p:=p) (kd:=kd) hj (b:=2) (by omega);have e3:=cJ (s:=s) (N:=N) (p:=p) (kd:=kd) hj (b:=3) (by omega);rw [Nat.add_zero] at e0;refine ⟨?_,?_,?_,?_,?_,?_⟩
 ·unfold sA A1;rw [e0];rfl
 ·unfold sR A1;rw [e1];rfl
 ·unfold sN C7;rw [e2];rfl
 ·unfold sZ A1;rw [e3];rfl
 ·unfold E9;rw [e2];rfl
 ·unfold C8;rw [e2];rfl
theorem ct_sec {s:List AV} {N n:Nat} {p:Int} {kd:Nat→Nat}:(M6 s N p kd n)=D2 (M6 s N p kd n) n (dR (M6 s N p kd n)):=by
 have:M6 s N p kd n=M7 n 4 (Ty (M6 s N p kd n) (dR (M6 s N p kd n))):=J0 fun a b ha hb=>by
  obtain ⟨h1,h2,h3,h4,h5,h6⟩:=kL (s:=s) (N:=N) (p:=p) (kd:=kd) ha
  match b,hb with
  | 0,_=>show AV.int .i64 _=.int .i64 (sA (M6 s N p kd n) a);rw [h1]
  | 1,_=>show AV.int .i64 _=.int .i64 (sR (M6 s N p kd n) a);rw [h2]
  | 2,_=>show AV.slice true (.ro (kd a)) 0 (dN s N (B4 s N p a))=dR (M6 s N p kd n) a;unfold dR;rw [h3,h5,h6]
  | 3,_=>show AV.int .i64 _=.int .i64 (sZ (M6 s N p kd n) a);rw [h4]
 exact this
theorem aA2 {s:List AV} {m:Nat} {p':Int}:(R8 s p' m)=G2 (xP (R8 s p' m)) (R8 s p' m) m:=by
 have:R8 s p' m=M7 m 2 (mN (xP (R8 s p' m)) (R8 s p' m)):=J0 fun a b ha hb=>by
  have e0:=vP (s:=s) (p':=p') ha (b:=0) (by omega);have e1:=vP (s:=s) (p':=p') ha (b:=1) (by omega);rw [Nat.add_zero] at e0
  match b,hb with
  | 0,_=>show AV.int .i64 _=.int .i64 (xP (R8 s p' m) a);unfold xP A1;rw [e0];rfl
  | 1,_=>show AV.bool _=.bool (hP (R8 s p' m) a);unfold hP E1;rw [e1];rfl
 exact this
theorem aB5:∀ {l:List AV},I9 l=true→∃ b,Ao b∧l=O2 b
 | [],_=>⟨[],fun x hx=>by simp at hx,rfl⟩
 | v::l,h=>by
  have h':b8 v=true∧I9 l=true:=by simpa only [I9,List.all_cons,zN] using h
  obtain ⟨b,h1,h2⟩:=aB5 h'.2;have hv:=h'.1;unfold b8 at hv;split at hv
  ·rename_i n;simp only [zN,xE] at hv;refine ⟨n.toNat::b,fun x hx=>?_,?_⟩
   ·rcases List.mem_cons.1 hx with rfl | hx
    ·omega
    ·exact h1 x hx
   ·rw [h2];show _=AV.int .u8 ((n.toNat:Nat):Int)::O2 b;rw [show ((n.toNat:Nat):Int)=n by omega]
  ·cases hv
theorem ct_ok {s:List AV} {N n:Nat} {p:Int} {kd:Nat→Nat}:I6 (M6 s N p kd n) n=true:=F6.2 fun j hj=>by
 have e:∀ b,b<4→(M6 s N p kd n)[j*4+b]?=some (tY s N p kd j b):=fun b hb=>cJ hj hb;have e0:=e 0 (by omega);rw [Nat.add_zero] at e0;have e2:Fd (M6 s N p kd n) (j*4+1+1)=true:=by unfold Fd;rw [e 2 (by omega)];rfl
 simp only [E5,Ak,isI,e0,e 1 (by omega),e2,zN];have e3:=e 3 (by omega);rw [show j*4+1+1+1=j*4+3 by omega,e3];exact ⟨rfl,rfl,trivial,rfl,trivial⟩
theorem cp_ok {s:List AV} {N m:Nat} {p':Int} (h:J2 s N p') (hp:Ig s p' m=true):Q4 (R8 s p' m) m=true:=by
 have:=mM (f:=xP (R8 s p' m)) (ps:=(R8 s p' m)) (m:=m) fun j hj=>by
  have e0:=vP (s:=s) (p':=p') hj (b:=0) (by omega);rw [Nat.add_zero] at e0;have e:xP (R8 s p' m) j=dA s (I0 s p' j):=by unfold xP A1;rw [e0];rfl
  have:=(eO h hp j (by omega)).2 hj
  rw [e];omega
 rw [←aA2] at this;exact this
theorem aZ7 {G:Nat→List AV} {s:List AV} {N n m ks kp:Nat} {p p':Int} {kd:Nat→Nat} (h:J2 s N p) (ha:Fk s N p n=true) (h':J2 s N p') (hp:Ig s p' m=true) (h8:n≤8) (h512:m≤512)
  (hS:G ks=(M6 s N p kd n)) (hP:G kp=(R8 s p' m)) (hD:∀ j,j<n→G (kd j)=dD s N (B4 s N p j)):T2 G ks kp n m∧Gx G ks kp n m:=by
 have lS:((M6 s N p kd n)).length=n*4:=sY;have lP:((R8 s p' m)).length=m*2:=tA
 have dat:∀ j,j<n→G (C8 (G ks) (j*4+2))=dD s N (B4 s N p j)∧N4 G (G ks) j=dD s N (B4 s N p j):=fun j hj=>by
  obtain ⟨_,_,e3,_,e5,e6⟩:=kL (s:=s) (N:=N) (p:=p) (kd:=kd) hj;have e3:C7 (M6 s N p kd n) (j*4+2)=dN s N (B4 s N p j):=e3;have g:=pF h ha j hj;rw [hS];refine ⟨by rw [e6,hD j hj],?_⟩;unfold N4;rw [e3,e5,e6,hD j hj];exact J3 g.n.1
 have cS:cellsB (M6 s N p kd n)=true:=by
  unfold cellsB;rw [xM];intro v hv;unfold M6 M7 at hv;obtain ⟨j,hj,rfl⟩:=List.mem_map.1 hv;have hb:j % 4<4:=Nat.mod_lt _ (by omega);generalize j % 4=b at hb
  match b,hb with
  | 0,_=>rfl
  | 1,_=>rfl
  | 2,_=>rfl
  | 3,_=>rfl
 have cP:cellsB (R8 s p' m)=true:=by
  unfold cellsB;rw [xM];intro v hv;unfold R8 M7 at hv;obtain ⟨j,hj,rfl⟩:=List.mem_map.1 hv;have hb:j % 2<2:=Nat.mod_lt _ (by omega);generalize j % 2=b at hb
  match b,hb with
  | 0,_=>rfl
  | 1,_=>rfl
 refine ⟨⟨by rw [hS];exact ct_ok,by rw [hP];exact cp_ok h' hp,Dp.2 ⟨⟨by rw [hS];exact ct_ok,?_⟩,?_,fun j hj=>?_⟩,fun j hj=>?_⟩,⟨by rw [hS];exact ct_sec,fun j hj=>by rw [hS];exact (kL hj).2.2.2.2.1,fun j hj=>by rw [(dat j hj).1,(dat j hj).2],by rw [hP];exact aA2⟩⟩
 ·rw [hS];refine L1.2 ⟨⟨B2.2 (by omega),?_⟩,by omega,?_⟩
  ·rw [J3 lS];exact cS
  ·rw [J3 lS];exact So
 ·rw [hP];refine L1.2 ⟨⟨B2.2 (by omega),?_⟩,by omega,?_⟩
  ·rw [J3 lP];exact cP
  ·rw [J3 lP];exact Zu
 ·have g:=pF h ha j hj;obtain ⟨_,_,e3,_,e5,e6⟩:=kL (s:=s) (N:=N) (p:=p) (kd:=kd) hj;rw [(dat j hj).1,hS,e3,e5];have hu:=O3 g.d;refine L1.2 ⟨⟨B2.2 (by rw [g.n.1];omega),?_⟩,by have:=g.n.2;omega,?_⟩
  ·rw [Nat.mul_one,J3 g.n.1];exact L8 hu
  ·rw [Nat.mul_one,J3 g.n.1];exact C4 hu
 ·rw [(dat j hj).2];exact aB5 (pF h ha j hj).d
open Crc
theorem gP {C:A0} {rt:Nat} {f j:Nat} {q:List AV→Bool} {c:Bool} {b:EB} {x:EV} {a2:EI} {s:List AV} {N:Nat} {a:Int} {rest0:List AV} (hq:q=fun xs=>c&&Hy s N a rest0 xs) (hr:A3 0 rest0=true) (hv:A8 0 (vV C.G x)=true)
  (h:c=true→I9 s=true∧(vB C.G b=true→ACalls C f (.ptr (.rw 0) 0::rest0) [some ⟨1,[.slice false (.rw 1) 0 N,.int .i64 a]⟩,some ⟨1,s⟩] fun v' H'=>v'=vV C.G x∧H'=[some ⟨1,[.slice false (.rw 1) 0 N,.int .i64 (vI C.G a2)]⟩,some ⟨1,s⟩])
   ∧ (vB C.G b=false→ACallsX C rt f (.ptr (.rw 0) 0::rest0) [some ⟨1,[.slice false (.rw 1) 0 N,.int .i64 a]⟩,some ⟨1,s⟩] (fun _ _=>False) fun _=>True)):Jo C rt f (Ek j q b x a2):=by
 cases c with
 | true=>
  obtain ⟨h1,h2,h3⟩:=h rfl;exact aD7 (by rw [hq];simp) h1 hr hv h2 h3
 | false=>
  intro xs H c b' v hs hp ho hc;simp only [Ek] at ho;split at ho
  ·split at ho
   ·split at ho
    ·split at ho
     ·simp at ho
     ·simp only [zK,yN] at ho;obtain ⟨rfl,_⟩:=ho;rw [vB,hq] at hc;simp at hc
    ·simp at ho
   ·simp at ho
  ·simp at ho
theorem qN {ρ:Env} {k:Nat} {v cv:AV} {c:Value} (h:VR ρ (.tup [.nils,v]) c):VR ρ (.tup [.slice true (.ro k) 0 0,v]) c:=by
 simp only [VR] at h ⊢;obtain ⟨vs,e,hs⟩:=h;simp only [VRs] at hs;obtain ⟨x,ys,e1,e2,e3⟩:=hs;simp only [VRs];exact ⟨vs,e,x,ys,e1,Ll k 0 e2,e3⟩
def Ds (s:List AV) (M a:Int):Nat:=if M8 s M a=true then (B0 [.agg s,.int .i64 a]).toNat else 0
def lX (s:List AV) (N:Nat) (a:Int):Int:=if M8 s 8 a=true then B4 s N (d1 s a) (Ds s 8 a) else a
def lW (s:List AV) (a:Int):Int:=if M8 s 512 a=true then I0 s (d1 s a) (Ds s 512 a) else a
def Fs (s:List AV) (M a:Int):Int:=if M8 s M a=true then 0 else Fh s M a
def rvB (s:List AV) (N:Nat) (a:Int):Bool:=!(M8 s 8 a)||Fk s N (d1 s a) (Ds s 8 a)
def rvD (s:List AV) (a:Int):Bool:=!(M8 s 512 a)||Ig s (d1 s a) (Ds s 512 a)
theorem aN {s:List AV} {N M:Nat} {a:Int} (h:J2 s N a):Ds s (M:Int) a≤M∧(M8 s (M:Int) a=true→B0 [.agg s,.int .i64 a]=(Ds s (M:Int) a:Int)):=by
 unfold Ds;cases e:M8 s (M:Int) a with
 | false=>exact ⟨by simp,fun h=>by cases h⟩
 | true=>
  obtain ⟨q1,q2⟩:=S9.1 e
  have:=(N8 h q1).2.1
  rw [if_pos rfl];exact ⟨by omega,fun _=>by omega⟩
theorem k63 (G:Nat→List AV) (B:Nat) (s:List AV) (N ks:Nat) (a:Int) (kd:Nat→Nat) (hN:N≤1000000) (r0:J2 s N a) (hD:∀ j,j<Ds s 8 a→G (kd j)=dD s N (B4 s N (d1 s a) j)) (hS:G ks=M6 s N (d1 s a) kd (Ds s 8 a)) :
  (rvB s N a=true→ACalls (⟨Try.prog,G,B⟩:A0) 63 [.ptr (.rw 0) 0,.int .i64 8,.func 64 []] [some ⟨1,[.slice false (.rw 1) 0 N,.int .i64 a]⟩,some ⟨1,s⟩] fun v H=>v=.tup [.slice true (.ro ks) 0 (Ds s 8 a),.int .i64 (Fs s 8 a)]∧H=[some ⟨1,[.slice false (.rw 1) 0 N,.int .i64 (lX s N a)]⟩,some ⟨1,s⟩])
   ∧ (rvB s N a=false→ACallsX (⟨Try.prog,G,B⟩:A0) 96 63 [.ptr (.rw 0) 0,.int .i64 8,.func 64 []] [some ⟨1,[.slice false (.rw 1) 0 N,.int .i64 a]⟩,some ⟨1,s⟩] (fun _ _=>False) fun _=>True):=by
 have hn:=(aN (M:=8) r0).2;cases hc:M8 s 8 a with
 | true=>
  have eX:lX s N a=B4 s N (d1 s a) (Ds s 8 a):=by unfold lX;rw [if_pos hc]
  have eE:Fs s 8 a=0:=by unfold Fs;rw [if_pos hc]
  have eB:rvB s N a=Fk s N (d1 s a) (Ds s 8 a):=by unfold rvB;rw [hc];rfl
  rw [eX,eE,eB];exact ⟨fun h=>aE4 G B s N _ ks a kd hN r0 hc (hn hc) hD hS h,fun h=>aE3 G B s N _ ks a kd hN r0 hc (hn hc) hD hS h⟩
 | false=>
  have eX:lX s N a=a:=by unfold lX;rw [if_neg (by rw [hc];decide)]
  have eE:Fs s 8 a=Fh s 8 a:=by unfold Fs;rw [if_neg (by rw [hc];decide)]
  have eB:rvB s N a=true:=by unfold rvB;rw [hc];rfl
  have eC:Ds s 8 a=0:=by unfold Ds;rw [if_neg (by rw [hc];decide)]
  rw [eX,eE,eB,eC];exact ⟨fun _=>(aE2 G B s N a r0 hc).conv fun v H ⟨e1,e2⟩=>⟨_,⟨rfl,e2⟩,fun ρ cv hv=>by rw [e1] at hv;exact qN (cv:=.undef) hv⟩,fun h=>by cases h⟩
theorem k66 (G:Nat→List AV) (B:Nat) (s:List AV) (N kp:Nat) (a:Int) (hN:N≤1000000) (r0:J2 s N a) (hS:G kp=R8 s (d1 s a) (Ds s 512 a)) :
  (rvD s a=true→ACalls (⟨Try.prog,G,B⟩:A0) 66 [.ptr (.rw 0) 0,.int .i64 512,.func 67 []] [some ⟨1,[.slice false (.rw 1) 0 N,.int .i64 a]⟩,some ⟨1,s⟩] fun v H=>v=.tup [.slice true (.ro kp) 0 (Ds s 512 a),.int .i64 (Fs s 512 a)]∧H=[some ⟨1,[.slice false (.rw 1) 0 N,.int .i64 (lW s a)]⟩,some ⟨1,s⟩])
   ∧ (rvD s a=false→ACallsX (⟨Try.prog,G,B⟩:A0) 96 66 [.ptr (.rw 0) 0,.int .i64 512,.func 67 []] [some ⟨1,[.slice false (.rw 1) 0 N,.int .i64 a]⟩,some ⟨1,s⟩] (fun _ _=>False) fun _=>True):=by
 have hn:=(aN (M:=512) r0).2;cases hc:M8 s 512 a with
 | true=>
  have eX:lW s a=I0 s (d1 s a) (Ds s 512 a):=by unfold lW;rw [if_pos hc]
  have eE:Fs s 512 a=0:=by unfold Fs;rw [if_pos hc]
  have eB:rvD s a=Ig s (d1 s a) (Ds s 512 a):=by unfold rvD;rw [hc];rfl
  rw [eX,eE,eB];exact ⟨fun h=>aE1 G B s N _ kp a hN r0 hc (hn hc) hS h,fun h=>aE0 G B s N _ kp a hN r0 hc (hn hc) hS h⟩
 | false=>
  have eX:lW s a=a:=by unfold lW;rw [if_neg (by rw [hc];decide)]
  have eE:Fs s 512 a=Fh s 512 a:=by unfold Fs;rw [if_neg (by rw [hc];decide)]
  have eB:rvD s a=true:=by unfold rvD;rw [hc];rfl
  have eC:Ds s 512 a=0:=by unfold Ds;rw [if_neg (by rw [hc];decide)]
  rw [eX,eE,eB,eC];exact ⟨fun _=>(aD9 G B s N a r0 hc).conv fun v H ⟨e1,e2⟩=>⟨_,⟨rfl,e2⟩,fun ρ cv hv=>by rw [e1] at hv;exact qN (cv:=.undef) hv⟩,fun h=>by cases h⟩
end Go.Am
