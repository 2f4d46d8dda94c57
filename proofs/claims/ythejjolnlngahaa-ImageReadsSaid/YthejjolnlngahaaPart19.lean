/-
  Images read, whatever the bytes: where the program panics. Images read, whatever the bytes: the rounds' trees.
-/
import Derived.Test.YthejjolnlngahaaPart18
import Derived.Test.YthejjolnlngahaaBase5
namespace Go.Am
open Go.Proofs Go.RowKit
set_option maxRecDepth 100000
theorem aY3 {e:Operand→Value} {w:World} {d:Option Tmp} {ty:TypeId} {pos:String} {af:Array Edge}:(execOp e { dst:=d,op:=.build 96 #[],type:=ty,pos:=pos,after:=af,guard:=none }).run Try.prog w=.ok (.value (.agg #[])) w:=by kernel_rfl
theorem aY2 {e:Operand→Value} {w:World} {d:Option Tmp} {ty:TypeId} {pos:String} {af:Array Edge} {x:Operand}:(execOp e { dst:=d,op:=.makeInterface 96 x,type:=ty,pos:=pos,after:=af,guard:=none }).run Try.prog w=.ok (.value (.iface 96 (e x))) w:=by kernel_rfl
theorem aY1 {e:Operand→Value} {w:World} {d:Option Tmp} {ty:TypeId} {pos:String} {af:Array Edge} {x:Operand} {t:TypeId} {v:Value} (h:e x=.iface t v):(execOp e { dst:=d,op:=.panic x,type:=ty,pos:=pos,after:=af,guard:=none }).run Try.prog w=.halt (.panic (.iface t v)) w:=by
 simp only [execOp,h];rfl
theorem jZ (ops:List Oper) (k:Nat) (h:panRg ops=some (96,k)):aD8 Try.prog 96 k ops:=by
 unfold panRg at h;split at h
 ·rename_i a t ps ty1 po1 af1 b t' a' ty2 po2 af2 d3 b' ty3 po3 af3;split at h
  ·rename_i hc;simp only [zO] at hc;obtain ⟨h1,h2,h3,h4,h5⟩:=hc;have h1:=rG h1;have h2:=rG h2;have h3:=rG h3;have h5:=rG h5;simp only [zN,xH] at h;obtain ⟨rfl,rfl⟩:=h;subst h1 h2 h3 h5;have hps:ps=#[]:=by simpa using h4
   subst hps;intro r Q ac w hk S hS hQ;simp only [List.all_cons,List.all_nil,zO,Bool.and_true] at hS;unfold wpListIn;rw [if_pos (by rfl)];refine U1 (by rintro c hh;cases hh) ?_;rw [aY3];show wpListIn _ _ _ _ _ _ _ _;unfold wpListIn;rw [if_pos (by rfl)];refine U1 (by rintro c hh;cases hh) ?_;rw [aY2];show wpListIn _ _ _ _ _ _ _ _;unfold wpListIn;rw [if_pos (by rfl)];refine U1 (by rintro c hh;cases hh) ?_
   have e1:(ac.put (some a) (.agg #[])).eval (.tmp a)=.agg #[]:=by
    simp only [Act.eval,Act.put,Array.getD_eq_getD_getElem?];rw [Array.getElem?_setIfInBounds_self_of_lt (by omega)];rfl
   rw [e1]
   rw [aY1 (t:=96) (v:=.agg #[]) (by
    simp only [Act.eval,Act.put,Array.getD_eq_getD_getElem?]
    rw [Array.getElem?_setIfInBounds_self_of_lt (by simp;omega)];rfl)]
   have kp:∀ t∈S,((ac.put (some a) (.agg #[])).put (some (a+1)) (.iface 96 (.agg #[]))).tmps.getD t undef=ac.tmps.getD t undef:=
    fun t ht=>(Rn (a1:=ac) (Rn (a1:=ac) (fun _ _=>rfl) hS.1) hS.2.1) t ht
   exact hQ _ rfl (by simp [Act.put]) kp
  ·cases h
 ·cases h
open IntKind renaming wrap → wS
theorem t63p (G:Nat→List AV) (s xs:List AV) (n c k:Nat) (a b:Int) (Q:Ex→List AV→Hp→Prop) (R:AV→Hp→Prop):vT G Q R (Wn ⟨Dc Try.prog [61,64,70,85] progR [] 2,96,fun _ _ _=>none,fun _ _=>none,.skip⟩ 300 20 2 (A5 Try.f63 0) 59 [0,2,6,7,8,9,10,11,12] [.ptr (.rw 0) (.lit 0),.func 64 [],.nils,.int .i64 (.lit 0),.int .i64 (.var 1 b),.int .i64 (.ofN (.var 2 c)),.int .i64 (.lit 0),.slice false (.rw 2) (.lit 0) (.var 3 k),.int .i64 (.ofN (.var 3 k))] [some ⟨1,.of [.slice false (.rw 1) (.lit 0) (.var 4 n),.int .i64 (.var 5 a)]⟩,some ⟨1,.var 6 s⟩,some ⟨4,.var 9 xs⟩])=(
  (decide (((k:Int):Int)<(c:Int))=true→okRdU [.agg s,.ptr (.rw 0) n,.int .i64 a]=true∧(((C0 [.agg s,.int .i64 a]:Int)==0)=true→(decide ((A7 [.agg s,.int .i64 a]:Int)>131072)=true→R (.func 987654 []) [some ⟨1,([.slice false (.rw 1) 0 n,.int .i64 (A3 [.agg s,.int .i64 a])]:List AV)⟩,some ⟨1,s⟩,some ⟨4,xs⟩,some ⟨1,([.int .i64 0,.int .i64 0,.nils,.int .i64 0]:List AV)⟩,some ⟨1,([.int .i64 0,.int .i64 0,.nils,.int .i64 0]:List AV)⟩])∧(decide ((A7 [.agg s,.int .i64 a]:Int)>131072)=false→okRdU [.agg s,.ptr (.rw 0) n,.int .i64 (A3 [.agg s,.int .i64 a])]=true∧(((C0 [.agg s,.int .i64 (A3 [.agg s,.int .i64 a])]:Int)==0)=true→(decide ((A7 [.agg s,.int .i64 (A3 [.agg s,.int .i64 a])]:Int)>131072)=true→R (.func 987654 []) [some ⟨1,([.slice false (.rw 1) 0 n,.int .i64 (A3 [.agg s,.int .i64 (A3 [.agg s,.int .i64 a])])]:List AV)⟩,some ⟨1,s⟩,some ⟨4,xs⟩,some ⟨1,([.int .i64 0,.int .i64 0,.nils,.int .i64 0]:List AV)⟩,some ⟨1,([.int .i64 0,.int .i64 0,.nils,.int .i64 0]:List AV)⟩])∧(decide ((A7 [.agg s,.int .i64 (A3 [.agg s,.int .i64 a])]:Int)>131072)=false→okRdU [.agg s,.ptr (.rw 0) n,.int .i64 (A3 [.agg s,.int .i64 (A3 [.agg s,.int .i64 a])])]=true∧leB n 1099511627776=true∧decide ((0:Int)≤8192)=true∧decide ((8192:Int)≤9223372036854775807)=true∧(((L7 [.agg s,.ptr (.rw 0) n,.int .i64 (A3 [.agg s,.int .i64 (A3 [.agg s,.int .i64 a])]),.int .i64 8192]:Int)==0)=true→okRdU [.agg s,.ptr (.rw 0) n,.int .i64 (D5 [.agg s,.ptr (.rw 0) n,.int .i64 (A3 [.agg s,.int .i64 (A3 [.agg s,.int .i64 a])]),.int .i64 8192])]=true∧
 (((C0 [.agg s,.int .i64 (D5 [.agg s,.ptr (.rw 0) n,.int .i64 (A3 [.agg s,.int .i64 (A3 [.agg s,.int .i64 a])]),.int .i64 8192])]:Int)==0)=true→(decide ((A7 [.agg s,.int .i64 (D5 [.agg s,.ptr (.rw 0) n,.int .i64 (A3 [.agg s,.int .i64 (A3 [.agg s,.int .i64 a])]),.int .i64 8192])]:Int)>131072)=true→R (.func 987654 []) [some ⟨1,([.slice false (.rw 1) 0 n,.int .i64 (A3 [.agg s,.int .i64 (D5 [.agg s,.ptr (.rw 0) n,.int .i64 (A3 [.agg s,.int .i64 (A3 [.agg s,.int .i64 a])]),.int .i64 8192])])]:List AV)⟩,some ⟨1,s⟩,some ⟨4,xs⟩,some ⟨1,([.int .i64 0,.int .i64 0,.nils,.int .i64 0]:List AV)⟩,some ⟨1,([.int .i64 0,.int .i64 0,.nils,.int .i64 0]:List AV)⟩,some ⟨1,(J9 [.agg s,.ptr (.rw 0) n,.int .i64 (A3 [.agg s,.int .i64 (A3 [.agg s,.int .i64 a])]),.int .i64 8192])⟩,some ⟨1,([.int .i64 (wS .i64 (A7 [.agg s,.int .i64 a])),.int .i64 (wS .i64 (A7 [.agg s,.int .i64 (A3 [.agg s,.int .i64 a])])),.slice true (.rw 5) 0 (I4 [.agg s,.ptr (.rw 0) n,.int .i64 (A3 [.agg s,.int .i64 (A3 [.agg s,.int .i64 a])]),.int .i64 8192]),.int .i64 0]:List AV)⟩])∧(decide ((A7 [.agg s,.int .i64 (D5 [.agg s,.ptr (.rw 0) n,.int .i64 (A3 [.agg s,.int .i64 (A3 [.agg s,.int .i64 a])]),.int .i64 8192])]:Int)>131072)=false→leB ((k+1)*48) 140737488355328=true∧Nat.beq (List.length xs) (k*4)=true∧
 Q .normal [.ptr (.rw 0) 0,.func 64 [],.nils,.int .i64 0,.int .i64 b,.int .i64 ((c:Int)),.int .i64 0,.slice false (.rw 8) 0 (k+1),.int .i64 (wS .i64 ((k:Int)+1))] [some ⟨1,([.slice false (.rw 1) 0 n,.int .i64 (A3 [.agg s,.int .i64 (D5 [.agg s,.ptr (.rw 0) n,.int .i64 (A3 [.agg s,.int .i64 (A3 [.agg s,.int .i64 a])]),.int .i64 8192])])]:List AV)⟩,some ⟨1,s⟩,none,some ⟨1,([.int .i64 (wS .i64 (A7 [.agg s,.int .i64 a])),.int .i64 (wS .i64 (A7 [.agg s,.int .i64 (A3 [.agg s,.int .i64 a])])),.slice true (.rw 5) 0 (I4 [.agg s,.ptr (.rw 0) n,.int .i64 (A3 [.agg s,.int .i64 (A3 [.agg s,.int .i64 a])]),.int .i64 8192]),.int .i64 (wS .i64 (A7 [.agg s,.int .i64 (D5 [.agg s,.ptr (.rw 0) n,.int .i64 (A3 [.agg s,.int .i64 (A3 [.agg s,.int .i64 a])]),.int .i64 8192])]))]:List AV)⟩,some ⟨1,([.int .i64 (wS .i64 (A7 [.agg s,.int .i64 a])),.int .i64 (wS .i64 (A7 [.agg s,.int .i64 (A3 [.agg s,.int .i64 a])])),.slice true (.rw 5) 0 (I4 [.agg s,.ptr (.rw 0) n,.int .i64 (A3 [.agg s,.int .i64 (A3 [.agg s,.int .i64 a])]),.int .i64 8192]),.int .i64 (wS .i64 (A7 [.agg s,.int .i64 (D5 [.agg s,.ptr (.rw 0) n,.int .i64 (A3 [.agg s,.int .i64 (A3 [.agg s,.int .i64 a])]),.int .i64 8192])]))]:List AV)⟩,some ⟨1,(J9 [.agg s,.ptr (.rw 0) n,.int .i64 (A3 [.agg s,.int .i64 (A3 [.agg s,.int .i64 a])]),.int .i64 8192])⟩,some ⟨1,([.int .i64 (wS .i64 (A7 [.agg s,.int .i64 a])),.int .i64 (wS .i64 (A7 [.agg s,.int .i64 (A3 [.agg s,.int .i64 a])])),.slice true (.rw 5) 0 (I4 [.agg s,.ptr (.rw 0) n,.int .i64 (A3 [.agg s,.int .i64 (A3 [.agg s,.int .i64 a])]),.int .i64 8192]),.int .i64 (wS .i64 (A7 [.agg s,.int .i64 (D5 [.agg s,.ptr (.rw 0) n,.int .i64 (A3 [.agg s,.int .i64 (A3 [.agg s,.int .i64 a])]),.int .i64 8192])]))]:List AV)⟩,some ⟨4,([.int .i64 (wS .i64 (A7 [.agg s,.int .i64 a])),.int .i64 (wS .i64 (A7 [.agg s,.int .i64 (A3 [.agg s,.int .i64 a])])),.slice true (.rw 5) 0 (I4 [.agg s,.ptr (.rw 0) n,.int .i64 (A3 [.agg s,.int .i64 (A3 [.agg s,.int .i64 a])]),.int .i64 8192]),.int .i64 (wS .i64 (A7 [.agg s,.int .i64 (D5 [.agg s,.ptr (.rw 0) n,.int .i64 (A3 [.agg s,.int .i64 (A3 [.agg s,.int .i64 a])]),.int .i64 8192])]))]:List AV)⟩,some ⟨4,(xs++([.int .i64 (wS .i64 (A7 [.agg s,.int .i64 a])),.int .i64 (wS .i64 (A7 [.agg s,.int .i64 (A3 [.agg s,.int .i64 a])])),.slice true (.rw 5) 0 (I4 [.agg s,.ptr (.rw 0) n,.int .i64 (A3 [.agg s,.int .i64 (A3 [.agg s,.int .i64 a])]),.int .i64 8192]),.int .i64 (wS .i64 (A7 [.agg s,.int .i64 (D5 [.agg s,.ptr (.rw 0) n,.int .i64 (A3 [.agg s,.int .i64 (A3 [.agg s,.int .i64 a])]),.int .i64 8192])]))]:List AV))⟩]))∧
 (((C0 [.agg s,.int .i64 (D5 [.agg s,.ptr (.rw 0) n,.int .i64 (A3 [.agg s,.int .i64 (A3 [.agg s,.int .i64 a])]),.int .i64 8192])]:Int)==0)=false→R (.func 987654 []) [some ⟨1,([.slice false (.rw 1) 0 n,.int .i64 (A3 [.agg s,.int .i64 (D5 [.agg s,.ptr (.rw 0) n,.int .i64 (A3 [.agg s,.int .i64 (A3 [.agg s,.int .i64 a])]),.int .i64 8192])])]:List AV)⟩,some ⟨1,s⟩,some ⟨4,xs⟩,some ⟨1,([.int .i64 0,.int .i64 0,.nils,.int .i64 0]:List AV)⟩,some ⟨1,([.int .i64 0,.int .i64 0,.nils,.int .i64 0]:List AV)⟩,some ⟨1,(J9 [.agg s,.ptr (.rw 0) n,.int .i64 (A3 [.agg s,.int .i64 (A3 [.agg s,.int .i64 a])]),.int .i64 8192])⟩,some ⟨1,([.int .i64 (wS .i64 (A7 [.agg s,.int .i64 a])),.int .i64 (wS .i64 (A7 [.agg s,.int .i64 (A3 [.agg s,.int .i64 a])])),.slice true (.rw 5) 0 (I4 [.agg s,.ptr (.rw 0) n,.int .i64 (A3 [.agg s,.int .i64 (A3 [.agg s,.int .i64 a])]),.int .i64 8192]),.int .i64 0]:List AV)⟩]))∧(((L7 [.agg s,.ptr (.rw 0) n,.int .i64 (A3 [.agg s,.int .i64 (A3 [.agg s,.int .i64 a])]),.int .i64 8192]:Int)==0)=false→R (.func 987654 []) [some ⟨1,([.slice false (.rw 1) 0 n,.int .i64 (D5 [.agg s,.ptr (.rw 0) n,.int .i64 (A3 [.agg s,.int .i64 (A3 [.agg s,.int .i64 a])]),.int .i64 8192])]:List AV)⟩,some ⟨1,s⟩,some ⟨4,xs⟩,some ⟨1,([.int .i64 0,.int .i64 0,.nils,.int .i64 0]:List AV)⟩,some ⟨1,([.int .i64 0,.int .i64 0,.nils,.int .i64 0]:List AV)⟩,some ⟨1,(J9 [.agg s,.ptr (.rw 0) n,.int .i64 (A3 [.agg s,.int .i64 (A3 [.agg s,.int .i64 a])]),.int .i64 8192])⟩])))∧(((C0 [.agg s,.int .i64 (A3 [.agg s,.int .i64 a])]:Int)==0)=false→
 R (.func 987654 []) [some ⟨1,([.slice false (.rw 1) 0 n,.int .i64 (A3 [.agg s,.int .i64 (A3 [.agg s,.int .i64 a])])]:List AV)⟩,some ⟨1,s⟩,some ⟨4,xs⟩,some ⟨1,([.int .i64 0,.int .i64 0,.nils,.int .i64 0]:List AV)⟩,some ⟨1,([.int .i64 0,.int .i64 0,.nils,.int .i64 0]:List AV)⟩])))∧(((C0 [.agg s,.int .i64 a]:Int)==0)=false→R (.func 987654 []) [some ⟨1,([.slice false (.rw 1) 0 n,.int .i64 (A3 [.agg s,.int .i64 a])]:List AV)⟩,some ⟨1,s⟩,some ⟨4,xs⟩,some ⟨1,([.int .i64 0,.int .i64 0,.nils,.int .i64 0]:List AV)⟩,some ⟨1,([.int .i64 0,.int .i64 0,.nils,.int .i64 0]:List AV)⟩]))∧(decide (((k:Int):Int)<(c:Int))=false→Q (.exit 0) [.ptr (.rw 0) 0,.func 64 [],.nils,.int .i64 0,.int .i64 b,.int .i64 ((c:Int)),.int .i64 0,.slice false (.rw 2) 0 k,.int .i64 ((k:Int))] [some ⟨1,([.slice false (.rw 1) 0 n,.int .i64 a]:List AV)⟩,some ⟨1,s⟩,some ⟨4,xs⟩])):=by kernel_rfl
theorem t66p (G:Nat→List AV) (s xs:List AV) (n c k:Nat) (a b:Int) (Q:Ex→List AV→Hp→Prop) (R:AV→Hp→Prop):vT G Q R (Wn ⟨Dc Try.prog [61,67,85,90] progR [] 2,96,fun _ _ _=>none,fun _ _=>none,.skip⟩ 300 20 2 (A5 Try.f66 0) 59 [0,2,6,7,8,9,10,11,12] [.ptr (.rw 0) (.lit 0),.func 67 [],.nils,.int .i64 (.lit 0),.int .i64 (.var 1 b),.int .i64 (.ofN (.var 2 c)),.int .i64 (.lit 0),.slice false (.rw 2) (.lit 0) (.var 3 k),.int .i64 (.ofN (.var 3 k))] [some ⟨1,.of [.slice false (.rw 1) (.lit 0) (.var 4 n),.int .i64 (.var 5 a)]⟩,some ⟨1,.var 6 s⟩,some ⟨2,.var 9 xs⟩])=(
  (decide (((k:Int):Int)<(c:Int))=true→okRdU [.agg s,.ptr (.rw 0) n,.int .i64 a]=true∧(((C0 [.agg s,.int .i64 a]:Int)==0)=true→(decide ((A7 [.agg s,.int .i64 a]:Int)>131072)=true→R (.func 987654 []) [some ⟨1,([.slice false (.rw 1) 0 n,.int .i64 (A3 [.agg s,.int .i64 a])]:List AV)⟩,some ⟨1,s⟩,some ⟨2,xs⟩,some ⟨1,([.int .i64 0,.bool false]:List AV)⟩,some ⟨1,([.int .i64 0,.bool false]:List AV)⟩])∧(decide ((A7 [.agg s,.int .i64 a]:Int)>131072)=false→okRdU [.agg s,.ptr (.rw 0) n,.int .i64 (A3 [.agg s,.int .i64 a])]=true∧(((W9 [.agg s,.int .i64 (A3 [.agg s,.int .i64 a])]:Int)==0)=true→leB ((k+1)*16) 140737488355328=true∧Nat.beq (List.length xs) (k*2)=true∧Q .normal [.ptr (.rw 0) 0,.func 67 [],.nils,.int .i64 0,.int .i64 b,.int .i64 ((c:Int)),.int .i64 0,.slice false (.rw 6) 0 (k+1),.int .i64 (wS .i64 ((k:Int)+1))] [some ⟨1,([.slice false (.rw 1) 0 n,.int .i64 (V3 [.agg s,.int .i64 (A3 [.agg s,.int .i64 a])])]:List AV)⟩,some ⟨1,s⟩,none,some ⟨1,([.int .i64 (wS .i64 (A7 [.agg s,.int .i64 a])),.bool (R5 [.agg s,.int .i64 (A3 [.agg s,.int .i64 a])])]:List AV)⟩,some ⟨1,([.int .i64 (wS .i64 (A7 [.agg s,.int .i64 a])),.bool (R5 [.agg s,.int .i64 (A3 [.agg s,.int .i64 a])])]:List AV)⟩,some ⟨2,([.int .i64 (wS .i64 (A7 [.agg s,.int .i64 a])),.bool (R5 [.agg s,.int .i64 (A3 [.agg s,.int .i64 a])])]:List AV)⟩,some ⟨2,(xs++([.int .i64 (wS .i64 (A7 [.agg s,.int .i64 a])),.bool (R5 [.agg s,.int .i64 (A3 [.agg s,.int .i64 a])])]:List AV))⟩])∧(((W9 [.agg s,.int .i64 (A3 [.agg s,.int .i64 a])]:Int)==0)=false→
 R (.func 987654 []) [some ⟨1,([.slice false (.rw 1) 0 n,.int .i64 (V3 [.agg s,.int .i64 (A3 [.agg s,.int .i64 a])])]:List AV)⟩,some ⟨1,s⟩,some ⟨2,xs⟩,some ⟨1,([.int .i64 0,.bool false]:List AV)⟩,some ⟨1,([.int .i64 0,.bool false]:List AV)⟩])))∧(((C0 [.agg s,.int .i64 a]:Int)==0)=false→R (.func 987654 []) [some ⟨1,([.slice false (.rw 1) 0 n,.int .i64 (A3 [.agg s,.int .i64 a])]:List AV)⟩,some ⟨1,s⟩,some ⟨2,xs⟩,some ⟨1,([.int .i64 0,.bool false]:List AV)⟩,some ⟨1,([.int .i64 0,.bool false]:List AV)⟩]))∧(decide (((k:Int):Int)<(c:Int))=false→Q (.exit 0) [.ptr (.rw 0) 0,.func 67 [],.nils,.int .i64 0,.int .i64 b,.int .i64 ((c:Int)),.int .i64 0,.slice false (.rw 2) 0 k,.int .i64 ((k:Int))] [some ⟨1,([.slice false (.rw 1) 0 n,.int .i64 a]:List AV)⟩,some ⟨1,s⟩,some ⟨2,xs⟩])):=by kernel_rfl
theorem M3 {s:List AV} {N:Nat} {p:Int} (h:D8 s N p) (h0:C0 [.agg s,.int .i64 p]=0):D8 s N (A3 [.agg s,.int .i64 p])∧0≤A7 [.agg s,.int .i64 p]∧p≤A3 [.agg s,.int .i64 p]:=by
 obtain ⟨h1,h2,h3⟩:=Hx (k:=.i64) h h0;have hp:=h.pos;exact ⟨⟨h.b,h.len,h.big,by omega,by omega⟩,h1,h2⟩
theorem sY {l l':List AV} (h:E4 l=true) (hs:∀ v∈l',v∈l):E4 l'=true:=by
 simp only [E4,qD] at h ⊢;exact fun v hv=>h v (hs v hv)
theorem rH {s:List AV} {N M:Nat} {p:Int} (h:D8 s N p) (h0:L7 [.agg s,.ptr (.rw 0) N,.int .i64 p,.int .i64 (M:Int)]=0):D8 s N (D5 [.agg s,.ptr (.rw 0) N,.int .i64 p,.int .i64 (M:Int)])∧(J9 [.agg s,.ptr (.rw 0) N,.int .i64 p,.int .i64 (M:Int)]).length=I4 [.agg s,.ptr (.rw 0) N,.int .i64 p,.int .i64 (M:Int)]∧I4 [.agg s,.ptr (.rw 0) N,.int .i64 p,.int .i64 (M:Int)]≤M∧E4 (J9 [.agg s,.ptr (.rw 0) N,.int .i64 p,.int .i64 (M:Int)])=true:=by
 by_cases e:C0 [.agg s,.int .i64 p]=0
 ·obtain ⟨g,v0,g2⟩:=M3 h e;have hp:=g.pos;have hle:=g.le;have hlen:=g.len;simp only [L7,e,if_true] at h0;by_cases h1:A7 [.agg s,.int .i64 p]≤(M:Int)
  ·rw [if_pos h1] at h0;by_cases h2:A7 [.agg s,.int .i64 p]≤(N:Int) - A3 [.agg s,.int .i64 p]
   ·have ok:M6 s N p (M:Int)=true:=by
     unfold M6;simp only [zO,qC];exact ⟨e,h1,h2⟩
    refine ⟨⟨h.b,h.len,h.big,?_,?_⟩,?_,?_,?_⟩
    ·simp only [D5,ok,if_true];omega
    ·simp only [D5,ok,if_true];omega
    ·simp only [J9,I4,ok,if_true,A0,List.length_take,List.length_drop];omega
    ·simp only [I4,ok,if_true];omega
    ·simp only [J9,ok,if_true];exact sY h.b fun v hv=>List.mem_of_mem_drop (List.mem_of_mem_take hv)
   ·rw [if_neg h2] at h0;omega
  ·rw [if_neg h1] at h0;omega
 ·simp only [L7,if_neg e] at h0;exact absurd h0 e
theorem rE {s:List AV} {N:Nat} {p:Int} (h:D8 s N p) (h0:W9 [.agg s,.int .i64 p]=0):D8 s N (V3 [.agg s,.int .i64 p]):=by
 have hp:=h.pos;have hle:=h.le;have hlen:=h.len;simp only [W9] at h0;cases ok:Aj s p.toNat with
 | true=>
  have:=ok
  simp only [Aj,zO,qC] at this;refine ⟨h.b,h.len,h.big,?_,?_⟩
  ·simp only [V3,ok,if_true];omega
  ·simp only [V3,ok,if_true];omega
 | false=>rw [ok] at h0;exact absurd h0 (by decide)
section
variable (s:List AV) (N:Nat)
def dA (p:Int):Int:=A7 [.agg s,.int .i64 p]
def d1 (p:Int):Int:=A3 [.agg s,.int .i64 p]
def d2 (p:Int):Int:=d1 s (d1 s p)
def At (p:Int):Int:=dA s (d1 s p)
def dN (p:Int):Nat:=I4 [.agg s,.ptr (.rw 0) N,.int .i64 (d2 s p),.int .i64 8192]
def dD (p:Int):List AV:=J9 [.agg s,.ptr (.rw 0) N,.int .i64 (d2 s p),.int .i64 8192]
def d3 (p:Int):Int:=D5 [.agg s,.ptr (.rw 0) N,.int .i64 (d2 s p),.int .i64 8192]
def dZ (p:Int):Int:=dA s (d3 s N p)
def d4 (p:Int):Int:=d1 s (d3 s N p)
def Al (p:Int):Bool:=(C0 [.agg s,.int .i64 p]==0)&&!(decide (A7 [.agg s,.int .i64 p]>131072))
def uR (p:Int):Bool:=L7 [.agg s,.ptr (.rw 0) N,.int .i64 p,.int .i64 8192]==0
def X6 (p:Int):Bool:=Al s p&&(Al s (d1 s p)&&(uR s N (d2 s p)&&Al s (d3 s N p)))
def B3 (p0:Int):Nat→Int
 | 0=>p0
 | k+1=>d4 s N (B3 p0 k)
def dP (p:Int):Bool:=R5 [.agg s,.int .i64 (d1 s p)]
def d5 (p:Int):Int:=V3 [.agg s,.int .i64 (d1 s p)]
def Az (p:Int):Bool:=Al s p&&(W9 [.agg s,.int .i64 (d1 s p)]==0)
def H6 (p0:Int):Nat→Int
 | 0=>p0
 | k+1=>d5 s (H6 p0 k)
end
theorem N9 {s:List AV} {p:Int}:Al s p=true↔C0 [.agg s,.int .i64 p]=0∧A7 [.agg s,.int .i64 p]≤131072:=by
 simp only [Al,zO,beq_iff_eq,Bool.not_eq_true',decide_eq_false_iff_not];exact ⟨fun ⟨h1,h2⟩=>⟨h1,by omega⟩,fun ⟨h1,h2⟩=>⟨h1,by omega⟩⟩
theorem AWpP.lmono {C:A1} {rt m:Nat} {c:Code} {F:Fr} {H:Hp} {N:Nat} {live:List Nat} {Q Q':Ex→List AV→Hp→Prop} {Qp Qp':Hp→Prop} (h:AWpP C rt m c F H (lv N live Q) Qp) (hq:∀ e vs H',Q e vs H'→Q' e vs H') (hp:∀ H,Qp H→Qp' H):AWpP C rt m c F H (lv N live Q') Qp':=
 h.mono (fun e F' H' h=>by
  obtain ⟨h1,h2⟩:=U6 h;show chk (Nat.beq F'.length N) (Q' e (Ce live F') H');rw [h1]
  exact hq _ _ _ h2) hp
theorem xZ {C:A1} {rt m:Nat} {c:Code} {N:Nat} {live:List Nat} {Q:Ex→List AV→Hp→Prop} {Qp:Hp→Prop} (P:Nat→Prop) (n:Nat) (st:Nat→List AV) (hp:Nat→Hp) (h0:P 0)
  (h:∀ i,i≤n→P i→AWpP C rt m c (fl N live (st i)) (hp i) (lv N live fun e vs H=>match e with
   | .normal=>i<n∧P (i+1)∧((vs=st (i+1)∧H=hp (i+1))∨C5 m (st (i+1)) (hp (i+1)) vs H)
   | e=>Q e vs H) Qp):AWpP C rt m (.loop c) (fl N live (st 0)) (hp 0) (lv N live Q) Qp:=by
 refine aD5 (fun j vs H=>∃ i:Nat,i≤n∧P i∧j=n - i∧vs=st i∧H=hp i) n ⟨0,by omega,h0,rfl,rfl,rfl⟩ ?_;rintro j vs H ⟨i,hi,hP,rfl,rfl,rfl⟩;refine (h i hi hP).lmono ?_ fun _ h=>h;intro e vs' H' hq
 match e,hq with
 | .normal,⟨hin,hP',hq⟩=>
  refine ⟨n - (i+1),by omega,?_⟩;rcases hq with ⟨rfl,rfl⟩ | hq
  ·exact .inl ⟨i+1,by omega,hP',rfl,rfl,rfl⟩
  ·exact .inr ⟨_,_,⟨i+1,by omega,hP',rfl,rfl,rfl⟩,hq⟩
 | .ret,hq=>exact hq
 | .exit i,hq=>exact hq
theorem pgR (G:Nat→List AV) (B:Nat) {inl:List Nat} {M:Nat} (hp:Pr Try.prog inl=true):Xv (za G B) ⟨Dc Try.prog inl progR [] M,96,fun _ _ _=>none,fun _ _=>none,.skip⟩:=
 ⟨C7 (mix G B) hp (L8 G B) .nil,fun _ _ _ _ _ _ _ _ h=>(by cases h),fun _ _ _ h=>(by cases h),fun ops k h=>jZ ops k h⟩
def Yu (s:List AV) (N:Nat) (p0:Int) (kd:Nat→Nat) (j:Nat):Nat→AV
 | 0=>.int .i64 (dA s (B3 s N p0 j))
 | 1=>.int .i64 (At s (B3 s N p0 j))
 | 2=>.slice true (.ro (kd j)) 0 (dN s N (B3 s N p0 j))
 | _=>.int .i64 (dZ s N (B3 s N p0 j))
def M9 (s:List AV) (N:Nat) (p0:Int) (kd:Nat→Nat) (n:Nat):List AV:=L6 n 4 (Yu s N p0 kd)
theorem sS {s:List AV} {N n:Nat} {p0:Int} {kd:Nat→Nat}:(M9 s N p0 kd n).length=n*4:=Ho
theorem aP4 {s:List AV} {N n:Nat} {p0:Int} {kd:Nat→Nat}:M9 s N p0 kd (n+1)=M9 s N p0 kd n++[.int .i64 (dA s (B3 s N p0 n)),.int .i64 (At s (B3 s N p0 n)),.slice true (.ro (kd n)) 0 (dN s N (B3 s N p0 n)),.int .i64 (dZ s N (B3 s N p0 n))]:=Fl (by omega)
theorem Rz {s:List AV} {N n k:Nat} {p0:Int} {kd:Nat→Nat}:A6 k (M9 s N p0 kd n)=true:=Ge fun a b ha hb=>by
 match b,hb with
 | 0,_=>rfl
 | 1,_=>rfl
 | 2,_=>rfl
 | 3,_=>rfl
theorem aI6 (G:Nat→List AV) (B:Nat) (s:List AV) (N n k:Nat) (p0 b:Int) (kd:Nat→Nat) (hN:N≤1000000) (h8:n≤8) (hk:k<n) (r0:D8 s N (B3 s N p0 k)) :
  AWpP (za G B) 96 2 (A5 Try.f63 0) (fl 59 [0,2,6,7,8,9,10,11,12] [.ptr (.rw 0) 0,.func 64 [],.nils,.int .i64 0,.int .i64 b,.int .i64 (n:Int),.int .i64 0,.slice false (.rw 2) 0 k,.int .i64 (k:Int)]) [some ⟨1,[.slice false (.rw 1) 0 N,.int .i64 (B3 s N p0 k)]⟩,some ⟨1,s⟩,some ⟨4,(M9 s N p0 kd k)⟩]
   (lv 59 [0,2,6,7,8,9,10,11,12] fun e vs H=>X6 s N (B3 s N p0 k)=true∧D8 s N (B3 s N p0 (k+1))∧(dD s N (B3 s N p0 k)).length=dN s N (B3 s N p0 k)∧E4 (dD s N (B3 s N p0 k))=true∧e=.normal∧vs=[.ptr (.rw 0) 0,.func 64 [],.nils,.int .i64 0,.int .i64 b,.int .i64 (n:Int),.int .i64 0,.slice false (.rw 8) 0 (k+1),.int .i64 ((k+1:Nat):Int)]∧H=[some ⟨1,[.slice false (.rw 1) 0 N,.int .i64 (B3 s N p0 (k+1))]⟩,some ⟨1,s⟩,none,some ⟨1,[.int .i64 (dA s (B3 s N p0 k)),.int .i64 (At s (B3 s N p0 k)),.slice true (.rw 5) 0 (dN s N (B3 s N p0 k)),.int .i64 (dZ s N (B3 s N p0 k))]⟩,some ⟨1,[.int .i64 (dA s (B3 s N p0 k)),.int .i64 (At s (B3 s N p0 k)),.slice true (.rw 5) 0 (dN s N (B3 s N p0 k)),.int .i64 (dZ s N (B3 s N p0 k))]⟩,some ⟨1,dD s N (B3 s N p0 k)⟩,some ⟨1,[.int .i64 (dA s (B3 s N p0 k)),.int .i64 (At s (B3 s N p0 k)),.slice true (.rw 5) 0 (dN s N (B3 s N p0 k)),.int .i64 (dZ s N (B3 s N p0 k))]⟩,some ⟨4,[.int .i64 (dA s (B3 s N p0 k)),.int .i64 (At s (B3 s N p0 k)),.slice true (.rw 5) 0 (dN s N (B3 s N p0 k)),.int .i64 (dZ s N (B3 s N p0 k))]⟩,some ⟨4,(M9 s N p0 kd k)++[.int .i64 (dA s (B3 s N p0 k)),.int .i64 (At s (B3 s N p0 k)),.slice true (.rw 5) 0 (dN s N (B3 s N p0 k)),.int .i64 (dZ s N (B3 s N p0 k))]⟩])
   (fun _=>X6 s N (B3 s N p0 k)=false):=by
 refine gY (C:=(za G B)) (Z:=⟨Dc Try.prog [61,64,70,85] progR [] 2,96,fun _ _ _=>none,fun _ _=>none,.skip⟩) (pgR G B (by kernel_rfl)) (fun _ _=>rfl) (fuel:=300) (n0:=20) (m:=2) (c:=A5 Try.f63 0) (vs:=[.ptr (.rw 0) (.lit 0),.func 64 [],.nils,.int .i64 (.lit 0),.int .i64 (.var 1 b),.int .i64 (.ofN (.var 2 n)),.int .i64 (.lit 0),.slice false (.rw 2) (.lit 0) (.var 3 k),.int .i64 (.ofN (.var 3 k))]) (H:=[some ⟨1,.of [.slice false (.rw 1) (.lit 0) (.var 4 N),.int .i64 (.var 5 (B3 s N p0 k))]⟩,some ⟨1,.var 6 s⟩,some ⟨4,.var 9 (M9 s N p0 kd k)⟩]) (by simp) ?_;rw [t63p]
 have gt:∀ {x:Int},decide (x>131072)=true→¬x≤131072:=fun h=>by have:=zR h;omega
 have le:∀ {x:Int},decide (x>131072)=false→x≤131072:=fun h=>by have:=sJ h;omega
 have no1:Al s (B3 s N p0 k)=false→X6 s N (B3 s N p0 k)=false:=fun h=>by unfold X6;rw [h];rfl
 have no2:Al s (d1 s (B3 s N p0 k))=false→X6 s N (B3 s N p0 k)=false:=fun h=>by unfold X6;rw [h];simp
 have no3:uR s N (d2 s (B3 s N p0 k))=false→X6 s N (B3 s N p0 k)=false:=fun h=>by unfold X6;rw [h];simp
 have no4:Al s (d3 s N (B3 s N p0 k))=false→X6 s N (B3 s N p0 k)=false:=fun h=>by unfold X6;rw [h];simp
 have nE:∀ {p:Int},(C0 [.agg s,.int .i64 p]==0)=false→Al s p=false:=fun h=>by unfold Al;rw [h];rfl
 have nV:∀ {p:Int},decide (A7 [.agg s,.int .i64 p]>131072)=true→Al s p=false:=fun h=>by unfold Al;rw [h];simp
 refine ⟨fun _=>⟨E0.2 r0,fun h1=>⟨fun g1=>no1 (nV g1),fun g1=>?_⟩,fun h1=>no1 (nE h1)⟩,fun hh=>absurd (sJ hh) (by omega)⟩;obtain ⟨r1,v1,_⟩:=M3 r0 (eq_of_beq h1);refine ⟨E0.2 r1,fun h2=>⟨fun g2=>no2 (nV g2),fun g2=>?_⟩,fun h2=>no2 (nE h2)⟩;obtain ⟨r2,v2,_⟩:=M3 r1 (eq_of_beq h2);refine ⟨E0.2 r2,A8.2 (by omega),by decide,by decide,fun h3=>?_,fun h3=>no3 h3⟩;obtain ⟨r3,v3,w3,b3⟩:=rH (M:=8192) r2 (eq_of_beq h3);refine ⟨E0.2 r3,fun h4=>⟨fun g4=>no4 (nV g4),fun g4=>?_⟩,fun h4=>no4 (nE h4)⟩;obtain ⟨r4,v4,_⟩:=M3 r3 (eq_of_beq h4)
 have e1:A7 [.agg s,.int .i64 (B3 s N p0 k)]=dA s (B3 s N p0 k):=rfl;have e2:A7 [.agg s,.int .i64 (A3 [.agg s,.int .i64 (B3 s N p0 k)])]=At s (B3 s N p0 k):=rfl;have e4:A7 [.agg s,.int .i64 (D5 [.agg s,.ptr (.rw 0) N,.int .i64 (A3 [.agg s,.int .i64 (A3 [.agg s,.int .i64 (B3 s N p0 k)])]),.int .i64 8192])]=dZ s N (B3 s N p0 k):=rfl;have e8:((8192:Nat):Int)=8192:=rfl;rw [e8] at v3 w3 b3 r3 v4 r4;have i1:IntKind.wrap .i64 (A7 [.agg s,.int .i64 (B3 s N p0 k)])=dA s (B3 s N p0 k):=B5 (by have:=le g1;omega)
 have i2:IntKind.wrap .i64 (A7 [.agg s,.int .i64 (A3 [.agg s,.int .i64 (B3 s N p0 k)])])=At s (B3 s N p0 k):=B5 (by have:=le g2;omega);have i4:IntKind.wrap .i64 (A7 [.agg s,.int .i64 (D5 [.agg s,.ptr (.rw 0) N,.int .i64 (A3 [.agg s,.int .i64 (A3 [.agg s,.int .i64 (B3 s N p0 k)])]),.int .i64 8192])])=dZ s N (B3 s N p0 k):=B5 (by have:=le g4;omega);have i5:IntKind.wrap .i64 ((k:Int)+1)=((k+1:Nat):Int):=by rw [B5 (by omega)];omega
 rw [i1,i2,i4,i5];refine ⟨A8.2 (by omega),by rw [sS];exact zA9 _,?_,r4,v3,b3,rfl,rfl,rfl⟩;unfold X6;have o1:Al s (B3 s N p0 k)=true:=N9.2 ⟨eq_of_beq h1,le g1⟩;have o2:Al s (d1 s (B3 s N p0 k))=true:=N9.2 ⟨eq_of_beq h2,le g2⟩;have o3:uR s N (d2 s (B3 s N p0 k))=true:=h3;have o4:Al s (d3 s N (B3 s N p0 k))=true:=N9.2 ⟨eq_of_beq h4,le g4⟩;rw [o1,o2,o3,o4];rfl
def Ff (s:List AV) (N:Nat) (p0:Int) (n:Nat):Bool:=J7 (fun j=>X6 s N (B3 s N p0 j)) n
theorem bE0 {l:List AV} (h:E4 l=true):∀ v∈l,E8 v=true:=fun v hv=>by
 have:=qD.1 h v hv
 cases v<;>simp_all [b8,E8]
theorem aP5 {s:List AV} {N n:Nat} {p0:Int} {kd:Nat→Nat}:∀ v∈M9 s N p0 kd n,E8 v=true:=fun v hv=>by
 unfold M9 L6 at hv;obtain ⟨j,hj,rfl⟩:=List.mem_map.1 hv;have hb:j % 4<4:=Nat.mod_lt _ (by omega);generalize j % 4=b at hb
 match b,hb with
 | 0,_=>rfl
 | 1,_=>rfl
 | 2,_=>rfl
 | 3,_=>rfl
theorem rx_end (G:Nat→List AV) (B:Nat) (n N:Nat) (a b:Int) (s xs:List AV):AWp (za G B) 2 (A5 Try.f63 0) (fl 59 [0,2,6,7,8,9,10,11,12] [.ptr (.rw 0) 0,.func 64 [],.nils,.int .i64 0,.int .i64 b,.int .i64 (n:Int),.int .i64 0,.slice false (.rw 2) 0 n,.int .i64 (n:Int)]) [some ⟨1,[.slice false (.rw 1) 0 N,.int .i64 a]⟩,some ⟨1,s⟩,some ⟨4,xs⟩]
   (lv 59 [0,2,6,7,8,9,10,11,12] fun e vs H=>e=.exit 0∧vs=[.ptr (.rw 0) 0,.func 64 [],.nils,.int .i64 0,.int .i64 b,.int .i64 (n:Int),.int .i64 0,.slice false (.rw 2) 0 n,.int .i64 (n:Int)]∧H=[some ⟨1,[.slice false (.rw 1) 0 N,.int .i64 a]⟩,some ⟨1,s⟩,some ⟨4,xs⟩]):=by
 refine D3 (C:=(za G B)) (K:=Dc Try.prog [61,64,70,85] progR [] 2) (by rw [show loopsOf (A5 Try.f63 0)=[] by kernel_rfl];exact C7 (mix G B) (by kernel_rfl) (L8 G B) .nil) (fuel:=300) (n0:=20) (m:=2) (c:=A5 Try.f63 0) (vs:=[.ptr (.rw 0) (.lit 0),.func 64 [],.nils,.int .i64 (.lit 0),.int .i64 (.var 1 b),.int .i64 (.ofN (.var 2 n)),.int .i64 (.lit 0),.slice false (.rw 2) (.lit 0) (.var 3 n),.int .i64 (.ofN (.var 3 n))]) (H:=[some ⟨1,.of [.slice false (.rw 1) (.lit 0) (.var 4 N),.int .i64 (.var 5 a)]⟩,some ⟨1,.var 6 s⟩,some ⟨4,.var 9 xs⟩]) (by simp) ?_;rw [t63r]
 exact ⟨fun hh=>absurd (zR hh) (by omega),fun _=>⟨rfl,rfl,rfl⟩⟩
theorem qY (G:Nat→List AV) (B:Nat) (s:List AV) (N n ks:Nat) (p0 b:Int) (kd:Nat→Nat) (hN:N≤1000000) (h8:n≤8) (r0:D8 s N p0) (hD:∀ j,j<n→G (kd j)=dD s N (B3 s N p0 j)) (hS:G ks=(M9 s N p0 kd n)) :
  AWpP (za G B) 96 2 (.loop (A5 Try.f63 0)) (fl 59 [0,2,6,7,8,9,10,11,12] [.ptr (.rw 0) 0,.func 64 [],.nils,.int .i64 0,.int .i64 b,.int .i64 (n:Int),.int .i64 0,.slice false (.rw 2) 0 0,.int .i64 0]) [some ⟨1,[.slice false (.rw 1) 0 N,.int .i64 p0]⟩,some ⟨1,s⟩,some ⟨4,[]⟩]
   (lv 59 [0,2,6,7,8,9,10,11,12] fun e vs H=>Ff s N p0 n=true∧D8 s N (B3 s N p0 n)∧e=.exit 0∧vs=[.ptr (.rw 0) 0,.func 64 [],.nils,.int .i64 0,.int .i64 b,.int .i64 (n:Int),.int .i64 0,.slice false (.ro ks) 0 n,.int .i64 (n:Int)]∧H=[some ⟨1,[.slice false (.rw 1) 0 N,.int .i64 (B3 s N p0 n)]⟩,some ⟨1,s⟩,none])
   (fun _=>Ff s N p0 n=false):=by
 have us:A6 0 s=true:=B7 (G9 r0.b)
 have key:AWpP (za G B) 96 2 (.loop (A5 Try.f63 0)) (fl 59 [0,2,6,7,8,9,10,11,12] [.ptr (.rw 0) 0,.func 64 [],.nils,.int .i64 0,.int .i64 b,.int .i64 (n:Int),.int .i64 0,.slice false (.rw 2) 0 0,.int .i64 ((0:Nat):Int)]) [some ⟨1,[.slice false (.rw 1) 0 N,.int .i64 (B3 s N p0 0)]⟩,some ⟨1,s⟩,some ⟨4,M9 s N p0 kd 0⟩]
   (lv 59 [0,2,6,7,8,9,10,11,12] fun e vs H=>Ff s N p0 n=true∧D8 s N (B3 s N p0 n)∧e=.exit 0∧vs=[.ptr (.rw 0) 0,.func 64 [],.nils,.int .i64 0,.int .i64 b,.int .i64 (n:Int),.int .i64 0,.slice false (.rw 2) 0 n,.int .i64 (n:Int)]∧H=[some ⟨1,[.slice false (.rw 1) 0 N,.int .i64 (B3 s N p0 n)]⟩,some ⟨1,s⟩,some ⟨4,(M9 s N p0 kd n)⟩])
   (fun _=>Ff s N p0 n=false):=by
  refine xZ (fun k=>D8 s N (B3 s N p0 k)∧∀ j,j<k→X6 s N (B3 s N p0 j)=true) n (fun k=>[.ptr (.rw 0) 0,.func 64 [],.nils,.int .i64 0,.int .i64 b,.int .i64 (n:Int),.int .i64 0,.slice false (.rw 2) 0 k,.int .i64 (k:Int)]) (fun k=>[some ⟨1,[.slice false (.rw 1) 0 N,.int .i64 (B3 s N p0 k)]⟩,some ⟨1,s⟩,some ⟨4,(M9 s N p0 kd k)⟩]) ⟨r0,fun j hj=>absurd hj (Nat.not_lt_zero j)⟩ fun k hk hP=>?_;obtain ⟨hr,hok⟩:=hP;by_cases hkn:k<n
  ·refine AWpP.frzL (Qp:=fun _=>Ff s N p0 n=false) 5 (kd k) ((aI6 G B s N n k p0 b kd hN h8 hkn hr).lmono (fun _ _ _ h=>h) fun _ h=>?_) ?_
   ·cases e:Ff s N p0 n with
    | false=>rfl
    | true=>have:=E7.1 e k hkn;rw [h] at this;cases this
   rintro e vs H' ⟨q1,q2,q3,q4,rfl,rfl,rfl⟩;refine ⟨⟨_,rfl,rfl,fun j v hj=>?_⟩,hkn,⟨q2,fun j hj=>?_⟩,.inr ?_⟩
   ·have hj:(G (kd k))[j]?=some v:=hj;rw [hD k hkn] at hj;exact ⟨v,hj,bE0 q4 v (zA1 hj),.rfl⟩
   ·by_cases h:j=k
    ·rw [h];exact q1
    ·exact hok j (by omega)
   ·have f0:∀ {l:List AV},A6 0 l=true→fzs 5 (kd k) l=l:=fun h=>Ga (n:=0) (zA8 _) _ h
    have eS:fzs 5 (kd k) ((M9 s N p0 kd k)++[.int .i64 (dA s (B3 s N p0 k)),.int .i64 (At s (B3 s N p0 k)),.slice true (.rw 5) 0 (dN s N (B3 s N p0 k)),.int .i64 (dZ s N (B3 s N p0 k))])=M9 s N p0 kd (k+1):=by
     rw [sC,f0 Rz,aP4];rfl
    have eH:Ut 5 (kd k) [some ⟨1,[.slice false (.rw 1) 0 N,.int .i64 (B3 s N p0 (k+1))]⟩,some ⟨1,s⟩,none,some ⟨1,[.int .i64 (dA s (B3 s N p0 k)),.int .i64 (At s (B3 s N p0 k)),.slice true (.rw 5) 0 (dN s N (B3 s N p0 k)),.int .i64 (dZ s N (B3 s N p0 k))]⟩,some ⟨1,[.int .i64 (dA s (B3 s N p0 k)),.int .i64 (At s (B3 s N p0 k)),.slice true (.rw 5) 0 (dN s N (B3 s N p0 k)),.int .i64 (dZ s N (B3 s N p0 k))]⟩,some ⟨1,dD s N (B3 s N p0 k)⟩,some ⟨1,[.int .i64 (dA s (B3 s N p0 k)),.int .i64 (At s (B3 s N p0 k)),.slice true (.rw 5) 0 (dN s N (B3 s N p0 k)),.int .i64 (dZ s N (B3 s N p0 k))]⟩,some ⟨4,[.int .i64 (dA s (B3 s N p0 k)),.int .i64 (At s (B3 s N p0 k)),.slice true (.rw 5) 0 (dN s N (B3 s N p0 k)),.int .i64 (dZ s N (B3 s N p0 k))]⟩,some ⟨4,(M9 s N p0 kd k)++[.int .i64 (dA s (B3 s N p0 k)),.int .i64 (At s (B3 s N p0 k)),.slice true (.rw 5) 0 (dN s N (B3 s N p0 k)),.int .i64 (dZ s N (B3 s N p0 k))]⟩]=[some ⟨1,[.slice false (.rw 1) 0 N,.int .i64 (B3 s N p0 (k+1))]⟩,some ⟨1,fzs 5 (kd k) s⟩,none,some ⟨1,fzs 5 (kd k) [.int .i64 (dA s (B3 s N p0 k)),.int .i64 (At s (B3 s N p0 k)),.slice true (.rw 5) 0 (dN s N (B3 s N p0 k)),.int .i64 (dZ s N (B3 s N p0 k))]⟩,some ⟨1,fzs 5 (kd k) [.int .i64 (dA s (B3 s N p0 k)),.int .i64 (At s (B3 s N p0 k)),.slice true (.rw 5) 0 (dN s N (B3 s N p0 k)),.int .i64 (dZ s N (B3 s N p0 k))]⟩,none,some ⟨1,fzs 5 (kd k) [.int .i64 (dA s (B3 s N p0 k)),.int .i64 (At s (B3 s N p0 k)),.slice true (.rw 5) 0 (dN s N (B3 s N p0 k)),.int .i64 (dZ s N (B3 s N p0 k))]⟩,some ⟨4,fzs 5 (kd k) [.int .i64 (dA s (B3 s N p0 k)),.int .i64 (At s (B3 s N p0 k)),.slice true (.rw 5) 0 (dN s N (B3 s N p0 k)),.int .i64 (dZ s N (B3 s N p0 k))]⟩,some ⟨4,fzs 5 (kd k) ((M9 s N p0 kd k)++[.int .i64 (dA s (B3 s N p0 k)),.int .i64 (At s (B3 s N p0 k)),.slice true (.rw 5) 0 (dN s N (B3 s N p0 k)),.int .i64 (dZ s N (B3 s N p0 k))])⟩]:=rfl
    rw [eH,eS,f0 us];refine C5.renM (H:=[some ⟨1,[.slice false (.rw 1) 0 N,.int .i64 (B3 s N p0 (k+1))]⟩,some ⟨1,s⟩,some ⟨4,M9 s N p0 kd (k+1)⟩]) (θ:=[0,1,8]) (by simp) Vd (by decide) ⟨⟨rfl,rfl⟩,⟨G2 (zA8 _) _ us,by rw [B4 _ _ us];rfl⟩,⟨Rz,by rw [B4 _ _ Rz];rfl⟩,trivial⟩ rfl ?_;exact ⟨rfl,rfl,rfl,rfl,rfl,rfl,rfl,rfl,rfl,trivial⟩
  ·have ekn:n=k:=by omega
   subst ekn;refine (AWpP.of (rx_end G B n N (B3 s N p0 n) b s (M9 s N p0 kd n))).lmono ?_ fun _ h=>h;rintro e vs H ⟨rfl,rfl,rfl⟩;exact ⟨E7.2 hok,hr,rfl,rfl,rfl⟩
 refine AWpP.frzL 2 ks key ?_;rintro e vs H' ⟨q1,q2,rfl,rfl,rfl⟩;refine ⟨⟨_,rfl,rfl,fun j v hj=>?_⟩,q1,q2,rfl,rfl,?_⟩
 ·have hj:(G ks)[j]?=some v:=hj;rw [hS] at hj;exact ⟨v,hj,aP5 v (zA1 hj),.rfl⟩
 ·show ([some ⟨1,[.slice false (.rw 1) 0 N,.int .i64 (B3 s N p0 n)]⟩,some ⟨1,fzs 2 ks s⟩,none]:Hp)=_;rw [Ga (n:=0) (zA8 _) _ us]
section
variable (G:Nat→List AV) (B:Nat)
def mL (s:List AV) (p0:Int) (j:Nat):Nat→AV
 | 0=>.int .i64 (dA s (H6 s p0 j))
 | _=>.bool (dP s (H6 s p0 j))
def R4 (s:List AV) (p0:Int) (n:Nat):List AV:=L6 n 2 (mL s p0)
theorem sT {s:List AV} {n:Nat} {p0:Int}:(R4 s p0 n).length=n*2:=Ho
theorem aP6 {s:List AV} {n:Nat} {p0:Int}:R4 s p0 (n+1)=R4 s p0 n++[.int .i64 (dA s (H6 s p0 n)),.bool (dP s (H6 s p0 n))]:=Fl (by omega)
theorem Zs {s:List AV} {n k:Nat} {p0:Int}:A6 k (R4 s p0 n)=true:=Ge fun a b ha hb=>by
 match b,hb with
 | 0,_=>rfl
 | 1,_=>rfl
theorem aP7 {s:List AV} {n:Nat} {p0:Int}:∀ v∈R4 s p0 n,E8 v=true:=fun v hv=>by
 unfold R4 L6 at hv;obtain ⟨j,hj,rfl⟩:=List.mem_map.1 hv;have hb:j % 2<2:=Nat.mod_lt _ (by omega);generalize j % 2=b at hb
 match b,hb with
 | 0,_=>rfl
 | 1,_=>rfl
def Ir (s:List AV) (p0:Int) (n:Nat):Bool:=J7 (fun j=>Az s (H6 s p0 j)) n
theorem aI5 (s:List AV) (N n k:Nat) (p0 b:Int) (hN:N≤1000000) (h8:n≤512) (hk:k<n) (r0:D8 s N (H6 s p0 k)) :
  AWpP (za G B) 96 2 (A5 Try.f66 0) (fl 59 [0,2,6,7,8,9,10,11,12] [.ptr (.rw 0) 0,.func 67 [],.nils,.int .i64 0,.int .i64 b,.int .i64 (n:Int),.int .i64 0,.slice false (.rw 2) 0 k,.int .i64 (k:Int)]) [some ⟨1,[.slice false (.rw 1) 0 N,.int .i64 (H6 s p0 k)]⟩,some ⟨1,s⟩,some ⟨2,(R4 s p0 k)⟩]
   (lv 59 [0,2,6,7,8,9,10,11,12] fun e vs H=>Az s (H6 s p0 k)=true∧D8 s N (H6 s p0 (k+1))∧e=.normal∧vs=[.ptr (.rw 0) 0,.func 67 [],.nils,.int .i64 0,.int .i64 b,.int .i64 (n:Int),.int .i64 0,.slice false (.rw 6) 0 (k+1),.int .i64 ((k+1:Nat):Int)]∧H=[some ⟨1,[.slice false (.rw 1) 0 N,.int .i64 (H6 s p0 (k+1))]⟩,some ⟨1,s⟩,none,some ⟨1,[.int .i64 (dA s (H6 s p0 k)),.bool (dP s (H6 s p0 k))]⟩,some ⟨1,[.int .i64 (dA s (H6 s p0 k)),.bool (dP s (H6 s p0 k))]⟩,some ⟨2,[.int .i64 (dA s (H6 s p0 k)),.bool (dP s (H6 s p0 k))]⟩,some ⟨2,(R4 s p0 k)++[.int .i64 (dA s (H6 s p0 k)),.bool (dP s (H6 s p0 k))]⟩])
   (fun _=>Az s (H6 s p0 k)=false):=by
 refine gY (C:=(za G B)) (Z:=⟨Dc Try.prog [61,67,85,90] progR [] 2,96,fun _ _ _=>none,fun _ _=>none,.skip⟩) (pgR G B (by kernel_rfl)) (fun _ _=>rfl) (fuel:=300) (n0:=20) (m:=2) (c:=A5 Try.f66 0) (vs:=[.ptr (.rw 0) (.lit 0),.func 67 [],.nils,.int .i64 (.lit 0),.int .i64 (.var 1 b),.int .i64 (.ofN (.var 2 n)),.int .i64 (.lit 0),.slice false (.rw 2) (.lit 0) (.var 3 k),.int .i64 (.ofN (.var 3 k))]) (H:=[some ⟨1,.of [.slice false (.rw 1) (.lit 0) (.var 4 N),.int .i64 (.var 5 (H6 s p0 k))]⟩,some ⟨1,.var 6 s⟩,some ⟨2,.var 9 (R4 s p0 k)⟩]) (by simp) ?_;rw [t66p]
 have le:∀ {x:Int},decide (x>131072)=false→x≤131072:=fun h=>by have:=sJ h;omega
 have no1:Al s (H6 s p0 k)=false→Az s (H6 s p0 k)=false:=fun h=>by unfold Az;rw [h];rfl
 have no2:(W9 [.agg s,.int .i64 (d1 s (H6 s p0 k))]==0)=false→Az s (H6 s p0 k)=false:=fun h=>by unfold Az;rw [h];simp
 have nE:∀ {p:Int},(C0 [.agg s,.int .i64 p]==0)=false→Al s p=false:=fun h=>by unfold Al;rw [h];rfl
 have nV:∀ {p:Int},decide (A7 [.agg s,.int .i64 p]>131072)=true→Al s p=false:=fun h=>by unfold Al;rw [h];simp
 refine ⟨fun _=>⟨E0.2 r0,fun h1=>⟨fun g1=>no1 (nV g1),fun g1=>?_⟩,fun h1=>no1 (nE h1)⟩,fun hh=>absurd (sJ hh) (by omega)⟩;obtain ⟨r1,v1,_⟩:=M3 r0 (eq_of_beq h1);refine ⟨E0.2 r1,fun h2=>?_,fun h2=>no2 h2⟩;have r2:=rE r1 (eq_of_beq h2);have i1:IntKind.wrap .i64 (A7 [.agg s,.int .i64 (H6 s p0 k)])=dA s (H6 s p0 k):=B5 (by have:=le g1;omega);have i5:IntKind.wrap .i64 ((k:Int)+1)=((k+1:Nat):Int):=by rw [B5 (by omega)];omega
 rw [i1,i5];refine ⟨A8.2 (by omega),by rw [sT];exact zA9 _,?_,r2,rfl,rfl,rfl⟩;unfold Az;have o1:Al s (H6 s p0 k)=true:=N9.2 ⟨eq_of_beq h1,le g1⟩;have o2:(W9 [.agg s,.int .i64 (d1 s (H6 s p0 k))]==0)=true:=h2;rw [o1,o2];rfl
theorem ry_end (n N:Nat) (a b:Int) (s xs:List AV):AWp (za G B) 2 (A5 Try.f66 0) (fl 59 [0,2,6,7,8,9,10,11,12] [.ptr (.rw 0) 0,.func 67 [],.nils,.int .i64 0,.int .i64 b,.int .i64 (n:Int),.int .i64 0,.slice false (.rw 2) 0 n,.int .i64 (n:Int)]) [some ⟨1,[.slice false (.rw 1) 0 N,.int .i64 a]⟩,some ⟨1,s⟩,some ⟨2,xs⟩]
   (lv 59 [0,2,6,7,8,9,10,11,12] fun e vs H=>e=.exit 0∧vs=[.ptr (.rw 0) 0,.func 67 [],.nils,.int .i64 0,.int .i64 b,.int .i64 (n:Int),.int .i64 0,.slice false (.rw 2) 0 n,.int .i64 (n:Int)]∧H=[some ⟨1,[.slice false (.rw 1) 0 N,.int .i64 a]⟩,some ⟨1,s⟩,some ⟨2,xs⟩]):=by
 refine D3 (C:=(za G B)) (K:=Dc Try.prog [61,67,85,90] progR [] 2) (by rw [show loopsOf (A5 Try.f66 0)=[] by kernel_rfl];exact C7 (mix G B) (by kernel_rfl) (L8 G B) .nil) (fuel:=300) (n0:=20) (m:=2) (c:=A5 Try.f66 0) (vs:=[.ptr (.rw 0) (.lit 0),.func 67 [],.nils,.int .i64 (.lit 0),.int .i64 (.var 1 b),.int .i64 (.ofN (.var 2 n)),.int .i64 (.lit 0),.slice false (.rw 2) (.lit 0) (.var 3 n),.int .i64 (.ofN (.var 3 n))]) (H:=[some ⟨1,.of [.slice false (.rw 1) (.lit 0) (.var 4 N),.int .i64 (.var 5 a)]⟩,some ⟨1,.var 6 s⟩,some ⟨2,.var 9 xs⟩]) (by simp) ?_;rw [t66r]
 exact ⟨fun hh=>absurd (zR hh) (by omega),fun _=>⟨rfl,rfl,rfl⟩⟩
theorem qX (s:List AV) (N n kp:Nat) (p0 b:Int) (hN:N≤1000000) (h8:n≤512) (r0:D8 s N p0) (hS:G kp=(R4 s p0 n)) :
  AWpP (za G B) 96 2 (.loop (A5 Try.f66 0)) (fl 59 [0,2,6,7,8,9,10,11,12] [.ptr (.rw 0) 0,.func 67 [],.nils,.int .i64 0,.int .i64 b,.int .i64 (n:Int),.int .i64 0,.slice false (.rw 2) 0 0,.int .i64 0]) [some ⟨1,[.slice false (.rw 1) 0 N,.int .i64 p0]⟩,some ⟨1,s⟩,some ⟨2,[]⟩]
   (lv 59 [0,2,6,7,8,9,10,11,12] fun e vs H=>Ir s p0 n=true∧D8 s N (H6 s p0 n)∧e=.exit 0∧vs=[.ptr (.rw 0) 0,.func 67 [],.nils,.int .i64 0,.int .i64 b,.int .i64 (n:Int),.int .i64 0,.slice false (.ro kp) 0 n,.int .i64 (n:Int)]∧H=[some ⟨1,[.slice false (.rw 1) 0 N,.int .i64 (H6 s p0 n)]⟩,some ⟨1,s⟩,none])
   (fun _=>Ir s p0 n=false):=by
 have us:A6 0 s=true:=B7 (G9 r0.b)
 have key:AWpP (za G B) 96 2 (.loop (A5 Try.f66 0)) (fl 59 [0,2,6,7,8,9,10,11,12] [.ptr (.rw 0) 0,.func 67 [],.nils,.int .i64 0,.int .i64 b,.int .i64 (n:Int),.int .i64 0,.slice false (.rw 2) 0 0,.int .i64 ((0:Nat):Int)]) [some ⟨1,[.slice false (.rw 1) 0 N,.int .i64 (H6 s p0 0)]⟩,some ⟨1,s⟩,some ⟨2,R4 s p0 0⟩]
   (lv 59 [0,2,6,7,8,9,10,11,12] fun e vs H=>Ir s p0 n=true∧D8 s N (H6 s p0 n)∧e=.exit 0∧vs=[.ptr (.rw 0) 0,.func 67 [],.nils,.int .i64 0,.int .i64 b,.int .i64 (n:Int),.int .i64 0,.slice false (.rw 2) 0 n,.int .i64 (n:Int)]∧H=[some ⟨1,[.slice false (.rw 1) 0 N,.int .i64 (H6 s p0 n)]⟩,some ⟨1,s⟩,some ⟨2,(R4 s p0 n)⟩])
   (fun _=>Ir s p0 n=false):=by
  refine xZ (fun k=>D8 s N (H6 s p0 k)∧∀ j,j<k→Az s (H6 s p0 j)=true) n (fun k=>[.ptr (.rw 0) 0,.func 67 [],.nils,.int .i64 0,.int .i64 b,.int .i64 (n:Int),.int .i64 0,.slice false (.rw 2) 0 k,.int .i64 (k:Int)]) (fun k=>[some ⟨1,[.slice false (.rw 1) 0 N,.int .i64 (H6 s p0 k)]⟩,some ⟨1,s⟩,some ⟨2,(R4 s p0 k)⟩]) ⟨r0,fun j hj=>absurd hj (Nat.not_lt_zero j)⟩ fun k hk hP=>?_;obtain ⟨hr,hok⟩:=hP;by_cases hkn:k<n
  ·refine (aI5 G B s N n k p0 b hN h8 hkn hr).lmono ?_ fun _ h=>?_
   ·rintro e vs H' ⟨q1,q2,rfl,rfl,rfl⟩;refine ⟨hkn,⟨q2,fun j hj=>?_⟩,.inr ?_⟩
    ·by_cases h:j=k
     ·rw [h];exact q1
     ·exact hok j (by omega)
    ·rw [←aP6];refine C5.renM (H:=[some ⟨1,[.slice false (.rw 1) 0 N,.int .i64 (H6 s p0 (k+1))]⟩,some ⟨1,s⟩,some ⟨2,R4 s p0 (k+1)⟩]) (θ:=[0,1,6]) (by simp) Vd (by decide) ⟨⟨rfl,rfl⟩,⟨G2 (zA8 _) _ us,by rw [B4 _ _ us];rfl⟩,⟨Zs,by rw [B4 _ _ Zs];rfl⟩,trivial⟩ rfl ?_;exact ⟨rfl,rfl,rfl,rfl,rfl,rfl,rfl,rfl,rfl,trivial⟩
   ·cases e:Ir s p0 n with
    | false=>rfl
    | true=>have:=E7.1 e k hkn;rw [h] at this;cases this
  ·have ekn:n=k:=by omega
   subst ekn;refine (AWpP.of (ry_end G B n N (H6 s p0 n) b s (R4 s p0 n))).lmono ?_ fun _ h=>h;rintro e vs H ⟨rfl,rfl,rfl⟩;exact ⟨E7.2 hok,hr,rfl,rfl,rfl⟩
 refine AWpP.frzL 2 kp key ?_;rintro e vs H' ⟨q1,q2,rfl,rfl,rfl⟩;refine ⟨⟨_,rfl,rfl,fun j v hj=>?_⟩,q1,q2,rfl,rfl,?_⟩
 ·have hj:(G kp)[j]?=some v:=hj;rw [hS] at hj;exact ⟨v,hj,aP7 v (zA1 hj),.rfl⟩
 ·show ([some ⟨1,[.slice false (.rw 1) 0 N,.int .i64 (H6 s p0 n)]⟩,some ⟨1,fzs 2 kp s⟩,none]:Hp)=_;rw [Ga (n:=0) (zA8 _) _ us]
end
end Go.Am
