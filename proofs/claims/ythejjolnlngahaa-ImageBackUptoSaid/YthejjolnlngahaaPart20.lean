/-
  Images read, whatever the bytes: where the program panics. Images read, whatever the bytes: the rounds' trees.
-/
import Derived.Test.YthejjolnlngahaaPart19
import Derived.Test.YthejjolnlngahaaBase5
namespace Go.Am
open Go.Proofs Go.RowKit
set_option maxRecDepth 100000
theorem aV1 {e:Operand→Value} {w:World} {d:Option Tmp} {ty:TypeId} {pos:String} {af:Array Edge}:(execOp e { dst:=d,op:=.build 96 #[],type:=ty,pos:=pos,after:=af,guard:=none }).run Try.prog w=.ok (.value (.agg #[])) w:=by kernel_rfl
theorem aV0 {e:Operand→Value} {w:World} {d:Option Tmp} {ty:TypeId} {pos:String} {af:Array Edge} {x:Operand}:(execOp e { dst:=d,op:=.makeInterface 96 x,type:=ty,pos:=pos,after:=af,guard:=none }).run Try.prog w=.ok (.value (.iface 96 (e x))) w:=by kernel_rfl
theorem aU9 {e:Operand→Value} {w:World} {d:Option Tmp} {ty:TypeId} {pos:String} {af:Array Edge} {x:Operand} {t:TypeId} {v:Value} (h:e x=.iface t v):(execOp e { dst:=d,op:=.panic x,type:=ty,pos:=pos,after:=af,guard:=none }).run Try.prog w=.halt (.panic (.iface t v)) w:=by
 simp only [execOp,h];rfl
theorem kD (ops:List Oper) (k:Nat) (h:panRg ops=some (96,k)):aC2 Try.prog 96 k ops:=by
 unfold panRg at h;split at h
 ·rename_i a t ps ty1 po1 af1 b t' a' ty2 po2 af2 d3 b' ty3 po3 af3;split at h
  ·rename_i hc;simp only [zN] at hc;obtain ⟨h1,h2,h3,h4,h5⟩:=hc;have h1:=yV h1;have h2:=yV h2;have h3:=yV h3;have h5:=yV h5;simp only [zK,yN] at h;obtain ⟨rfl,rfl⟩:=h;subst h1 h2 h3 h5;have hps:ps=#[]:=by simpa using h4
   subst hps;intro r Q ac w hk S hS hQ;simp only [List.all_cons,List.all_nil,zN,Bool.and_true] at hS;unfold wpListIn;rw [if_pos (by rfl)];refine U0 (by rintro c hh;cases hh) ?_;rw [aV1];show wpListIn _ _ _ _ _ _ _ _;unfold wpListIn;rw [if_pos (by rfl)];refine U0 (by rintro c hh;cases hh) ?_;rw [aV0];show wpListIn _ _ _ _ _ _ _ _;unfold wpListIn;rw [if_pos (by rfl)];refine U0 (by rintro c hh;cases hh) ?_
   have e1:(ac.put (some a) (.agg #[])).eval (.tmp a)=.agg #[]:=by
    simp only [Act.eval,Act.put,Array.getD_eq_getD_getElem?];rw [Array.getElem?_setIfInBounds_self_of_lt (by omega)];rfl
   rw [e1]
   rw [aU9 (t:=96) (v:=.agg #[]) (by
    simp only [Act.eval,Act.put,Array.getD_eq_getD_getElem?]
    rw [Array.getElem?_setIfInBounds_self_of_lt (by simp;omega)];rfl)]
   have kp:∀ t∈S,((ac.put (some a) (.agg #[])).put (some (a+1)) (.iface 96 (.agg #[]))).tmps.getD t undef=ac.tmps.getD t undef:=
    fun t ht=>(Rz (a1:=ac) (Rz (a1:=ac) (fun _ _=>rfl) hS.1) hS.2.1) t ht
   exact hQ _ rfl (by simp [Act.put]) kp
  ·cases h
 ·cases h
theorem t63p (G:Nat→List AV) (s xs:List AV) (n c k:Nat) (a b:Int) (Q:Ex→List AV→Hp→Prop) (R:AV→Hp→Prop):vT G Q R (Wm ⟨Dc Try.prog [61,64,70,85] progR [] 2,96,fun _ _ _=>none,fun _ _=>none,.skip⟩ 300 20 2 (A2 Try.f63 0) 59 [0,2,6,7,8,9,10,11,12] [.ptr (.rw 0) (.lit 0),.func 64 [],.nils,.int .i64 (.lit 0),.int .i64 (.var 1 b),.int .i64 (.ofN (.var 2 c)),.int .i64 (.lit 0),.slice false (.rw 2) (.lit 0) (.var 3 k),.int .i64 (.ofN (.var 3 k))] [some ⟨1,.of [.slice false (.rw 1) (.lit 0) (.var 4 n),.int .i64 (.var 5 a)]⟩,some ⟨1,.var 6 s⟩,some ⟨4,.var 9 xs⟩])=(
  (decide (((k:Int):Int)<(c:Int))=true→okRdU [.agg s,.ptr (.rw 0) n,.int .i64 a]=true∧(((D3 [.agg s,.int .i64 a]:Int)==0)=true→(decide ((B0 [.agg s,.int .i64 a]:Int)>131072)=true→R (.func 987654 []) [some ⟨1,([.slice false (.rw 1) 0 n,.int .i64 (A5 [.agg s,.int .i64 a])]:List AV)⟩,some ⟨1,s⟩,some ⟨4,xs⟩,some ⟨1,([.int .i64 0,.int .i64 0,.nils,.int .i64 0]:List AV)⟩,some ⟨1,([.int .i64 0,.int .i64 0,.nils,.int .i64 0]:List AV)⟩])∧(decide ((B0 [.agg s,.int .i64 a]:Int)>131072)=false→okRdU [.agg s,.ptr (.rw 0) n,.int .i64 (A5 [.agg s,.int .i64 a])]=true∧(((D3 [.agg s,.int .i64 (A5 [.agg s,.int .i64 a])]:Int)==0)=true→(decide ((B0 [.agg s,.int .i64 (A5 [.agg s,.int .i64 a])]:Int)>131072)=true→R (.func 987654 []) [some ⟨1,([.slice false (.rw 1) 0 n,.int .i64 (A5 [.agg s,.int .i64 (A5 [.agg s,.int .i64 a])])]:List AV)⟩,some ⟨1,s⟩,some ⟨4,xs⟩,some ⟨1,([.int .i64 0,.int .i64 0,.nils,.int .i64 0]:List AV)⟩,some ⟨1,([.int .i64 0,.int .i64 0,.nils,.int .i64 0]:List AV)⟩])∧(decide ((B0 [.agg s,.int .i64 (A5 [.agg s,.int .i64 a])]:Int)>131072)=false→okRdU [.agg s,.ptr (.rw 0) n,.int .i64 (A5 [.agg s,.int .i64 (A5 [.agg s,.int .i64 a])])]=true∧leB n 1099511627776=true∧decide ((0:Int)≤8192)=true∧decide ((8192:Int)≤9223372036854775807)=true∧(((Az [.agg s,.ptr (.rw 0) n,.int .i64 (A5 [.agg s,.int .i64 (A5 [.agg s,.int .i64 a])]),.int .i64 8192]:Int)==0)=true→okRdU [.agg s,.ptr (.rw 0) n,.int .i64 (L0 [.agg s,.ptr (.rw 0) n,.int .i64 (A5 [.agg s,.int .i64 (A5 [.agg s,.int .i64 a])]),.int .i64 8192])]=true∧
 (((D3 [.agg s,.int .i64 (L0 [.agg s,.ptr (.rw 0) n,.int .i64 (A5 [.agg s,.int .i64 (A5 [.agg s,.int .i64 a])]),.int .i64 8192])]:Int)==0)=true→(decide ((B0 [.agg s,.int .i64 (L0 [.agg s,.ptr (.rw 0) n,.int .i64 (A5 [.agg s,.int .i64 (A5 [.agg s,.int .i64 a])]),.int .i64 8192])]:Int)>131072)=true→R (.func 987654 []) [some ⟨1,([.slice false (.rw 1) 0 n,.int .i64 (A5 [.agg s,.int .i64 (L0 [.agg s,.ptr (.rw 0) n,.int .i64 (A5 [.agg s,.int .i64 (A5 [.agg s,.int .i64 a])]),.int .i64 8192])])]:List AV)⟩,some ⟨1,s⟩,some ⟨4,xs⟩,some ⟨1,([.int .i64 0,.int .i64 0,.nils,.int .i64 0]:List AV)⟩,some ⟨1,([.int .i64 0,.int .i64 0,.nils,.int .i64 0]:List AV)⟩,some ⟨1,(W5 [.agg s,.ptr (.rw 0) n,.int .i64 (A5 [.agg s,.int .i64 (A5 [.agg s,.int .i64 a])]),.int .i64 8192])⟩,some ⟨1,([.int .i64 (IntKind.wrap .i64 (B0 [.agg s,.int .i64 a])),.int .i64 (IntKind.wrap .i64 (B0 [.agg s,.int .i64 (A5 [.agg s,.int .i64 a])])),.slice true (.rw 5) 0 (S8 [.agg s,.ptr (.rw 0) n,.int .i64 (A5 [.agg s,.int .i64 (A5 [.agg s,.int .i64 a])]),.int .i64 8192]),.int .i64 0]:List AV)⟩])∧(decide ((B0 [.agg s,.int .i64 (L0 [.agg s,.ptr (.rw 0) n,.int .i64 (A5 [.agg s,.int .i64 (A5 [.agg s,.int .i64 a])]),.int .i64 8192])]:Int)>131072)=false→leB ((k+1)*48) 140737488355328=true∧Nat.beq (List.length xs) (k*4)=true∧
 Q .normal [.ptr (.rw 0) 0,.func 64 [],.nils,.int .i64 0,.int .i64 b,.int .i64 ((c:Int)),.int .i64 0,.slice false (.rw 8) 0 (k+1),.int .i64 (IntKind.wrap .i64 ((k:Int)+1))] [some ⟨1,([.slice false (.rw 1) 0 n,.int .i64 (A5 [.agg s,.int .i64 (L0 [.agg s,.ptr (.rw 0) n,.int .i64 (A5 [.agg s,.int .i64 (A5 [.agg s,.int .i64 a])]),.int .i64 8192])])]:List AV)⟩,some ⟨1,s⟩,none,some ⟨1,([.int .i64 (IntKind.wrap .i64 (B0 [.agg s,.int .i64 a])),.int .i64 (IntKind.wrap .i64 (B0 [.agg s,.int .i64 (A5 [.agg s,.int .i64 a])])),.slice true (.rw 5) 0 (S8 [.agg s,.ptr (.rw 0) n,.int .i64 (A5 [.agg s,.int .i64 (A5 [.agg s,.int .i64 a])]),.int .i64 8192]),.int .i64 (IntKind.wrap .i64 (B0 [.agg s,.int .i64 (L0 [.agg s,.ptr (.rw 0) n,.int .i64 (A5 [.agg s,.int .i64 (A5 [.agg s,.int .i64 a])]),.int .i64 8192])]))]:List AV)⟩,some ⟨1,([.int .i64 (IntKind.wrap .i64 (B0 [.agg s,.int .i64 a])),.int .i64 (IntKind.wrap .i64 (B0 [.agg s,.int .i64 (A5 [.agg s,.int .i64 a])])),.slice true (.rw 5) 0 (S8 [.agg s,.ptr (.rw 0) n,.int .i64 (A5 [.agg s,.int .i64 (A5 [.agg s,.int .i64 a])]),.int .i64 8192]),.int .i64 (IntKind.wrap .i64 (B0 [.agg s,.int .i64 (L0 [.agg s,.ptr (.rw 0) n,.int .i64 (A5 [.agg s,.int .i64 (A5 [.agg s,.int .i64 a])]),.int .i64 8192])]))]:List AV)⟩,some ⟨1,(W5 [.agg s,.ptr (.rw 0) n,.int .i64 (A5 [.agg s,.int .i64 (A5 [.agg s,.int .i64 a])]),.int .i64 8192])⟩,some ⟨1,([.int .i64 (IntKind.wrap .i64 (B0 [.agg s,.int .i64 a])),.int .i64 (IntKind.wrap .i64 (B0 [.agg s,.int .i64 (A5 [.agg s,.int .i64 a])])),.slice true (.rw 5) 0 (S8 [.agg s,.ptr (.rw 0) n,.int .i64 (A5 [.agg s,.int .i64 (A5 [.agg s,.int .i64 a])]),.int .i64 8192]),.int .i64 (IntKind.wrap .i64 (B0 [.agg s,.int .i64 (L0 [.agg s,.ptr (.rw 0) n,.int .i64 (A5 [.agg s,.int .i64 (A5 [.agg s,.int .i64 a])]),.int .i64 8192])]))]:List AV)⟩,some ⟨4,([.int .i64 (IntKind.wrap .i64 (B0 [.agg s,.int .i64 a])),.int .i64 (IntKind.wrap .i64 (B0 [.agg s,.int .i64 (A5 [.agg s,.int .i64 a])])),.slice true (.rw 5) 0 (S8 [.agg s,.ptr (.rw 0) n,.int .i64 (A5 [.agg s,.int .i64 (A5 [.agg s,.int .i64 a])]),.int .i64 8192]),.int .i64 (IntKind.wrap .i64 (B0 [.agg s,.int .i64 (L0 [.agg s,.ptr (.rw 0) n,.int .i64 (A5 [.agg s,.int .i64 (A5 [.agg s,.int .i64 a])]),.int .i64 8192])]))]:List AV)⟩,some ⟨4,(xs++([.int .i64 (IntKind.wrap .i64 (B0 [.agg s,.int .i64 a])),.int .i64 (IntKind.wrap .i64 (B0 [.agg s,.int .i64 (A5 [.agg s,.int .i64 a])])),.slice true (.rw 5) 0 (S8 [.agg s,.ptr (.rw 0) n,.int .i64 (A5 [.agg s,.int .i64 (A5 [.agg s,.int .i64 a])]),.int .i64 8192]),.int .i64 (IntKind.wrap .i64 (B0 [.agg s,.int .i64 (L0 [.agg s,.ptr (.rw 0) n,.int .i64 (A5 [.agg s,.int .i64 (A5 [.agg s,.int .i64 a])]),.int .i64 8192])]))]:List AV))⟩]))∧
 (((D3 [.agg s,.int .i64 (L0 [.agg s,.ptr (.rw 0) n,.int .i64 (A5 [.agg s,.int .i64 (A5 [.agg s,.int .i64 a])]),.int .i64 8192])]:Int)==0)=false→R (.func 987654 []) [some ⟨1,([.slice false (.rw 1) 0 n,.int .i64 (A5 [.agg s,.int .i64 (L0 [.agg s,.ptr (.rw 0) n,.int .i64 (A5 [.agg s,.int .i64 (A5 [.agg s,.int .i64 a])]),.int .i64 8192])])]:List AV)⟩,some ⟨1,s⟩,some ⟨4,xs⟩,some ⟨1,([.int .i64 0,.int .i64 0,.nils,.int .i64 0]:List AV)⟩,some ⟨1,([.int .i64 0,.int .i64 0,.nils,.int .i64 0]:List AV)⟩,some ⟨1,(W5 [.agg s,.ptr (.rw 0) n,.int .i64 (A5 [.agg s,.int .i64 (A5 [.agg s,.int .i64 a])]),.int .i64 8192])⟩,some ⟨1,([.int .i64 (IntKind.wrap .i64 (B0 [.agg s,.int .i64 a])),.int .i64 (IntKind.wrap .i64 (B0 [.agg s,.int .i64 (A5 [.agg s,.int .i64 a])])),.slice true (.rw 5) 0 (S8 [.agg s,.ptr (.rw 0) n,.int .i64 (A5 [.agg s,.int .i64 (A5 [.agg s,.int .i64 a])]),.int .i64 8192]),.int .i64 0]:List AV)⟩]))∧(((Az [.agg s,.ptr (.rw 0) n,.int .i64 (A5 [.agg s,.int .i64 (A5 [.agg s,.int .i64 a])]),.int .i64 8192]:Int)==0)=false→R (.func 987654 []) [some ⟨1,([.slice false (.rw 1) 0 n,.int .i64 (L0 [.agg s,.ptr (.rw 0) n,.int .i64 (A5 [.agg s,.int .i64 (A5 [.agg s,.int .i64 a])]),.int .i64 8192])]:List AV)⟩,some ⟨1,s⟩,some ⟨4,xs⟩,some ⟨1,([.int .i64 0,.int .i64 0,.nils,.int .i64 0]:List AV)⟩,some ⟨1,([.int .i64 0,.int .i64 0,.nils,.int .i64 0]:List AV)⟩,some ⟨1,(W5 [.agg s,.ptr (.rw 0) n,.int .i64 (A5 [.agg s,.int .i64 (A5 [.agg s,.int .i64 a])]),.int .i64 8192])⟩])))∧(((D3 [.agg s,.int .i64 (A5 [.agg s,.int .i64 a])]:Int)==0)=false→
 R (.func 987654 []) [some ⟨1,([.slice false (.rw 1) 0 n,.int .i64 (A5 [.agg s,.int .i64 (A5 [.agg s,.int .i64 a])])]:List AV)⟩,some ⟨1,s⟩,some ⟨4,xs⟩,some ⟨1,([.int .i64 0,.int .i64 0,.nils,.int .i64 0]:List AV)⟩,some ⟨1,([.int .i64 0,.int .i64 0,.nils,.int .i64 0]:List AV)⟩])))∧(((D3 [.agg s,.int .i64 a]:Int)==0)=false→R (.func 987654 []) [some ⟨1,([.slice false (.rw 1) 0 n,.int .i64 (A5 [.agg s,.int .i64 a])]:List AV)⟩,some ⟨1,s⟩,some ⟨4,xs⟩,some ⟨1,([.int .i64 0,.int .i64 0,.nils,.int .i64 0]:List AV)⟩,some ⟨1,([.int .i64 0,.int .i64 0,.nils,.int .i64 0]:List AV)⟩]))∧(decide (((k:Int):Int)<(c:Int))=false→Q (.exit 0) [.ptr (.rw 0) 0,.func 64 [],.nils,.int .i64 0,.int .i64 b,.int .i64 ((c:Int)),.int .i64 0,.slice false (.rw 2) 0 k,.int .i64 ((k:Int))] [some ⟨1,([.slice false (.rw 1) 0 n,.int .i64 a]:List AV)⟩,some ⟨1,s⟩,some ⟨4,xs⟩])):=by kernel_rfl
theorem t66p (G:Nat→List AV) (s xs:List AV) (n c k:Nat) (a b:Int) (Q:Ex→List AV→Hp→Prop) (R:AV→Hp→Prop):vT G Q R (Wm ⟨Dc Try.prog [61,67,85,90] progR [] 2,96,fun _ _ _=>none,fun _ _=>none,.skip⟩ 300 20 2 (A2 Try.f66 0) 59 [0,2,6,7,8,9,10,11,12] [.ptr (.rw 0) (.lit 0),.func 67 [],.nils,.int .i64 (.lit 0),.int .i64 (.var 1 b),.int .i64 (.ofN (.var 2 c)),.int .i64 (.lit 0),.slice false (.rw 2) (.lit 0) (.var 3 k),.int .i64 (.ofN (.var 3 k))] [some ⟨1,.of [.slice false (.rw 1) (.lit 0) (.var 4 n),.int .i64 (.var 5 a)]⟩,some ⟨1,.var 6 s⟩,some ⟨2,.var 9 xs⟩])=(
  (decide (((k:Int):Int)<(c:Int))=true→okRdU [.agg s,.ptr (.rw 0) n,.int .i64 a]=true∧(((D3 [.agg s,.int .i64 a]:Int)==0)=true→(decide ((B0 [.agg s,.int .i64 a]:Int)>131072)=true→R (.func 987654 []) [some ⟨1,([.slice false (.rw 1) 0 n,.int .i64 (A5 [.agg s,.int .i64 a])]:List AV)⟩,some ⟨1,s⟩,some ⟨2,xs⟩,some ⟨1,([.int .i64 0,.bool false]:List AV)⟩,some ⟨1,([.int .i64 0,.bool false]:List AV)⟩])∧(decide ((B0 [.agg s,.int .i64 a]:Int)>131072)=false→okRdU [.agg s,.ptr (.rw 0) n,.int .i64 (A5 [.agg s,.int .i64 a])]=true∧(((Ez [.agg s,.int .i64 (A5 [.agg s,.int .i64 a])]:Int)==0)=true→leB ((k+1)*16) 140737488355328=true∧Nat.beq (List.length xs) (k*2)=true∧Q .normal [.ptr (.rw 0) 0,.func 67 [],.nils,.int .i64 0,.int .i64 b,.int .i64 ((c:Int)),.int .i64 0,.slice false (.rw 6) 0 (k+1),.int .i64 (IntKind.wrap .i64 ((k:Int)+1))] [some ⟨1,([.slice false (.rw 1) 0 n,.int .i64 (Ho [.agg s,.int .i64 (A5 [.agg s,.int .i64 a])])]:List AV)⟩,some ⟨1,s⟩,none,some ⟨1,([.int .i64 (IntKind.wrap .i64 (B0 [.agg s,.int .i64 a])),.bool (Ey [.agg s,.int .i64 (A5 [.agg s,.int .i64 a])])]:List AV)⟩,some ⟨1,([.int .i64 (IntKind.wrap .i64 (B0 [.agg s,.int .i64 a])),.bool (Ey [.agg s,.int .i64 (A5 [.agg s,.int .i64 a])])]:List AV)⟩,some ⟨2,([.int .i64 (IntKind.wrap .i64 (B0 [.agg s,.int .i64 a])),.bool (Ey [.agg s,.int .i64 (A5 [.agg s,.int .i64 a])])]:List AV)⟩,some ⟨2,(xs++([.int .i64 (IntKind.wrap .i64 (B0 [.agg s,.int .i64 a])),.bool (Ey [.agg s,.int .i64 (A5 [.agg s,.int .i64 a])])]:List AV))⟩])∧(((Ez [.agg s,.int .i64 (A5 [.agg s,.int .i64 a])]:Int)==0)=false→
 R (.func 987654 []) [some ⟨1,([.slice false (.rw 1) 0 n,.int .i64 (Ho [.agg s,.int .i64 (A5 [.agg s,.int .i64 a])])]:List AV)⟩,some ⟨1,s⟩,some ⟨2,xs⟩,some ⟨1,([.int .i64 0,.bool false]:List AV)⟩,some ⟨1,([.int .i64 0,.bool false]:List AV)⟩])))∧(((D3 [.agg s,.int .i64 a]:Int)==0)=false→R (.func 987654 []) [some ⟨1,([.slice false (.rw 1) 0 n,.int .i64 (A5 [.agg s,.int .i64 a])]:List AV)⟩,some ⟨1,s⟩,some ⟨2,xs⟩,some ⟨1,([.int .i64 0,.bool false]:List AV)⟩,some ⟨1,([.int .i64 0,.bool false]:List AV)⟩]))∧(decide (((k:Int):Int)<(c:Int))=false→Q (.exit 0) [.ptr (.rw 0) 0,.func 67 [],.nils,.int .i64 0,.int .i64 b,.int .i64 ((c:Int)),.int .i64 0,.slice false (.rw 2) 0 k,.int .i64 ((k:Int))] [some ⟨1,([.slice false (.rw 1) 0 n,.int .i64 a]:List AV)⟩,some ⟨1,s⟩,some ⟨2,xs⟩])):=by kernel_rfl
theorem N8 {s:List AV} {N:Nat} {p:Int} (h:J2 s N p) (h0:D3 [.agg s,.int .i64 p]=0):J2 s N (A5 [.agg s,.int .i64 p])∧0≤B0 [.agg s,.int .i64 p]∧p≤A5 [.agg s,.int .i64 p]:=by
 obtain ⟨h1,h2,h3⟩:=mD (k:=.i64) h h0;have hp:=h.pos;exact ⟨⟨h.b,h.len,h.big,by omega,by omega⟩,h1,h2⟩
theorem bB2 {l l':List AV} (h:I9 l=true) (hs:∀ v∈l',v∈l):I9 l'=true:=by
 simp only [I9,xM] at h ⊢;exact fun v hv=>h v (hs v hv)
theorem rN {s:List AV} {N M:Nat} {p:Int} (h:J2 s N p) (h0:Az [.agg s,.ptr (.rw 0) N,.int .i64 p,.int .i64 (M:Int)]=0):J2 s N (L0 [.agg s,.ptr (.rw 0) N,.int .i64 p,.int .i64 (M:Int)])∧(W5 [.agg s,.ptr (.rw 0) N,.int .i64 p,.int .i64 (M:Int)]).length=S8 [.agg s,.ptr (.rw 0) N,.int .i64 p,.int .i64 (M:Int)]∧S8 [.agg s,.ptr (.rw 0) N,.int .i64 p,.int .i64 (M:Int)]≤M∧I9 (W5 [.agg s,.ptr (.rw 0) N,.int .i64 p,.int .i64 (M:Int)])=true:=by
 by_cases e:D3 [.agg s,.int .i64 p]=0
 ·obtain ⟨g,v0,g2⟩:=N8 h e;have hp:=g.pos;have hle:=g.le;have hlen:=g.len;simp only [Az,e,if_true] at h0;by_cases h1:B0 [.agg s,.int .i64 p]≤(M:Int)
  ·rw [if_pos h1] at h0;by_cases h2:B0 [.agg s,.int .i64 p]≤(N:Int) - A5 [.agg s,.int .i64 p]
   ·have ok:Cq s N p (M:Int)=true:=by
     unfold Cq;simp only [zN,xE];exact ⟨e,h1,h2⟩
    refine ⟨⟨h.b,h.len,h.big,?_,?_⟩,?_,?_,?_⟩
    ·simp only [L0,ok,if_true];omega
    ·simp only [L0,ok,if_true];omega
    ·simp only [W5,S8,ok,if_true,A9,List.length_take,List.length_drop];omega
    ·simp only [S8,ok,if_true];omega
    ·simp only [W5,ok,if_true];exact bB2 h.b fun v hv=>List.mem_of_mem_drop (List.mem_of_mem_take hv)
   ·rw [if_neg h2] at h0;omega
  ·rw [if_neg h1] at h0;omega
 ·simp only [Az,if_neg e] at h0;exact absurd h0 e
theorem rK {s:List AV} {N:Nat} {p:Int} (h:J2 s N p) (h0:Ez [.agg s,.int .i64 p]=0):J2 s N (Ho [.agg s,.int .i64 p]):=by
 have hp:=h.pos;have hle:=h.le;have hlen:=h.len;simp only [Ez] at h0;cases ok:Ma s p.toNat with
 | true=>
  have:=ok
  simp only [Ma,zN,xE] at this;refine ⟨h.b,h.len,h.big,?_,?_⟩
  ·simp only [Ho,ok,if_true];omega
  ·simp only [Ho,ok,if_true];omega
 | false=>rw [ok] at h0;exact absurd h0 (by decide)
section
variable (s:List AV) (N:Nat)
def dA (p:Int):Int:=B0 [.agg s,.int .i64 p]
def d1 (p:Int):Int:=A5 [.agg s,.int .i64 p]
def d2 (p:Int):Int:=d1 s (d1 s p)
def Da (p:Int):Int:=dA s (d1 s p)
def dN (p:Int):Nat:=S8 [.agg s,.ptr (.rw 0) N,.int .i64 (d2 s p),.int .i64 8192]
def dD (p:Int):List AV:=W5 [.agg s,.ptr (.rw 0) N,.int .i64 (d2 s p),.int .i64 8192]
def d3 (p:Int):Int:=L0 [.agg s,.ptr (.rw 0) N,.int .i64 (d2 s p),.int .i64 8192]
def dZ (p:Int):Int:=dA s (d3 s N p)
def d4 (p:Int):Int:=d1 s (d3 s N p)
def Ah (p:Int):Bool:=(D3 [.agg s,.int .i64 p]==0)&&!(decide (B0 [.agg s,.int .i64 p]>131072))
def uS (p:Int):Bool:=Az [.agg s,.ptr (.rw 0) N,.int .i64 p,.int .i64 8192]==0
def Z9 (p:Int):Bool:=Ah s p&&(Ah s (d1 s p)&&(uS s N (d2 s p)&&Ah s (d3 s N p)))
def B4 (p0:Int):Nat→Int
 | 0=>p0
 | k+1=>d4 s N (B4 p0 k)
def dP (p:Int):Bool:=Ey [.agg s,.int .i64 (d1 s p)]
def d5 (p:Int):Int:=Ho [.agg s,.int .i64 (d1 s p)]
def En (p:Int):Bool:=Ah s p&&(Ez [.agg s,.int .i64 (d1 s p)]==0)
def I0 (p0:Int):Nat→Int
 | 0=>p0
 | k+1=>d5 s (I0 p0 k)
end
theorem T4 {s:List AV} {p:Int}:Ah s p=true↔D3 [.agg s,.int .i64 p]=0∧B0 [.agg s,.int .i64 p]≤131072:=by
 simp only [Ah,zN,beq_iff_eq,Bool.not_eq_true',decide_eq_false_iff_not];exact ⟨fun ⟨h1,h2⟩=>⟨h1,by omega⟩,fun ⟨h1,h2⟩=>⟨h1,by omega⟩⟩
theorem AWpP.lmono {C:A0} {rt m:Nat} {c:Code} {F:Fr} {H:Hp} {N:Nat} {live:List Nat} {Q Q':Ex→List AV→Hp→Prop} {Qp Qp':Hp→Prop} (h:AWpP C rt m c F H (lv N live Q) Qp) (hq:∀ e vs H',Q e vs H'→Q' e vs H') (hp:∀ H,Qp H→Qp' H):AWpP C rt m c F H (lv N live Q') Qp':=
 h.mono (fun e F' H' h=>by
  obtain ⟨h1,h2⟩:=U6 h;show chk (Nat.beq F'.length N) (Q' e (Ca live F') H');rw [h1]
  exact hq _ _ _ h2) hp
theorem xI {C:A0} {rt m:Nat} {c:Code} {N:Nat} {live:List Nat} {Q:Ex→List AV→Hp→Prop} {Qp:Hp→Prop} (P:Nat→Prop) (n:Nat) (st:Nat→List AV) (hp:Nat→Hp) (h0:P 0)
  (h:∀ i,i≤n→P i→AWpP C rt m c (fl N live (st i)) (hp i) (lv N live fun e vs H=>match e with
   | .normal=>i<n∧P (i+1)∧((vs=st (i+1)∧H=hp (i+1))∨C2 m (st (i+1)) (hp (i+1)) vs H)
   | e=>Q e vs H) Qp):AWpP C rt m (.loop c) (fl N live (st 0)) (hp 0) (lv N live Q) Qp:=by
 refine aB8 (fun j vs H=>∃ i:Nat,i≤n∧P i∧j=n - i∧vs=st i∧H=hp i) n ⟨0,by omega,h0,rfl,rfl,rfl⟩ ?_;rintro j vs H ⟨i,hi,hP,rfl,rfl,rfl⟩;refine (h i hi hP).lmono ?_ fun _ h=>h;intro e vs' H' hq
 match e,hq with
 | .normal,⟨hin,hP',hq⟩=>
  refine ⟨n - (i+1),by omega,?_⟩;rcases hq with ⟨rfl,rfl⟩ | hq
  ·exact .inl ⟨i+1,by omega,hP',rfl,rfl,rfl⟩
  ·exact .inr ⟨_,_,⟨i+1,by omega,hP',rfl,rfl,rfl⟩,hq⟩
 | .ret,hq=>exact hq
 | .exit i,hq=>exact hq
theorem pgR (G:Nat→List AV) (B:Nat) {inl:List Nat} {M:Nat} (hp:Qa Try.prog inl=true):Xw (⟨Try.prog,G,B⟩:A0) ⟨Dc Try.prog inl progR [] M,96,fun _ _ _=>none,fun _ _=>none,.skip⟩:=
 ⟨D7 (mix G B) hp (U3 G B) .nil,fun _ _ _ _ _ _ _ _ h=>(by cases h),fun _ _ _ h=>(by cases h),fun ops k h=>kD ops k h⟩
def tY (s:List AV) (N:Nat) (p0:Int) (kd:Nat→Nat) (j:Nat):Nat→AV
 | 0=>.int .i64 (dA s (B4 s N p0 j))
 | 1=>.int .i64 (Da s (B4 s N p0 j))
 | 2=>.slice true (.ro (kd j)) 0 (dN s N (B4 s N p0 j))
 | _=>.int .i64 (dZ s N (B4 s N p0 j))
def M6 (s:List AV) (N:Nat) (p0:Int) (kd:Nat→Nat) (n:Nat):List AV:=M7 n 4 (tY s N p0 kd)
theorem sY {s:List AV} {N n:Nat} {p0:Int} {kd:Nat→Nat}:(M6 s N p0 kd n).length=n*4:=Ck
theorem aM0 {s:List AV} {N n:Nat} {p0:Int} {kd:Nat→Nat}:M6 s N p0 kd (n+1)=M6 s N p0 kd n++[.int .i64 (dA s (B4 s N p0 n)),.int .i64 (Da s (B4 s N p0 n)),.slice true (.ro (kd n)) 0 (dN s N (B4 s N p0 n)),.int .i64 (dZ s N (B4 s N p0 n))]:=gQ (by omega)
theorem So {s:List AV} {N n k:Nat} {p0:Int} {kd:Nat→Nat}:A3 k (M6 s N p0 kd n)=true:=Oe fun a b ha hb=>by
 match b,hb with
 | 0,_=>rfl
 | 1,_=>rfl
 | 2,_=>rfl
 | 3,_=>rfl
theorem aG4 (G:Nat→List AV) (B:Nat) (s:List AV) (N n k:Nat) (p0 b:Int) (kd:Nat→Nat) (hN:N≤1000000) (h8:n≤8) (hk:k<n) (r0:J2 s N (B4 s N p0 k)) :
  AWpP (⟨Try.prog,G,B⟩:A0) 96 2 (A2 Try.f63 0) (fl 59 [0,2,6,7,8,9,10,11,12] [.ptr (.rw 0) 0,.func 64 [],.nils,.int .i64 0,.int .i64 b,.int .i64 (n:Int),.int .i64 0,.slice false (.rw 2) 0 k,.int .i64 (k:Int)]) [some ⟨1,[.slice false (.rw 1) 0 N,.int .i64 (B4 s N p0 k)]⟩,some ⟨1,s⟩,some ⟨4,(M6 s N p0 kd k)⟩]
   (lv 59 [0,2,6,7,8,9,10,11,12] fun e vs H=>Z9 s N (B4 s N p0 k)=true∧J2 s N (B4 s N p0 (k+1))∧(dD s N (B4 s N p0 k)).length=dN s N (B4 s N p0 k)∧I9 (dD s N (B4 s N p0 k))=true∧e=.normal∧vs=[.ptr (.rw 0) 0,.func 64 [],.nils,.int .i64 0,.int .i64 b,.int .i64 (n:Int),.int .i64 0,.slice false (.rw 8) 0 (k+1),.int .i64 ((k+1:Nat):Int)]∧H=[some ⟨1,[.slice false (.rw 1) 0 N,.int .i64 (B4 s N p0 (k+1))]⟩,some ⟨1,s⟩,none,some ⟨1,[.int .i64 (dA s (B4 s N p0 k)),.int .i64 (Da s (B4 s N p0 k)),.slice true (.rw 5) 0 (dN s N (B4 s N p0 k)),.int .i64 (dZ s N (B4 s N p0 k))]⟩,some ⟨1,[.int .i64 (dA s (B4 s N p0 k)),.int .i64 (Da s (B4 s N p0 k)),.slice true (.rw 5) 0 (dN s N (B4 s N p0 k)),.int .i64 (dZ s N (B4 s N p0 k))]⟩,some ⟨1,dD s N (B4 s N p0 k)⟩,some ⟨1,[.int .i64 (dA s (B4 s N p0 k)),.int .i64 (Da s (B4 s N p0 k)),.slice true (.rw 5) 0 (dN s N (B4 s N p0 k)),.int .i64 (dZ s N (B4 s N p0 k))]⟩,some ⟨4,[.int .i64 (dA s (B4 s N p0 k)),.int .i64 (Da s (B4 s N p0 k)),.slice true (.rw 5) 0 (dN s N (B4 s N p0 k)),.int .i64 (dZ s N (B4 s N p0 k))]⟩,some ⟨4,(M6 s N p0 kd k)++[.int .i64 (dA s (B4 s N p0 k)),.int .i64 (Da s (B4 s N p0 k)),.slice true (.rw 5) 0 (dN s N (B4 s N p0 k)),.int .i64 (dZ s N (B4 s N p0 k))]⟩])
   (fun _=>Z9 s N (B4 s N p0 k)=false):=by
 refine iB (C:=(⟨Try.prog,G,B⟩:A0)) (Z:=⟨Dc Try.prog [61,64,70,85] progR [] 2,96,fun _ _ _=>none,fun _ _=>none,.skip⟩) (pgR G B (by kernel_rfl)) (fun _ _=>rfl) (fuel:=300) (n0:=20) (m:=2) (c:=A2 Try.f63 0) (vs:=[.ptr (.rw 0) (.lit 0),.func 64 [],.nils,.int .i64 (.lit 0),.int .i64 (.var 1 b),.int .i64 (.ofN (.var 2 n)),.int .i64 (.lit 0),.slice false (.rw 2) (.lit 0) (.var 3 k),.int .i64 (.ofN (.var 3 k))]) (H:=[some ⟨1,.of [.slice false (.rw 1) (.lit 0) (.var 4 N),.int .i64 (.var 5 (B4 s N p0 k))]⟩,some ⟨1,.var 6 s⟩,some ⟨4,.var 9 (M6 s N p0 kd k)⟩]) (by simp) ?_;rw [t63p]
 have gt:∀ {x:Int},decide (x>131072)=true→¬x≤131072:=fun h=>by have:=yL h;omega
 have le:∀ {x:Int},decide (x>131072)=false→x≤131072:=fun h=>by have:=yP h;omega
 have no1:Ah s (B4 s N p0 k)=false→Z9 s N (B4 s N p0 k)=false:=fun h=>by unfold Z9;rw [h];rfl
 have no2:Ah s (d1 s (B4 s N p0 k))=false→Z9 s N (B4 s N p0 k)=false:=fun h=>by unfold Z9;rw [h];simp
 have no3:uS s N (d2 s (B4 s N p0 k))=false→Z9 s N (B4 s N p0 k)=false:=fun h=>by unfold Z9;rw [h];simp
 have no4:Ah s (d3 s N (B4 s N p0 k))=false→Z9 s N (B4 s N p0 k)=false:=fun h=>by unfold Z9;rw [h];simp
 have nE:∀ {p:Int},(D3 [.agg s,.int .i64 p]==0)=false→Ah s p=false:=fun h=>by unfold Ah;rw [h];rfl
 have nV:∀ {p:Int},decide (B0 [.agg s,.int .i64 p]>131072)=true→Ah s p=false:=fun h=>by unfold Ah;rw [h];simp
 refine ⟨fun _=>⟨J9.2 r0,fun h1=>⟨fun g1=>no1 (nV g1),fun g1=>?_⟩,fun h1=>no1 (nE h1)⟩,fun hh=>absurd (yP hh) (by omega)⟩;obtain ⟨r1,v1,_⟩:=N8 r0 (eq_of_beq h1);refine ⟨J9.2 r1,fun h2=>⟨fun g2=>no2 (nV g2),fun g2=>?_⟩,fun h2=>no2 (nE h2)⟩;obtain ⟨r2,v2,_⟩:=N8 r1 (eq_of_beq h2);refine ⟨J9.2 r2,B2.2 (by omega),by decide,by decide,fun h3=>?_,fun h3=>no3 h3⟩;obtain ⟨r3,v3,w3,b3⟩:=rN (M:=8192) r2 (eq_of_beq h3);refine ⟨J9.2 r3,fun h4=>⟨fun g4=>no4 (nV g4),fun g4=>?_⟩,fun h4=>no4 (nE h4)⟩;obtain ⟨r4,v4,_⟩:=N8 r3 (eq_of_beq h4)
 have e1:B0 [.agg s,.int .i64 (B4 s N p0 k)]=dA s (B4 s N p0 k):=rfl;have e2:B0 [.agg s,.int .i64 (A5 [.agg s,.int .i64 (B4 s N p0 k)])]=Da s (B4 s N p0 k):=rfl;have e4:B0 [.agg s,.int .i64 (L0 [.agg s,.ptr (.rw 0) N,.int .i64 (A5 [.agg s,.int .i64 (A5 [.agg s,.int .i64 (B4 s N p0 k)])]),.int .i64 8192])]=dZ s N (B4 s N p0 k):=rfl;have e8:((8192:Nat):Int)=8192:=rfl;rw [e8] at v3 w3 b3 r3 v4 r4;have i1:IntKind.wrap .i64 (B0 [.agg s,.int .i64 (B4 s N p0 k)])=dA s (B4 s N p0 k):=B6 (by have:=le g1;omega)
 have i2:IntKind.wrap .i64 (B0 [.agg s,.int .i64 (A5 [.agg s,.int .i64 (B4 s N p0 k)])])=Da s (B4 s N p0 k):=B6 (by have:=le g2;omega);have i4:IntKind.wrap .i64 (B0 [.agg s,.int .i64 (L0 [.agg s,.ptr (.rw 0) N,.int .i64 (A5 [.agg s,.int .i64 (A5 [.agg s,.int .i64 (B4 s N p0 k)])]),.int .i64 8192])])=dZ s N (B4 s N p0 k):=B6 (by have:=le g4;omega);have i5:IntKind.wrap .i64 ((k:Int)+1)=((k+1:Nat):Int):=by rw [B6 (by omega)];omega
 rw [i1,i2,i4,i5];refine ⟨B2.2 (by omega),by rw [sY];exact zA3 _,?_,r4,v3,b3,rfl,rfl,rfl⟩;unfold Z9;have o1:Ah s (B4 s N p0 k)=true:=T4.2 ⟨eq_of_beq h1,le g1⟩;have o2:Ah s (d1 s (B4 s N p0 k))=true:=T4.2 ⟨eq_of_beq h2,le g2⟩;have o3:uS s N (d2 s (B4 s N p0 k))=true:=h3;have o4:Ah s (d3 s N (B4 s N p0 k))=true:=T4.2 ⟨eq_of_beq h4,le g4⟩;rw [o1,o2,o3,o4];rfl
def Fk (s:List AV) (N:Nat) (p0:Int) (n:Nat):Bool:=I2 (fun j=>Z9 s N (B4 s N p0 j)) n
theorem bB4 {l:List AV} (h:I9 l=true):∀ v∈l,H7 v=true:=fun v hv=>by
 have:=xM.1 h v hv
 cases v<;>simp_all [b8,H7]
theorem aM1 {s:List AV} {N n:Nat} {p0:Int} {kd:Nat→Nat}:∀ v∈M6 s N p0 kd n,H7 v=true:=fun v hv=>by
 unfold M6 M7 at hv;obtain ⟨j,hj,rfl⟩:=List.mem_map.1 hv;have hb:j % 4<4:=Nat.mod_lt _ (by omega);generalize j % 4=b at hb
 match b,hb with
 | 0,_=>rfl
 | 1,_=>rfl
 | 2,_=>rfl
 | 3,_=>rfl
theorem rx_end (G:Nat→List AV) (B:Nat) (n N:Nat) (a b:Int) (s xs:List AV):AWp (⟨Try.prog,G,B⟩:A0) 2 (A2 Try.f63 0) (fl 59 [0,2,6,7,8,9,10,11,12] [.ptr (.rw 0) 0,.func 64 [],.nils,.int .i64 0,.int .i64 b,.int .i64 (n:Int),.int .i64 0,.slice false (.rw 2) 0 n,.int .i64 (n:Int)]) [some ⟨1,[.slice false (.rw 1) 0 N,.int .i64 a]⟩,some ⟨1,s⟩,some ⟨4,xs⟩]
   (lv 59 [0,2,6,7,8,9,10,11,12] fun e vs H=>e=.exit 0∧vs=[.ptr (.rw 0) 0,.func 64 [],.nils,.int .i64 0,.int .i64 b,.int .i64 (n:Int),.int .i64 0,.slice false (.rw 2) 0 n,.int .i64 (n:Int)]∧H=[some ⟨1,[.slice false (.rw 1) 0 N,.int .i64 a]⟩,some ⟨1,s⟩,some ⟨4,xs⟩]):=by
 refine D1 (C:=(⟨Try.prog,G,B⟩:A0)) (K:=Dc Try.prog [61,64,70,85] progR [] 2) (by rw [show B5 (A2 Try.f63 0)=[] by kernel_rfl];exact D7 (mix G B) (by kernel_rfl) (U3 G B) .nil) (fuel:=300) (n0:=20) (m:=2) (c:=A2 Try.f63 0) (vs:=[.ptr (.rw 0) (.lit 0),.func 64 [],.nils,.int .i64 (.lit 0),.int .i64 (.var 1 b),.int .i64 (.ofN (.var 2 n)),.int .i64 (.lit 0),.slice false (.rw 2) (.lit 0) (.var 3 n),.int .i64 (.ofN (.var 3 n))]) (H:=[some ⟨1,.of [.slice false (.rw 1) (.lit 0) (.var 4 N),.int .i64 (.var 5 a)]⟩,some ⟨1,.var 6 s⟩,some ⟨4,.var 9 xs⟩]) (by simp) ?_;rw [t63r]
 exact ⟨fun hh=>absurd (yL hh) (by omega),fun _=>⟨rfl,rfl,rfl⟩⟩
theorem rH (G:Nat→List AV) (B:Nat) (s:List AV) (N n ks:Nat) (p0 b:Int) (kd:Nat→Nat) (hN:N≤1000000) (h8:n≤8) (r0:J2 s N p0) (hD:∀ j,j<n→G (kd j)=dD s N (B4 s N p0 j)) (hS:G ks=(M6 s N p0 kd n)) :
  AWpP (⟨Try.prog,G,B⟩:A0) 96 2 (.loop (A2 Try.f63 0)) (fl 59 [0,2,6,7,8,9,10,11,12] [.ptr (.rw 0) 0,.func 64 [],.nils,.int .i64 0,.int .i64 b,.int .i64 (n:Int),.int .i64 0,.slice false (.rw 2) 0 0,.int .i64 0]) [some ⟨1,[.slice false (.rw 1) 0 N,.int .i64 p0]⟩,some ⟨1,s⟩,some ⟨4,[]⟩]
   (lv 59 [0,2,6,7,8,9,10,11,12] fun e vs H=>Fk s N p0 n=true∧J2 s N (B4 s N p0 n)∧e=.exit 0∧vs=[.ptr (.rw 0) 0,.func 64 [],.nils,.int .i64 0,.int .i64 b,.int .i64 (n:Int),.int .i64 0,.slice false (.ro ks) 0 n,.int .i64 (n:Int)]∧H=[some ⟨1,[.slice false (.rw 1) 0 N,.int .i64 (B4 s N p0 n)]⟩,some ⟨1,s⟩,none])
   (fun _=>Fk s N p0 n=false):=by
 have us:A3 0 s=true:=C4 (O3 r0.b)
 have key:AWpP (⟨Try.prog,G,B⟩:A0) 96 2 (.loop (A2 Try.f63 0)) (fl 59 [0,2,6,7,8,9,10,11,12] [.ptr (.rw 0) 0,.func 64 [],.nils,.int .i64 0,.int .i64 b,.int .i64 (n:Int),.int .i64 0,.slice false (.rw 2) 0 0,.int .i64 ((0:Nat):Int)]) [some ⟨1,[.slice false (.rw 1) 0 N,.int .i64 (B4 s N p0 0)]⟩,some ⟨1,s⟩,some ⟨4,M6 s N p0 kd 0⟩]
   (lv 59 [0,2,6,7,8,9,10,11,12] fun e vs H=>Fk s N p0 n=true∧J2 s N (B4 s N p0 n)∧e=.exit 0∧vs=[.ptr (.rw 0) 0,.func 64 [],.nils,.int .i64 0,.int .i64 b,.int .i64 (n:Int),.int .i64 0,.slice false (.rw 2) 0 n,.int .i64 (n:Int)]∧H=[some ⟨1,[.slice false (.rw 1) 0 N,.int .i64 (B4 s N p0 n)]⟩,some ⟨1,s⟩,some ⟨4,(M6 s N p0 kd n)⟩])
   (fun _=>Fk s N p0 n=false):=by
  refine xI (fun k=>J2 s N (B4 s N p0 k)∧∀ j,j<k→Z9 s N (B4 s N p0 j)=true) n (fun k=>[.ptr (.rw 0) 0,.func 64 [],.nils,.int .i64 0,.int .i64 b,.int .i64 (n:Int),.int .i64 0,.slice false (.rw 2) 0 k,.int .i64 (k:Int)]) (fun k=>[some ⟨1,[.slice false (.rw 1) 0 N,.int .i64 (B4 s N p0 k)]⟩,some ⟨1,s⟩,some ⟨4,(M6 s N p0 kd k)⟩]) ⟨r0,fun j hj=>absurd hj (Nat.not_lt_zero j)⟩ fun k hk hP=>?_;obtain ⟨hr,hok⟩:=hP;by_cases hkn:k<n
  ·refine AWpP.frzL (Qp:=fun _=>Fk s N p0 n=false) 5 (kd k) ((aG4 G B s N n k p0 b kd hN h8 hkn hr).lmono (fun _ _ _ h=>h) fun _ h=>?_) ?_
   ·cases e:Fk s N p0 n with
    | false=>rfl
    | true=>have:=F6.1 e k hkn;rw [h] at this;cases this
   rintro e vs H' ⟨q1,q2,q3,q4,rfl,rfl,rfl⟩;refine ⟨⟨_,rfl,rfl,fun j v hj=>?_⟩,hkn,⟨q2,fun j hj=>?_⟩,.inr ?_⟩
   ·have hj:(G (kd k))[j]?=some v:=hj;rw [hD k hkn] at hj;exact ⟨v,hj,bB4 q4 v (rM hj),.rfl⟩
   ·by_cases h:j=k
    ·rw [h];exact q1
    ·exact hok j (by omega)
   ·have f0:∀ {l:List AV},A3 0 l=true→fzs 5 (kd k) l=l:=fun h=>Do (n:=0) (zA2 _) _ h
    have eS:fzs 5 (kd k) ((M6 s N p0 kd k)++[.int .i64 (dA s (B4 s N p0 k)),.int .i64 (Da s (B4 s N p0 k)),.slice true (.rw 5) 0 (dN s N (B4 s N p0 k)),.int .i64 (dZ s N (B4 s N p0 k))])=M6 s N p0 kd (k+1):=by
     rw [aY9,f0 So,aM0];rfl
    have eH:Jy 5 (kd k) [some ⟨1,[.slice false (.rw 1) 0 N,.int .i64 (B4 s N p0 (k+1))]⟩,some ⟨1,s⟩,none,some ⟨1,[.int .i64 (dA s (B4 s N p0 k)),.int .i64 (Da s (B4 s N p0 k)),.slice true (.rw 5) 0 (dN s N (B4 s N p0 k)),.int .i64 (dZ s N (B4 s N p0 k))]⟩,some ⟨1,[.int .i64 (dA s (B4 s N p0 k)),.int .i64 (Da s (B4 s N p0 k)),.slice true (.rw 5) 0 (dN s N (B4 s N p0 k)),.int .i64 (dZ s N (B4 s N p0 k))]⟩,some ⟨1,dD s N (B4 s N p0 k)⟩,some ⟨1,[.int .i64 (dA s (B4 s N p0 k)),.int .i64 (Da s (B4 s N p0 k)),.slice true (.rw 5) 0 (dN s N (B4 s N p0 k)),.int .i64 (dZ s N (B4 s N p0 k))]⟩,some ⟨4,[.int .i64 (dA s (B4 s N p0 k)),.int .i64 (Da s (B4 s N p0 k)),.slice true (.rw 5) 0 (dN s N (B4 s N p0 k)),.int .i64 (dZ s N (B4 s N p0 k))]⟩,some ⟨4,(M6 s N p0 kd k)++[.int .i64 (dA s (B4 s N p0 k)),.int .i64 (Da s (B4 s N p0 k)),.slice true (.rw 5) 0 (dN s N (B4 s N p0 k)),.int .i64 (dZ s N (B4 s N p0 k))]⟩]=[some ⟨1,[.slice false (.rw 1) 0 N,.int .i64 (B4 s N p0 (k+1))]⟩,some ⟨1,fzs 5 (kd k) s⟩,none,some ⟨1,fzs 5 (kd k) [.int .i64 (dA s (B4 s N p0 k)),.int .i64 (Da s (B4 s N p0 k)),.slice true (.rw 5) 0 (dN s N (B4 s N p0 k)),.int .i64 (dZ s N (B4 s N p0 k))]⟩,some ⟨1,fzs 5 (kd k) [.int .i64 (dA s (B4 s N p0 k)),.int .i64 (Da s (B4 s N p0 k)),.slice true (.rw 5) 0 (dN s N (B4 s N p0 k)),.int .i64 (dZ s N (B4 s N p0 k))]⟩,none,some ⟨1,fzs 5 (kd k) [.int .i64 (dA s (B4 s N p0 k)),.int .i64 (Da s (B4 s N p0 k)),.slice true (.rw 5) 0 (dN s N (B4 s N p0 k)),.int .i64 (dZ s N (B4 s N p0 k))]⟩,some ⟨4,fzs 5 (kd k) [.int .i64 (dA s (B4 s N p0 k)),.int .i64 (Da s (B4 s N p0 k)),.slice true (.rw 5) 0 (dN s N (B4 s N p0 k)),.int .i64 (dZ s N (B4 s N p0 k))]⟩,some ⟨4,fzs 5 (kd k) ((M6 s N p0 kd k)++[.int .i64 (dA s (B4 s N p0 k)),.int .i64 (Da s (B4 s N p0 k)),.slice true (.rw 5) 0 (dN s N (B4 s N p0 k)),.int .i64 (dZ s N (B4 s N p0 k))])⟩]:=rfl
    rw [eH,eS,f0 us];refine C2.renM (H:=[some ⟨1,[.slice false (.rw 1) 0 N,.int .i64 (B4 s N p0 (k+1))]⟩,some ⟨1,s⟩,some ⟨4,M6 s N p0 kd (k+1)⟩]) (θ:=[0,1,8]) (by simp) Vk (by decide) ⟨⟨rfl,rfl⟩,⟨G6 (zA2 _) _ us,by rw [B9 _ _ us];rfl⟩,⟨So,by rw [B9 _ _ So];rfl⟩,trivial⟩ rfl ?_;exact ⟨rfl,rfl,rfl,rfl,rfl,rfl,rfl,rfl,rfl,trivial⟩
  ·have ekn:n=k:=by omega
   subst ekn;refine (AWpP.of (rx_end G B n N (B4 s N p0 n) b s (M6 s N p0 kd n))).lmono ?_ fun _ h=>h;rintro e vs H ⟨rfl,rfl,rfl⟩;exact ⟨F6.2 hok,hr,rfl,rfl,rfl⟩
 refine AWpP.frzL 2 ks key ?_;rintro e vs H' ⟨q1,q2,rfl,rfl,rfl⟩;refine ⟨⟨_,rfl,rfl,fun j v hj=>?_⟩,q1,q2,rfl,rfl,?_⟩
 ·have hj:(G ks)[j]?=some v:=hj;rw [hS] at hj;exact ⟨v,hj,aM1 v (rM hj),.rfl⟩
 ·show ([some ⟨1,[.slice false (.rw 1) 0 N,.int .i64 (B4 s N p0 n)]⟩,some ⟨1,fzs 2 ks s⟩,none]:Hp)=_;rw [Do (n:=0) (zA2 _) _ us]
section
variable (G:Nat→List AV) (B:Nat)
def plcD (s:List AV) (p0:Int) (j:Nat):Nat→AV
 | 0=>.int .i64 (dA s (I0 s p0 j))
 | _=>.bool (dP s (I0 s p0 j))
def R8 (s:List AV) (p0:Int) (n:Nat):List AV:=M7 n 2 (plcD s p0)
theorem tA {s:List AV} {n:Nat} {p0:Int}:(R8 s p0 n).length=n*2:=Ck
theorem aM2 {s:List AV} {n:Nat} {p0:Int}:R8 s p0 (n+1)=R8 s p0 n++[.int .i64 (dA s (I0 s p0 n)),.bool (dP s (I0 s p0 n))]:=gQ (by omega)
theorem Zu {s:List AV} {n k:Nat} {p0:Int}:A3 k (R8 s p0 n)=true:=Oe fun a b ha hb=>by
 match b,hb with
 | 0,_=>rfl
 | 1,_=>rfl
theorem aM3 {s:List AV} {n:Nat} {p0:Int}:∀ v∈R8 s p0 n,H7 v=true:=fun v hv=>by
 unfold R8 M7 at hv;obtain ⟨j,hj,rfl⟩:=List.mem_map.1 hv;have hb:j % 2<2:=Nat.mod_lt _ (by omega);generalize j % 2=b at hb
 match b,hb with
 | 0,_=>rfl
 | 1,_=>rfl
def Ig (s:List AV) (p0:Int) (n:Nat):Bool:=I2 (fun j=>En s (I0 s p0 j)) n
theorem aG3 (s:List AV) (N n k:Nat) (p0 b:Int) (hN:N≤1000000) (h8:n≤512) (hk:k<n) (r0:J2 s N (I0 s p0 k)) :
  AWpP (⟨Try.prog,G,B⟩:A0) 96 2 (A2 Try.f66 0) (fl 59 [0,2,6,7,8,9,10,11,12] [.ptr (.rw 0) 0,.func 67 [],.nils,.int .i64 0,.int .i64 b,.int .i64 (n:Int),.int .i64 0,.slice false (.rw 2) 0 k,.int .i64 (k:Int)]) [some ⟨1,[.slice false (.rw 1) 0 N,.int .i64 (I0 s p0 k)]⟩,some ⟨1,s⟩,some ⟨2,(R8 s p0 k)⟩]
   (lv 59 [0,2,6,7,8,9,10,11,12] fun e vs H=>En s (I0 s p0 k)=true∧J2 s N (I0 s p0 (k+1))∧e=.normal∧vs=[.ptr (.rw 0) 0,.func 67 [],.nils,.int .i64 0,.int .i64 b,.int .i64 (n:Int),.int .i64 0,.slice false (.rw 6) 0 (k+1),.int .i64 ((k+1:Nat):Int)]∧H=[some ⟨1,[.slice false (.rw 1) 0 N,.int .i64 (I0 s p0 (k+1))]⟩,some ⟨1,s⟩,none,some ⟨1,[.int .i64 (dA s (I0 s p0 k)),.bool (dP s (I0 s p0 k))]⟩,some ⟨1,[.int .i64 (dA s (I0 s p0 k)),.bool (dP s (I0 s p0 k))]⟩,some ⟨2,[.int .i64 (dA s (I0 s p0 k)),.bool (dP s (I0 s p0 k))]⟩,some ⟨2,(R8 s p0 k)++[.int .i64 (dA s (I0 s p0 k)),.bool (dP s (I0 s p0 k))]⟩])
   (fun _=>En s (I0 s p0 k)=false):=by
 refine iB (C:=(⟨Try.prog,G,B⟩:A0)) (Z:=⟨Dc Try.prog [61,67,85,90] progR [] 2,96,fun _ _ _=>none,fun _ _=>none,.skip⟩) (pgR G B (by kernel_rfl)) (fun _ _=>rfl) (fuel:=300) (n0:=20) (m:=2) (c:=A2 Try.f66 0) (vs:=[.ptr (.rw 0) (.lit 0),.func 67 [],.nils,.int .i64 (.lit 0),.int .i64 (.var 1 b),.int .i64 (.ofN (.var 2 n)),.int .i64 (.lit 0),.slice false (.rw 2) (.lit 0) (.var 3 k),.int .i64 (.ofN (.var 3 k))]) (H:=[some ⟨1,.of [.slice false (.rw 1) (.lit 0) (.var 4 N),.int .i64 (.var 5 (I0 s p0 k))]⟩,some ⟨1,.var 6 s⟩,some ⟨2,.var 9 (R8 s p0 k)⟩]) (by simp) ?_;rw [t66p]
 have le:∀ {x:Int},decide (x>131072)=false→x≤131072:=fun h=>by have:=yP h;omega
 have no1:Ah s (I0 s p0 k)=false→En s (I0 s p0 k)=false:=fun h=>by unfold En;rw [h];rfl
 have no2:(Ez [.agg s,.int .i64 (d1 s (I0 s p0 k))]==0)=false→En s (I0 s p0 k)=false:=fun h=>by unfold En;rw [h];simp
 have nE:∀ {p:Int},(D3 [.agg s,.int .i64 p]==0)=false→Ah s p=false:=fun h=>by unfold Ah;rw [h];rfl
 have nV:∀ {p:Int},decide (B0 [.agg s,.int .i64 p]>131072)=true→Ah s p=false:=fun h=>by unfold Ah;rw [h];simp
 refine ⟨fun _=>⟨J9.2 r0,fun h1=>⟨fun g1=>no1 (nV g1),fun g1=>?_⟩,fun h1=>no1 (nE h1)⟩,fun hh=>absurd (yP hh) (by omega)⟩;obtain ⟨r1,v1,_⟩:=N8 r0 (eq_of_beq h1);refine ⟨J9.2 r1,fun h2=>?_,fun h2=>no2 h2⟩;have r2:=rK r1 (eq_of_beq h2);have i1:IntKind.wrap .i64 (B0 [.agg s,.int .i64 (I0 s p0 k)])=dA s (I0 s p0 k):=B6 (by have:=le g1;omega);have i5:IntKind.wrap .i64 ((k:Int)+1)=((k+1:Nat):Int):=by rw [B6 (by omega)];omega
 rw [i1,i5];refine ⟨B2.2 (by omega),by rw [tA];exact zA3 _,?_,r2,rfl,rfl,rfl⟩;unfold En;have o1:Ah s (I0 s p0 k)=true:=T4.2 ⟨eq_of_beq h1,le g1⟩;have o2:(Ez [.agg s,.int .i64 (d1 s (I0 s p0 k))]==0)=true:=h2;rw [o1,o2];rfl
theorem ry_end (n N:Nat) (a b:Int) (s xs:List AV):AWp (⟨Try.prog,G,B⟩:A0) 2 (A2 Try.f66 0) (fl 59 [0,2,6,7,8,9,10,11,12] [.ptr (.rw 0) 0,.func 67 [],.nils,.int .i64 0,.int .i64 b,.int .i64 (n:Int),.int .i64 0,.slice false (.rw 2) 0 n,.int .i64 (n:Int)]) [some ⟨1,[.slice false (.rw 1) 0 N,.int .i64 a]⟩,some ⟨1,s⟩,some ⟨2,xs⟩]
   (lv 59 [0,2,6,7,8,9,10,11,12] fun e vs H=>e=.exit 0∧vs=[.ptr (.rw 0) 0,.func 67 [],.nils,.int .i64 0,.int .i64 b,.int .i64 (n:Int),.int .i64 0,.slice false (.rw 2) 0 n,.int .i64 (n:Int)]∧H=[some ⟨1,[.slice false (.rw 1) 0 N,.int .i64 a]⟩,some ⟨1,s⟩,some ⟨2,xs⟩]):=by
 refine D1 (C:=(⟨Try.prog,G,B⟩:A0)) (K:=Dc Try.prog [61,67,85,90] progR [] 2) (by rw [show B5 (A2 Try.f66 0)=[] by kernel_rfl];exact D7 (mix G B) (by kernel_rfl) (U3 G B) .nil) (fuel:=300) (n0:=20) (m:=2) (c:=A2 Try.f66 0) (vs:=[.ptr (.rw 0) (.lit 0),.func 67 [],.nils,.int .i64 (.lit 0),.int .i64 (.var 1 b),.int .i64 (.ofN (.var 2 n)),.int .i64 (.lit 0),.slice false (.rw 2) (.lit 0) (.var 3 n),.int .i64 (.ofN (.var 3 n))]) (H:=[some ⟨1,.of [.slice false (.rw 1) (.lit 0) (.var 4 N),.int .i64 (.var 5 a)]⟩,some ⟨1,.var 6 s⟩,some ⟨2,.var 9 xs⟩]) (by simp) ?_;rw [t66r]
 exact ⟨fun hh=>absurd (yL hh) (by omega),fun _=>⟨rfl,rfl,rfl⟩⟩
theorem rG (s:List AV) (N n kp:Nat) (p0 b:Int) (hN:N≤1000000) (h8:n≤512) (r0:J2 s N p0) (hS:G kp=(R8 s p0 n)) :
  AWpP (⟨Try.prog,G,B⟩:A0) 96 2 (.loop (A2 Try.f66 0)) (fl 59 [0,2,6,7,8,9,10,11,12] [.ptr (.rw 0) 0,.func 67 [],.nils,.int .i64 0,.int .i64 b,.int .i64 (n:Int),.int .i64 0,.slice false (.rw 2) 0 0,.int .i64 0]) [some ⟨1,[.slice false (.rw 1) 0 N,.int .i64 p0]⟩,some ⟨1,s⟩,some ⟨2,[]⟩]
   (lv 59 [0,2,6,7,8,9,10,11,12] fun e vs H=>Ig s p0 n=true∧J2 s N (I0 s p0 n)∧e=.exit 0∧vs=[.ptr (.rw 0) 0,.func 67 [],.nils,.int .i64 0,.int .i64 b,.int .i64 (n:Int),.int .i64 0,.slice false (.ro kp) 0 n,.int .i64 (n:Int)]∧H=[some ⟨1,[.slice false (.rw 1) 0 N,.int .i64 (I0 s p0 n)]⟩,some ⟨1,s⟩,none])
   (fun _=>Ig s p0 n=false):=by
 have us:A3 0 s=true:=C4 (O3 r0.b)
 have key:AWpP (⟨Try.prog,G,B⟩:A0) 96 2 (.loop (A2 Try.f66 0)) (fl 59 [0,2,6,7,8,9,10,11,12] [.ptr (.rw 0) 0,.func 67 [],.nils,.int .i64 0,.int .i64 b,.int .i64 (n:Int),.int .i64 0,.slice false (.rw 2) 0 0,.int .i64 ((0:Nat):Int)]) [some ⟨1,[.slice false (.rw 1) 0 N,.int .i64 (I0 s p0 0)]⟩,some ⟨1,s⟩,some ⟨2,R8 s p0 0⟩]
   (lv 59 [0,2,6,7,8,9,10,11,12] fun e vs H=>Ig s p0 n=true∧J2 s N (I0 s p0 n)∧e=.exit 0∧vs=[.ptr (.rw 0) 0,.func 67 [],.nils,.int .i64 0,.int .i64 b,.int .i64 (n:Int),.int .i64 0,.slice false (.rw 2) 0 n,.int .i64 (n:Int)]∧H=[some ⟨1,[.slice false (.rw 1) 0 N,.int .i64 (I0 s p0 n)]⟩,some ⟨1,s⟩,some ⟨2,(R8 s p0 n)⟩])
   (fun _=>Ig s p0 n=false):=by
  refine xI (fun k=>J2 s N (I0 s p0 k)∧∀ j,j<k→En s (I0 s p0 j)=true) n (fun k=>[.ptr (.rw 0) 0,.func 67 [],.nils,.int .i64 0,.int .i64 b,.int .i64 (n:Int),.int .i64 0,.slice false (.rw 2) 0 k,.int .i64 (k:Int)]) (fun k=>[some ⟨1,[.slice false (.rw 1) 0 N,.int .i64 (I0 s p0 k)]⟩,some ⟨1,s⟩,some ⟨2,(R8 s p0 k)⟩]) ⟨r0,fun j hj=>absurd hj (Nat.not_lt_zero j)⟩ fun k hk hP=>?_;obtain ⟨hr,hok⟩:=hP;by_cases hkn:k<n
  ·refine (aG3 G B s N n k p0 b hN h8 hkn hr).lmono ?_ fun _ h=>?_
   ·rintro e vs H' ⟨q1,q2,rfl,rfl,rfl⟩;refine ⟨hkn,⟨q2,fun j hj=>?_⟩,.inr ?_⟩
    ·by_cases h:j=k
     ·rw [h];exact q1
     ·exact hok j (by omega)
    ·rw [←aM2];refine C2.renM (H:=[some ⟨1,[.slice false (.rw 1) 0 N,.int .i64 (I0 s p0 (k+1))]⟩,some ⟨1,s⟩,some ⟨2,R8 s p0 (k+1)⟩]) (θ:=[0,1,6]) (by simp) Vk (by decide) ⟨⟨rfl,rfl⟩,⟨G6 (zA2 _) _ us,by rw [B9 _ _ us];rfl⟩,⟨Zu,by rw [B9 _ _ Zu];rfl⟩,trivial⟩ rfl ?_;exact ⟨rfl,rfl,rfl,rfl,rfl,rfl,rfl,rfl,rfl,trivial⟩
   ·cases e:Ig s p0 n with
    | false=>rfl
    | true=>have:=F6.1 e k hkn;rw [h] at this;cases this
  ·have ekn:n=k:=by omega
   subst ekn;refine (AWpP.of (ry_end G B n N (I0 s p0 n) b s (R8 s p0 n))).lmono ?_ fun _ h=>h;rintro e vs H ⟨rfl,rfl,rfl⟩;exact ⟨F6.2 hok,hr,rfl,rfl,rfl⟩
 refine AWpP.frzL 2 kp key ?_;rintro e vs H' ⟨q1,q2,rfl,rfl,rfl⟩;refine ⟨⟨_,rfl,rfl,fun j v hj=>?_⟩,q1,q2,rfl,rfl,?_⟩
 ·have hj:(G kp)[j]?=some v:=hj;rw [hS] at hj;exact ⟨v,hj,aM3 v (rM hj),.rfl⟩
 ·show ([some ⟨1,[.slice false (.rw 1) 0 N,.int .i64 (I0 s p0 n)]⟩,some ⟨1,fzs 2 kp s⟩,none]:Hp)=_;rw [Do (n:=0) (zA2 _) _ us]
end
end Go.Am
