/-
  Images read, whatever the bytes: Take's trees. Images read, whatever the bytes: Take, its three ways.
-/
import Derived.Test.YthejjolnlngahaaPart19
namespace Go.Am
open Go.Proofs Go.RowKit
set_option maxRecDepth 100000
section
variable (G:Nat→List AV) (B:Nat)
theorem t63e (s:List AV) (n:Nat) (a b e:Int) (Q:Ex→List AV→Hp→Prop) (R:AV→Hp→Prop):vT G Q R (H4 (Dc Try.prog [61,64,70,85] progR [] 2) 300 20 2 (A5 Try.f63 0) 59 [0,2,6,7,8,9,10,11,12] [.ptr (.rw 0) (.lit 0),.func 64 [],.nils,.int .i64 (.lit 0),.int .i64 (.var 1 b),.int .i64 (.lit 0),.int .i64 (.var 8 e),.slice false (.rw 2) (.lit 0) (.lit 0),.int .i64 (.lit 0)] [some ⟨1,.of [.slice false (.rw 1) (.lit 0) (.var 4 n),.int .i64 (.var 5 a)]⟩,some ⟨1,.var 6 s⟩,some ⟨4,.of []⟩])=(
  (((e:Int)==0)=true→Q (.exit 0) [.ptr (.rw 0) 0,.func 64 [],.nils,.int .i64 0,.int .i64 b,.int .i64 0,.int .i64 e,.slice false (.rw 2) 0 0,.int .i64 0] [some ⟨1,([.slice false (.rw 1) 0 n,.int .i64 a]:List AV)⟩,some ⟨1,s⟩,some ⟨4,([]:List AV)⟩])∧(((e:Int)==0)=false→Q (.exit 0) [.ptr (.rw 0) 0,.func 64 [],.nils,.int .i64 0,.int .i64 b,.int .i64 0,.int .i64 e,.slice false (.rw 2) 0 0,.int .i64 0] [some ⟨1,([.slice false (.rw 1) 0 n,.int .i64 a]:List AV)⟩,some ⟨1,s⟩,some ⟨4,([]:List AV)⟩])):=by kernel_rfl
theorem t66e (s:List AV) (n:Nat) (a b e:Int) (Q:Ex→List AV→Hp→Prop) (R:AV→Hp→Prop):vT G Q R (H4 (Dc Try.prog [61,67,85,90] progR [] 2) 300 20 2 (A5 Try.f66 0) 59 [0,2,6,7,8,9,10,11,12] [.ptr (.rw 0) (.lit 0),.func 67 [],.nils,.int .i64 (.lit 0),.int .i64 (.var 1 b),.int .i64 (.lit 0),.int .i64 (.var 8 e),.slice false (.rw 2) (.lit 0) (.lit 0),.int .i64 (.lit 0)] [some ⟨1,.of [.slice false (.rw 1) (.lit 0) (.var 4 n),.int .i64 (.var 5 a)]⟩,some ⟨1,.var 6 s⟩,some ⟨2,.of []⟩])=(
  (((e:Int)==0)=true→Q (.exit 0) [.ptr (.rw 0) 0,.func 67 [],.nils,.int .i64 0,.int .i64 b,.int .i64 0,.int .i64 e,.slice false (.rw 2) 0 0,.int .i64 0] [some ⟨1,([.slice false (.rw 1) 0 n,.int .i64 a]:List AV)⟩,some ⟨1,s⟩,some ⟨2,([]:List AV)⟩])∧(((e:Int)==0)=false→Q (.exit 0) [.ptr (.rw 0) 0,.func 67 [],.nils,.int .i64 0,.int .i64 b,.int .i64 0,.int .i64 e,.slice false (.rw 2) 0 0,.int .i64 0] [some ⟨1,([.slice false (.rw 1) 0 n,.int .i64 a]:List AV)⟩,some ⟨1,s⟩,some ⟨2,([]:List AV)⟩])):=by kernel_rfl
theorem t63c (q:List AV→Bool) (s:List AV) (n:Nat) (a a2 b e:Int) (Q:Ex→List AV→Hp→Prop) (R:AV→Hp→Prop):vT G Q R (H5 (Dc Try.prog [87,88] progR [D4 2515 q 0 59 [0,2,6,7,8,9,10,11,12] (.one (.exit 0) [.ptr (.rw 0) (.lit 0),.func 64 [],.nils,.int .i64 (.lit 0),.int .i64 (.var 1 b),.int .i64 (.lit 0),.int .i64 (.var 8 e),.slice false (.rw 2) (.lit 0) (.lit 0),.int .i64 (.lit 0)] [some ⟨1,.of [.slice false (.rw 1) (.lit 0) (.var 4 n),.int .i64 (.var 7 a2)]⟩,some ⟨1,.var 6 s⟩,some ⟨4,.of []⟩])] 2) 300 20 Try.f63 [.ptr (.rw 0) (.lit 0),.int .i64 (.lit 8),.func 64 []] [some ⟨1,.of [.slice false (.rw 1) (.lit 0) (.var 4 n),.int .i64 (.var 5 a)]⟩,some ⟨1,.var 6 s⟩] 2)=(
  okRdU [.agg s,.ptr (.rw 0) n,.int .i64 a]=true∧(((C0 [.agg s,.int .i64 a]:Int)==0)=true→(decide ((A7 [.agg s,.int .i64 a]:Int)>8)=true→q [.agg ([.ptr (.rw 0) 0,.func 64 [],.nils,.int .i64 0,.int .i64 a,.int .i64 0,.int .i64 3,.slice false (.rw 2) 0 0,.int .i64 0]:List AV),.agg ([.tup [.int .i64 1,.agg ([.slice false (.rw 1) 0 n,.int .i64 (A3 [.agg s,.int .i64 a])]:List AV)],.tup [.int .i64 1,.agg s],.tup [.int .i64 4,.agg ([]:List AV)]]:List AV)]=true∧(((e:Int)==0)=true→R (.tup [.slice false (.rw 2) 0 0,.int .i64 0]) [some ⟨1,([.slice false (.rw 1) 0 n,.int .i64 a2]:List AV)⟩,some ⟨1,s⟩])∧(((e:Int)==0)=false→R (.tup [.nils,.int .i64 e]) [some ⟨1,([.slice false (.rw 1) 0 n,.int .i64 b]:List AV)⟩,some ⟨1,s⟩]))∧(decide ((A7 [.agg s,.int .i64 a]:Int)>8)=false→((C0 [.agg s,.int .i64 a]:Int)==0)=true∧q [.agg ([.ptr (.rw 0) 0,.func 64 [],.nils,.int .i64 0,.int .i64 a,.int .i64 (IntKind.wrap .i64 (A7 [.agg s,.int .i64 a])),.int .i64 0,.slice false (.rw 2) 0 0,.int .i64 0]:List AV),.agg ([.tup [.int .i64 1,.agg ([.slice false (.rw 1) 0 n,.int .i64 (A3 [.agg s,.int .i64 a])]:List AV)],.tup [.int .i64 1,.agg s],.tup [.int .i64 4,.agg ([]:List AV)]]:List AV)]=true∧(((e:Int)==0)=true→R (.tup [.slice false (.rw 2) 0 0,.int .i64 0]) [some ⟨1,([.slice false (.rw 1) 0 n,.int .i64 a2]:List AV)⟩,some ⟨1,s⟩])∧(((e:Int)==0)=false→R (.tup [.nils,.int .i64 e]) [some ⟨1,([.slice false (.rw 1) 0 n,.int .i64 b]:List AV)⟩,some ⟨1,s⟩])))∧(((C0 [.agg s,.int .i64 a]:Int)==0)=false→(!(((C0 [.agg s,.int .i64 a]:Int)==0)))=true∧
 q [.agg ([.ptr (.rw 0) 0,.func 64 [],.nils,.int .i64 0,.int .i64 a,.int .i64 0,.int .i64 (C0 [.agg s,.int .i64 a]),.slice false (.rw 2) 0 0,.int .i64 0]:List AV),.agg ([.tup [.int .i64 1,.agg ([.slice false (.rw 1) 0 n,.int .i64 (A3 [.agg s,.int .i64 a])]:List AV)],.tup [.int .i64 1,.agg s],.tup [.int .i64 4,.agg ([]:List AV)]]:List AV)]=true∧(((e:Int)==0)=true→R (.tup [.slice false (.rw 2) 0 0,.int .i64 0]) [some ⟨1,([.slice false (.rw 1) 0 n,.int .i64 a2]:List AV)⟩,some ⟨1,s⟩])∧(((e:Int)==0)=false→R (.tup [.nils,.int .i64 e]) [some ⟨1,([.slice false (.rw 1) 0 n,.int .i64 b]:List AV)⟩,some ⟨1,s⟩]))):=by kernel_rfl
theorem t66c (q:List AV→Bool) (s:List AV) (n:Nat) (a a2 b e:Int) (Q:Ex→List AV→Hp→Prop) (R:AV→Hp→Prop):vT G Q R (H5 (Dc Try.prog [87,88] progR [D4 2515 q 0 59 [0,2,6,7,8,9,10,11,12] (.one (.exit 0) [.ptr (.rw 0) (.lit 0),.func 67 [],.nils,.int .i64 (.lit 0),.int .i64 (.var 1 b),.int .i64 (.lit 0),.int .i64 (.var 8 e),.slice false (.rw 2) (.lit 0) (.lit 0),.int .i64 (.lit 0)] [some ⟨1,.of [.slice false (.rw 1) (.lit 0) (.var 4 n),.int .i64 (.var 7 a2)]⟩,some ⟨1,.var 6 s⟩,some ⟨2,.of []⟩])] 2) 300 20 Try.f66 [.ptr (.rw 0) (.lit 0),.int .i64 (.lit 512),.func 67 []] [some ⟨1,.of [.slice false (.rw 1) (.lit 0) (.var 4 n),.int .i64 (.var 5 a)]⟩,some ⟨1,.var 6 s⟩] 2)=(
  okRdU [.agg s,.ptr (.rw 0) n,.int .i64 a]=true∧(((C0 [.agg s,.int .i64 a]:Int)==0)=true→(decide ((A7 [.agg s,.int .i64 a]:Int)>512)=true→q [.agg ([.ptr (.rw 0) 0,.func 67 [],.nils,.int .i64 0,.int .i64 a,.int .i64 0,.int .i64 3,.slice false (.rw 2) 0 0,.int .i64 0]:List AV),.agg ([.tup [.int .i64 1,.agg ([.slice false (.rw 1) 0 n,.int .i64 (A3 [.agg s,.int .i64 a])]:List AV)],.tup [.int .i64 1,.agg s],.tup [.int .i64 2,.agg ([]:List AV)]]:List AV)]=true∧(((e:Int)==0)=true→R (.tup [.slice false (.rw 2) 0 0,.int .i64 0]) [some ⟨1,([.slice false (.rw 1) 0 n,.int .i64 a2]:List AV)⟩,some ⟨1,s⟩])∧(((e:Int)==0)=false→R (.tup [.nils,.int .i64 e]) [some ⟨1,([.slice false (.rw 1) 0 n,.int .i64 b]:List AV)⟩,some ⟨1,s⟩]))∧(decide ((A7 [.agg s,.int .i64 a]:Int)>512)=false→((C0 [.agg s,.int .i64 a]:Int)==0)=true∧q [.agg ([.ptr (.rw 0) 0,.func 67 [],.nils,.int .i64 0,.int .i64 a,.int .i64 (IntKind.wrap .i64 (A7 [.agg s,.int .i64 a])),.int .i64 0,.slice false (.rw 2) 0 0,.int .i64 0]:List AV),.agg ([.tup [.int .i64 1,.agg ([.slice false (.rw 1) 0 n,.int .i64 (A3 [.agg s,.int .i64 a])]:List AV)],.tup [.int .i64 1,.agg s],.tup [.int .i64 2,.agg ([]:List AV)]]:List AV)]=true∧(((e:Int)==0)=true→R (.tup [.slice false (.rw 2) 0 0,.int .i64 0]) [some ⟨1,([.slice false (.rw 1) 0 n,.int .i64 a2]:List AV)⟩,some ⟨1,s⟩])∧(((e:Int)==0)=false→R (.tup [.nils,.int .i64 e]) [some ⟨1,([.slice false (.rw 1) 0 n,.int .i64 b]:List AV)⟩,some ⟨1,s⟩])))∧(((C0 [.agg s,.int .i64 a]:Int)==0)=false→(!(((C0 [.agg s,.int .i64 a]:Int)==0)))=true∧
 q [.agg ([.ptr (.rw 0) 0,.func 67 [],.nils,.int .i64 0,.int .i64 a,.int .i64 0,.int .i64 (C0 [.agg s,.int .i64 a]),.slice false (.rw 2) 0 0,.int .i64 0]:List AV),.agg ([.tup [.int .i64 1,.agg ([.slice false (.rw 1) 0 n,.int .i64 (A3 [.agg s,.int .i64 a])]:List AV)],.tup [.int .i64 1,.agg s],.tup [.int .i64 2,.agg ([]:List AV)]]:List AV)]=true∧(((e:Int)==0)=true→R (.tup [.slice false (.rw 2) 0 0,.int .i64 0]) [some ⟨1,([.slice false (.rw 1) 0 n,.int .i64 a2]:List AV)⟩,some ⟨1,s⟩])∧(((e:Int)==0)=false→R (.tup [.nils,.int .i64 e]) [some ⟨1,([.slice false (.rw 1) 0 n,.int .i64 b]:List AV)⟩,some ⟨1,s⟩]))):=by kernel_rfl
theorem t63b (q:List AV→Bool) (s:List AV) (n:Nat) (a:Int) (Q:Ex→List AV→Hp→Prop) (R:AV→Hp→Prop):vT G Q R (ppan ⟨Dc Try.prog [87,88] progR [] 2,96,fun _ _ _=>none,fW 2526 q 59 [0,2,6,7,8,9,10,11,12],A5 Try.f63 0⟩ 300 20 Try.f63 [.ptr (.rw 0) (.lit 0),.int .i64 (.lit 8),.func 64 []] [some ⟨1,.of [.slice false (.rw 1) (.lit 0) (.var 4 n),.int .i64 (.var 5 a)]⟩,some ⟨1,.var 6 s⟩])=(
  okRdU [.agg s,.ptr (.rw 0) n,.int .i64 a]=true∧(((C0 [.agg s,.int .i64 a]:Int)==0)=true→(decide ((A7 [.agg s,.int .i64 a]:Int)>8)=true→q [.agg ([.ptr (.rw 0) 0,.func 64 [],.nils,.int .i64 0,.int .i64 a,.int .i64 0,.int .i64 3,.slice false (.rw 2) 0 0,.int .i64 0]:List AV),.agg ([.tup [.int .i64 1,.agg ([.slice false (.rw 1) 0 n,.int .i64 (A3 [.agg s,.int .i64 a])]:List AV)],.tup [.int .i64 1,.agg s],.tup [.int .i64 4,.agg ([]:List AV)]]:List AV)]=true∧R (.func 987654 []) [some ⟨1,([.slice false (.rw 1) 0 n,.int .i64 (A3 [.agg s,.int .i64 a])]:List AV)⟩,some ⟨1,s⟩,some ⟨4,([]:List AV)⟩])∧(decide ((A7 [.agg s,.int .i64 a]:Int)>8)=false→((C0 [.agg s,.int .i64 a]:Int)==0)=true∧q [.agg ([.ptr (.rw 0) 0,.func 64 [],.nils,.int .i64 0,.int .i64 a,.int .i64 (IntKind.wrap .i64 (A7 [.agg s,.int .i64 a])),.int .i64 0,.slice false (.rw 2) 0 0,.int .i64 0]:List AV),.agg ([.tup [.int .i64 1,.agg ([.slice false (.rw 1) 0 n,.int .i64 (A3 [.agg s,.int .i64 a])]:List AV)],.tup [.int .i64 1,.agg s],.tup [.int .i64 4,.agg ([]:List AV)]]:List AV)]=true∧R (.func 987654 []) [some ⟨1,([.slice false (.rw 1) 0 n,.int .i64 (A3 [.agg s,.int .i64 a])]:List AV)⟩,some ⟨1,s⟩,some ⟨4,([]:List AV)⟩]))∧(((C0 [.agg s,.int .i64 a]:Int)==0)=false→(!(((C0 [.agg s,.int .i64 a]:Int)==0)))=true∧q [.agg ([.ptr (.rw 0) 0,.func 64 [],.nils,.int .i64 0,.int .i64 a,.int .i64 0,.int .i64 (C0 [.agg s,.int .i64 a]),.slice false (.rw 2) 0 0,.int .i64 0]:List AV),.agg ([.tup [.int .i64 1,.agg ([.slice false (.rw 1) 0 n,.int .i64 (A3 [.agg s,.int .i64 a])]:List AV)],.tup [.int .i64 1,.agg s],.tup [.int .i64 4,.agg ([]:List AV)]]:List AV)]=true∧
 R (.func 987654 []) [some ⟨1,([.slice false (.rw 1) 0 n,.int .i64 (A3 [.agg s,.int .i64 a])]:List AV)⟩,some ⟨1,s⟩,some ⟨4,([]:List AV)⟩])):=by kernel_rfl
theorem t66b (q:List AV→Bool) (s:List AV) (n:Nat) (a:Int) (Q:Ex→List AV→Hp→Prop) (R:AV→Hp→Prop):vT G Q R (ppan ⟨Dc Try.prog [87,88] progR [] 2,96,fun _ _ _=>none,fW 2526 q 59 [0,2,6,7,8,9,10,11,12],A5 Try.f66 0⟩ 300 20 Try.f66 [.ptr (.rw 0) (.lit 0),.int .i64 (.lit 512),.func 67 []] [some ⟨1,.of [.slice false (.rw 1) (.lit 0) (.var 4 n),.int .i64 (.var 5 a)]⟩,some ⟨1,.var 6 s⟩])=(
  okRdU [.agg s,.ptr (.rw 0) n,.int .i64 a]=true∧(((C0 [.agg s,.int .i64 a]:Int)==0)=true→(decide ((A7 [.agg s,.int .i64 a]:Int)>512)=true→q [.agg ([.ptr (.rw 0) 0,.func 67 [],.nils,.int .i64 0,.int .i64 a,.int .i64 0,.int .i64 3,.slice false (.rw 2) 0 0,.int .i64 0]:List AV),.agg ([.tup [.int .i64 1,.agg ([.slice false (.rw 1) 0 n,.int .i64 (A3 [.agg s,.int .i64 a])]:List AV)],.tup [.int .i64 1,.agg s],.tup [.int .i64 2,.agg ([]:List AV)]]:List AV)]=true∧R (.func 987654 []) [some ⟨1,([.slice false (.rw 1) 0 n,.int .i64 (A3 [.agg s,.int .i64 a])]:List AV)⟩,some ⟨1,s⟩,some ⟨2,([]:List AV)⟩])∧(decide ((A7 [.agg s,.int .i64 a]:Int)>512)=false→((C0 [.agg s,.int .i64 a]:Int)==0)=true∧q [.agg ([.ptr (.rw 0) 0,.func 67 [],.nils,.int .i64 0,.int .i64 a,.int .i64 (IntKind.wrap .i64 (A7 [.agg s,.int .i64 a])),.int .i64 0,.slice false (.rw 2) 0 0,.int .i64 0]:List AV),.agg ([.tup [.int .i64 1,.agg ([.slice false (.rw 1) 0 n,.int .i64 (A3 [.agg s,.int .i64 a])]:List AV)],.tup [.int .i64 1,.agg s],.tup [.int .i64 2,.agg ([]:List AV)]]:List AV)]=true∧R (.func 987654 []) [some ⟨1,([.slice false (.rw 1) 0 n,.int .i64 (A3 [.agg s,.int .i64 a])]:List AV)⟩,some ⟨1,s⟩,some ⟨2,([]:List AV)⟩]))∧(((C0 [.agg s,.int .i64 a]:Int)==0)=false→(!(((C0 [.agg s,.int .i64 a]:Int)==0)))=true∧q [.agg ([.ptr (.rw 0) 0,.func 67 [],.nils,.int .i64 0,.int .i64 a,.int .i64 0,.int .i64 (C0 [.agg s,.int .i64 a]),.slice false (.rw 2) 0 0,.int .i64 0]:List AV),.agg ([.tup [.int .i64 1,.agg ([.slice false (.rw 1) 0 n,.int .i64 (A3 [.agg s,.int .i64 a])]:List AV)],.tup [.int .i64 1,.agg s],.tup [.int .i64 2,.agg ([]:List AV)]]:List AV)]=true∧
 R (.func 987654 []) [some ⟨1,([.slice false (.rw 1) 0 n,.int .i64 (A3 [.agg s,.int .i64 a])]:List AV)⟩,some ⟨1,s⟩,some ⟨2,([]:List AV)⟩])):=by kernel_rfl
end
open Try renaming prog → zM
section
variable (G:Nat→List AV) (B:Nat)
def N3 (s:List AV) (M a:Int):Bool:=(C0 [.agg s,.int .i64 a]==0)&&!(decide (A7 [.agg s,.int .i64 a]>M))
def Fb (s:List AV) (M a:Int):Int:=if C0 [.agg s,.int .i64 a]=0 then (if A7 [.agg s,.int .i64 a]>M then 3 else 0) else C0 [.agg s,.int .i64 a]
theorem P5 {s:List AV} {M a:Int}:N3 s M a=true↔C0 [.agg s,.int .i64 a]=0∧A7 [.agg s,.int .i64 a]≤M:=by
 simp only [N3,zO,beq_iff_eq,Bool.not_eq_true',decide_eq_false_iff_not];exact ⟨fun ⟨h1,h2⟩=>⟨h1,by omega⟩,fun ⟨h1,h2⟩=>⟨h1,by omega⟩⟩
theorem sU {s:List AV} {M a:Int} (h:N3 s M a=false):¬Fb s M a=0:=by
 intro h0;unfold Fb at h0;by_cases h1:C0 [.agg s,.int .i64 a]=0
 ·rw [if_pos h1] at h0;by_cases h2:A7 [.agg s,.int .i64 a]>M
  ·rw [if_pos h2] at h0;omega
  ·have:=P5 (M:=M).2 ⟨h1,by omega⟩
   rw [h] at this;cases this
 ·rw [if_neg h1] at h0;exact h1 h0
theorem aG0 (s:List AV) (N n ks:Nat) (a:Int) (kd:Nat→Nat) (hN:N≤1000000) (r0:D8 s N a) (hc:N3 s 8 a=true) (hn:A7 [.agg s,.int .i64 a]=(n:Int)) (hD:∀ j,j<n→G (kd j)=dD s N (B3 s N (d1 s a) j)) (hS:G ks=M9 s N (d1 s a) kd n) (hall:Ff s N (d1 s a) n=true) :
  ACalls (za G B) 63 [.ptr (.rw 0) 0,.int .i64 8,.func 64 []] [some ⟨1,[.slice false (.rw 1) 0 N,.int .i64 a]⟩,some ⟨1,s⟩] fun v H=>v=.tup [.slice true (.ro ks) 0 n,.int .i64 0]∧H=[some ⟨1,[.slice false (.rw 1) 0 N,.int .i64 (B3 s N (d1 s a) n)]⟩,some ⟨1,s⟩]:=by
 have us:∀ j,A6 j s=true:=fun j=>B7 (G9 r0.b);obtain ⟨c1,c2⟩:=P5.1 hc;obtain ⟨r1,v1,_⟩:=M3 r0 c1
 have l0:F5 (za G B) 2 (A5 Try.f63 0) (D4 2515 (D9 [.ptr (.rw 0) 0,.func 64 [],.nils,.int .i64 0,.int .i64 a,.int .i64 (n:Int),.int .i64 0,.slice false (.rw 2) 0 0,.int .i64 0] [some ⟨1,[.slice false (.rw 1) 0 N,.int .i64 (d1 s a)]⟩,some ⟨1,s⟩,some ⟨4,[]⟩]) 0 59 [0,2,6,7,8,9,10,11,12] (.one (.exit 0) [.ptr (.rw 0) (.lit 0),.func 64 [],.nils,.int .i64 (.lit 0),.int .i64 (.var 8 a),.int .i64 (.ofN (.var 2 n)),.int .i64 (.lit 0),.slice false (.ro (.var 24 ks)) (.lit 0) (.var 2 n),.int .i64 (.ofN (.var 2 n))] [some ⟨1,.of [.slice false (.rw 1) (.lit 0) (.var 4 N),.int .i64 (.var 7 (B3 s N (d1 s a) n))]⟩,some ⟨1,.var 6 s⟩,none])):=by
  refine N7 rfl (((qY G B s N n ks (d1 s a) a kd hN (by omega) r1 hD hS).all (by simp) fun _ h=>by rw [hall] at h;cases h).lmono fun e vs H ⟨_,_,h1,h2,h3⟩=>⟨h1,.inl ⟨by rw [h2];exact Fh _,h3⟩⟩)
 have key:=C8 (C:=(za G B)) (f:=63) (fn:=Try.f63) (K:=Dc zM [87,88] progR [D4 2515 (D9 [.ptr (.rw 0) 0,.func 64 [],.nils,.int .i64 0,.int .i64 a,.int .i64 (n:Int),.int .i64 0,.slice false (.rw 2) 0 0,.int .i64 0] [some ⟨1,[.slice false (.rw 1) 0 N,.int .i64 (d1 s a)]⟩,some ⟨1,s⟩,some ⟨4,[]⟩]) 0 59 [0,2,6,7,8,9,10,11,12] (.one (.exit 0) [.ptr (.rw 0) (.lit 0),.func 64 [],.nils,.int .i64 (.lit 0),.int .i64 (.var 8 a),.int .i64 (.ofN (.var 2 n)),.int .i64 (.lit 0),.slice false (.ro (.var 24 ks)) (.lit 0) (.var 2 n),.int .i64 (.ofN (.var 2 n))] [some ⟨1,.of [.slice false (.rw 1) (.lit 0) (.var 4 N),.int .i64 (.var 7 (B3 s N (d1 s a) n))]⟩,some ⟨1,.var 6 s⟩,none])] 2) (R:=fun v H=>v=.tup [.slice false (.ro ks) 0 n,.int .i64 0]∧H=[some ⟨1,[.slice false (.rw 1) 0 N,.int .i64 (B3 s N (d1 s a) n)]⟩,some ⟨1,s⟩]) (C7 (mix G B) (by kernel_rfl) (L8 G B) (.cast (.cons (i:=0) (by kernel_rfl) rfl l0 .nil) (by kernel_rfl))) (by kernel_rfl) (by kernel_rfl) (by kernel_rfl) (fuel:=300) (n0:=20) (keep:=2) (args:=[.ptr (.rw 0) (.lit 0),.int .i64 (.lit 8),.func 64 []]) (H:=[some ⟨1,.of [.slice false (.rw 1) (.lit 0) (.var 4 N),.int .i64 (.var 5 a)]⟩,some ⟨1,.var 6 s⟩]) (by
  rw [t63,c1,hn,B5 (n:=(n:Int)) (by omega)]
  exact ⟨E0.2 r0,fun _=>⟨fun hh=>absurd (zR hh) (by omega),fun _=>⟨rfl,D2,rfl,rfl⟩⟩,fun hh=>absurd hh (by decide)⟩)
 have k2:=ACalls.keep (H:=[some ⟨1,[.slice false (.rw 1) 0 N,.int .i64 a]⟩,some ⟨1,s⟩]) (H1:=[some ⟨1,[.slice false (.rw 1) 0 N,.int .i64 (B3 s N (d1 s a) n)]⟩,some ⟨1,s⟩]) key (by simp) (by simp [I1,A6,B0,us]) (by simp [B0,A6]) (by simp);exact k2.conv fun v H ⟨e1,e2⟩=>⟨_,⟨rfl,e2⟩,fun ρ cv hv=>by rw [e1] at hv;exact Wa (cv:=.undef) hv⟩
theorem aF9 (s:List AV) (N n ks:Nat) (a:Int) (kd:Nat→Nat) (hN:N≤1000000) (r0:D8 s N a) (hc:N3 s 8 a=true) (hn:A7 [.agg s,.int .i64 a]=(n:Int)) (hD:∀ j,j<n→G (kd j)=dD s N (B3 s N (d1 s a) j)) (hS:G ks=M9 s N (d1 s a) kd n) (hall:Ff s N (d1 s a) n=false) :
  ACallsX (za G B) 96 63 [.ptr (.rw 0) 0,.int .i64 8,.func 64 []] [some ⟨1,[.slice false (.rw 1) 0 N,.int .i64 a]⟩,some ⟨1,s⟩] (fun _ _=>False) fun _=>True:=by
 obtain ⟨c1,c2⟩:=P5.1 hc;obtain ⟨r1,v1,_⟩:=M3 r0 c1;have lp:=tD (C:=(za G B)) (rt:=96) (M:=2) (j:=2526) (q:=D9 [.ptr (.rw 0) 0,.func 64 [],.nils,.int .i64 0,.int .i64 a,.int .i64 (n:Int),.int .i64 0,.slice false (.rw 2) 0 0,.int .i64 0] [some ⟨1,[.slice false (.rw 1) 0 N,.int .i64 (d1 s a)]⟩,some ⟨1,s⟩,some ⟨4,[]⟩]) (N:=59) (live:=[0,2,6,7,8,9,10,11,12]) rfl ((qY G B s N n ks (d1 s a) a kd hN (by omega) r1 hD hS).lmono (Q':=fun _ _ _=>False) (fun e vs H h=>by have:=h.1;rw [hall] at this;cases this) fun _ _=>trivial) (fun _ _ _ h=>h) (by simp)
 exact rK (C:=(za G B)) (Z:=⟨Dc zM [87,88] progR [] 2,96,fun _ _ _=>none,fW 2526 (D9 [.ptr (.rw 0) 0,.func 64 [],.nils,.int .i64 0,.int .i64 a,.int .i64 (n:Int),.int .i64 0,.slice false (.rw 2) 0 0,.int .i64 0] [some ⟨1,[.slice false (.rw 1) 0 N,.int .i64 (d1 s a)]⟩,some ⟨1,s⟩,some ⟨4,[]⟩]) 59 [0,2,6,7,8,9,10,11,12],A5 Try.f63 0⟩) ⟨C7 (mix G B) (by kernel_rfl) (L8 G B) .nil,fun _ _ _ _ _ _ _ _ h=>(by cases h),lp,fun ops k h=>jZ ops k h⟩ (by rw [show loopsOf (C3 Try.f63)=[A5 Try.f63 0] by kernel_rfl];intro b hb;simpa using hb) (by kernel_rfl) (by kernel_rfl) (by kernel_rfl) (fuel:=300) (n0:=20) (args:=[.ptr (.rw 0) (.lit 0),.int .i64 (.lit 8),.func 64 []]) (H:=[some ⟨1,.of [.slice false (.rw 1) (.lit 0) (.var 4 N),.int .i64 (.var 5 a)]⟩,some ⟨1,.var 6 s⟩]) (by
  rw [t63b,c1,hn,B5 (n:=(n:Int)) (by omega)]
  exact ⟨E0.2 r0,fun _=>⟨fun hh=>absurd (zR hh) (by omega),fun _=>⟨rfl,D2,trivial⟩⟩,fun hh=>absurd hh (by decide)⟩)
theorem end63 (s:List AV) (N:Nat) (a aa e:Int):AWp (za G B) 2 (.loop (A5 Try.f63 0)) (fl 59 [0,2,6,7,8,9,10,11,12] [.ptr (.rw 0) 0,.func 64 [],.nils,.int .i64 0,.int .i64 a,.int .i64 0,.int .i64 e,.slice false (.rw 2) 0 0,.int .i64 0]) [some ⟨1,[.slice false (.rw 1) 0 N,.int .i64 aa]⟩,some ⟨1,s⟩,some ⟨4,[]⟩] (lv 59 [0,2,6,7,8,9,10,11,12] fun ex vs H=>ex=.exit 0∧vs=[.ptr (.rw 0) 0,.func 64 [],.nils,.int .i64 0,.int .i64 a,.int .i64 0,.int .i64 e,.slice false (.rw 2) 0 0,.int .i64 0]∧H=[some ⟨1,[.slice false (.rw 1) 0 N,.int .i64 aa]⟩,some ⟨1,s⟩,some ⟨4,[]⟩]):=by
 refine W8 0 (fun _=>[.ptr (.rw 0) 0,.func 64 [],.nils,.int .i64 0,.int .i64 a,.int .i64 0,.int .i64 e,.slice false (.rw 2) 0 0,.int .i64 0]) (fun _=>[some ⟨1,[.slice false (.rw 1) 0 N,.int .i64 aa]⟩,some ⟨1,s⟩,some ⟨4,[]⟩]) fun i hi=>?_
 refine (D3 (C:=(za G B)) (K:=Dc zM [61,64,70,85] progR [] 2) (by rw [show loopsOf (A5 Try.f63 0)=[] by kernel_rfl];exact C7 (mix G B) (by kernel_rfl) (L8 G B) .nil) (Q:=fun ex vs H=>ex=.exit 0∧vs=[.ptr (.rw 0) 0,.func 64 [],.nils,.int .i64 0,.int .i64 a,.int .i64 0,.int .i64 e,.slice false (.rw 2) 0 0,.int .i64 0]∧H=[some ⟨1,[.slice false (.rw 1) 0 N,.int .i64 aa]⟩,some ⟨1,s⟩,some ⟨4,[]⟩]) (fuel:=300) (n0:=20) (m:=2) (c:=A5 Try.f63 0) (vs:=[.ptr (.rw 0) (.lit 0),.func 64 [],.nils,.int .i64 (.lit 0),.int .i64 (.var 1 a),.int .i64 (.lit 0),.int .i64 (.var 8 e),.slice false (.rw 2) (.lit 0) (.lit 0),.int .i64 (.lit 0)]) (H:=[some ⟨1,.of [.slice false (.rw 1) (.lit 0) (.var 4 N),.int .i64 (.var 5 aa)]⟩,some ⟨1,.var 6 s⟩,some ⟨4,.of []⟩]) (by simp) ?_).lmono ?_
 ·rw [t63e];exact ⟨fun _=>⟨rfl,rfl,rfl⟩,fun _=>⟨rfl,rfl,rfl⟩⟩
 ·rintro ex vs H ⟨rfl,rfl,rfl⟩;exact ⟨rfl,rfl,rfl⟩
theorem aF8 (s:List AV) (N:Nat) (a:Int) (r0:D8 s N a) (hc:N3 s 8 a=false) :
  ACalls (za G B) 63 [.ptr (.rw 0) 0,.int .i64 8,.func 64 []] [some ⟨1,[.slice false (.rw 1) 0 N,.int .i64 a]⟩,some ⟨1,s⟩] fun v H=>v=.tup [.nils,.int .i64 (Fb s 8 a)]∧H=[some ⟨1,[.slice false (.rw 1) 0 N,.int .i64 a]⟩,some ⟨1,s⟩]:=by
 have us:∀ j,A6 j s=true:=fun j=>B7 (G9 r0.b);obtain ⟨e,he⟩:∃ e,e=Fb s 8 a:=⟨_,rfl⟩;obtain ⟨aa,haa⟩:∃ aa,aa=d1 s a:=⟨_,rfl⟩
 have l0:F5 (za G B) 2 (A5 Try.f63 0) (D4 2515 (D9 [.ptr (.rw 0) 0,.func 64 [],.nils,.int .i64 0,.int .i64 a,.int .i64 0,.int .i64 e,.slice false (.rw 2) 0 0,.int .i64 0] [some ⟨1,[.slice false (.rw 1) 0 N,.int .i64 aa]⟩,some ⟨1,s⟩,some ⟨4,[]⟩]) 0 59 [0,2,6,7,8,9,10,11,12] (.one (.exit 0) [.ptr (.rw 0) (.lit 0),.func 64 [],.nils,.int .i64 (.lit 0),.int .i64 (.var 1 a),.int .i64 (.lit 0),.int .i64 (.var 8 e),.slice false (.rw 2) (.lit 0) (.lit 0),.int .i64 (.lit 0)] [some ⟨1,.of [.slice false (.rw 1) (.lit 0) (.var 4 N),.int .i64 (.var 7 aa)]⟩,some ⟨1,.var 6 s⟩,some ⟨4,.of []⟩])):=
  N7 rfl ((end63 G B s N a aa e).lmono fun ex vs H ⟨h1,h2,h3⟩=>⟨h1,.inl ⟨by rw [h2];exact Fh _,h3⟩⟩)
 have key:=C8 (C:=(za G B)) (f:=63) (fn:=Try.f63) (K:=Dc zM [87,88] progR [D4 2515 (D9 [.ptr (.rw 0) 0,.func 64 [],.nils,.int .i64 0,.int .i64 a,.int .i64 0,.int .i64 e,.slice false (.rw 2) 0 0,.int .i64 0] [some ⟨1,[.slice false (.rw 1) 0 N,.int .i64 aa]⟩,some ⟨1,s⟩,some ⟨4,[]⟩]) 0 59 [0,2,6,7,8,9,10,11,12] (.one (.exit 0) [.ptr (.rw 0) (.lit 0),.func 64 [],.nils,.int .i64 (.lit 0),.int .i64 (.var 1 a),.int .i64 (.lit 0),.int .i64 (.var 8 e),.slice false (.rw 2) (.lit 0) (.lit 0),.int .i64 (.lit 0)] [some ⟨1,.of [.slice false (.rw 1) (.lit 0) (.var 4 N),.int .i64 (.var 7 aa)]⟩,some ⟨1,.var 6 s⟩,some ⟨4,.of []⟩])] 2) (R:=fun v H=>v=.tup [.nils,.int .i64 e]∧H=[some ⟨1,[.slice false (.rw 1) 0 N,.int .i64 a]⟩,some ⟨1,s⟩]) (C7 (mix G B) (by kernel_rfl) (L8 G B) (.cast (.cons (i:=0) (by kernel_rfl) rfl l0 .nil) (by kernel_rfl))) (by kernel_rfl) (by kernel_rfl) (by kernel_rfl) (fuel:=300) (n0:=20) (keep:=2) (args:=[.ptr (.rw 0) (.lit 0),.int .i64 (.lit 8),.func 64 []]) (H:=[some ⟨1,.of [.slice false (.rw 1) (.lit 0) (.var 4 N),.int .i64 (.var 5 a)]⟩,some ⟨1,.var 6 s⟩]) (by
  rw [t63c,show A3 [.agg s,.int .i64 a]=aa from haa.symm];have ne:¬e=0:=by rw [he];exact sU hc
  have nb:(e==0)=true→False:=fun h=>ne (eq_of_beq h);refine ⟨E0.2 r0,fun h1=>⟨fun h2=>?_,fun h2=>?_⟩,fun h1=>⟨by rw [h1];rfl,?_,fun h=>(nb h).elim,fun _=>⟨rfl,rfl⟩⟩⟩
  ·have e3:e=3:=by rw [he];unfold Fb;rw [if_pos (eq_of_beq h1),if_pos (zR h2)]
   rw [e3];exact ⟨D2,fun h=>absurd h (by decide),fun _=>⟨rfl,rfl⟩⟩
  ·exfalso
   have:=P5 (M:=8).2 ⟨eq_of_beq h1,by have:=sJ h2;omega⟩
   rw [hc] at this;cases this
  ·have e3:e=C0 [.agg s,.int .i64 a]:=by rw [he];unfold Fb;rw [if_neg (ne_of_beq_false h1)]
   rw [e3]
   exact D2)
 rw [he] at key;exact ACalls.keep (H:=[some ⟨1,[.slice false (.rw 1) 0 N,.int .i64 a]⟩,some ⟨1,s⟩]) (H1:=[some ⟨1,[.slice false (.rw 1) 0 N,.int .i64 a]⟩,some ⟨1,s⟩]) key (by simp) (by simp [I1,A6,B0,us]) (by simp [B0,A6]) (by simp)
theorem aF7 (s:List AV) (N n kp:Nat) (a:Int) (hN:N≤1000000) (r0:D8 s N a) (hc:N3 s 512 a=true) (hn:A7 [.agg s,.int .i64 a]=(n:Int)) (hS:G kp=R4 s (d1 s a) n) (hall:Ir s (d1 s a) n=true) :
  ACalls (za G B) 66 [.ptr (.rw 0) 0,.int .i64 512,.func 67 []] [some ⟨1,[.slice false (.rw 1) 0 N,.int .i64 a]⟩,some ⟨1,s⟩] fun v H=>v=.tup [.slice true (.ro kp) 0 n,.int .i64 0]∧H=[some ⟨1,[.slice false (.rw 1) 0 N,.int .i64 (H6 s (d1 s a) n)]⟩,some ⟨1,s⟩]:=by
 have us:∀ j,A6 j s=true:=fun j=>B7 (G9 r0.b);obtain ⟨c1,c2⟩:=P5.1 hc;obtain ⟨r1,v1,_⟩:=M3 r0 c1
 have l0:F5 (za G B) 2 (A5 Try.f66 0) (D4 2515 (D9 [.ptr (.rw 0) 0,.func 67 [],.nils,.int .i64 0,.int .i64 a,.int .i64 (n:Int),.int .i64 0,.slice false (.rw 2) 0 0,.int .i64 0] [some ⟨1,[.slice false (.rw 1) 0 N,.int .i64 (d1 s a)]⟩,some ⟨1,s⟩,some ⟨2,[]⟩]) 0 59 [0,2,6,7,8,9,10,11,12] (.one (.exit 0) [.ptr (.rw 0) (.lit 0),.func 67 [],.nils,.int .i64 (.lit 0),.int .i64 (.var 8 a),.int .i64 (.ofN (.var 2 n)),.int .i64 (.lit 0),.slice false (.ro (.var 24 kp)) (.lit 0) (.var 2 n),.int .i64 (.ofN (.var 2 n))] [some ⟨1,.of [.slice false (.rw 1) (.lit 0) (.var 4 N),.int .i64 (.var 7 (H6 s (d1 s a) n))]⟩,some ⟨1,.var 6 s⟩,none])):=by
  refine N7 rfl (((qX G B s N n kp (d1 s a) a hN (by omega) r1 hS).all (by simp) fun _ h=>by rw [hall] at h;cases h).lmono fun e vs H ⟨_,_,h1,h2,h3⟩=>⟨h1,.inl ⟨by rw [h2];exact Fh _,h3⟩⟩)
 have key:=C8 (C:=(za G B)) (f:=66) (fn:=Try.f66) (K:=Dc zM [87,88] progR [D4 2515 (D9 [.ptr (.rw 0) 0,.func 67 [],.nils,.int .i64 0,.int .i64 a,.int .i64 (n:Int),.int .i64 0,.slice false (.rw 2) 0 0,.int .i64 0] [some ⟨1,[.slice false (.rw 1) 0 N,.int .i64 (d1 s a)]⟩,some ⟨1,s⟩,some ⟨2,[]⟩]) 0 59 [0,2,6,7,8,9,10,11,12] (.one (.exit 0) [.ptr (.rw 0) (.lit 0),.func 67 [],.nils,.int .i64 (.lit 0),.int .i64 (.var 8 a),.int .i64 (.ofN (.var 2 n)),.int .i64 (.lit 0),.slice false (.ro (.var 24 kp)) (.lit 0) (.var 2 n),.int .i64 (.ofN (.var 2 n))] [some ⟨1,.of [.slice false (.rw 1) (.lit 0) (.var 4 N),.int .i64 (.var 7 (H6 s (d1 s a) n))]⟩,some ⟨1,.var 6 s⟩,none])] 2) (R:=fun v H=>v=.tup [.slice false (.ro kp) 0 n,.int .i64 0]∧H=[some ⟨1,[.slice false (.rw 1) 0 N,.int .i64 (H6 s (d1 s a) n)]⟩,some ⟨1,s⟩]) (C7 (mix G B) (by kernel_rfl) (L8 G B) (.cast (.cons (i:=0) (by kernel_rfl) rfl l0 .nil) (by kernel_rfl))) (by kernel_rfl) (by kernel_rfl) (by kernel_rfl) (fuel:=300) (n0:=20) (keep:=2) (args:=[.ptr (.rw 0) (.lit 0),.int .i64 (.lit 512),.func 67 []]) (H:=[some ⟨1,.of [.slice false (.rw 1) (.lit 0) (.var 4 N),.int .i64 (.var 5 a)]⟩,some ⟨1,.var 6 s⟩]) (by
  rw [t66,c1,hn,B5 (n:=(n:Int)) (by omega)]
  exact ⟨E0.2 r0,fun _=>⟨fun hh=>absurd (zR hh) (by omega),fun _=>⟨rfl,D2,rfl,rfl⟩⟩,fun hh=>absurd hh (by decide)⟩)
 have k2:=ACalls.keep (H:=[some ⟨1,[.slice false (.rw 1) 0 N,.int .i64 a]⟩,some ⟨1,s⟩]) (H1:=[some ⟨1,[.slice false (.rw 1) 0 N,.int .i64 (H6 s (d1 s a) n)]⟩,some ⟨1,s⟩]) key (by simp) (by simp [I1,A6,B0,us]) (by simp [B0,A6]) (by simp);exact k2.conv fun v H ⟨e1,e2⟩=>⟨_,⟨rfl,e2⟩,fun ρ cv hv=>by rw [e1] at hv;exact Wa (cv:=.undef) hv⟩
theorem aF6 (s:List AV) (N n kp:Nat) (a:Int) (hN:N≤1000000) (r0:D8 s N a) (hc:N3 s 512 a=true) (hn:A7 [.agg s,.int .i64 a]=(n:Int)) (hS:G kp=R4 s (d1 s a) n) (hall:Ir s (d1 s a) n=false) :
  ACallsX (za G B) 96 66 [.ptr (.rw 0) 0,.int .i64 512,.func 67 []] [some ⟨1,[.slice false (.rw 1) 0 N,.int .i64 a]⟩,some ⟨1,s⟩] (fun _ _=>False) fun _=>True:=by
 obtain ⟨c1,c2⟩:=P5.1 hc;obtain ⟨r1,v1,_⟩:=M3 r0 c1;have lp:=tD (C:=(za G B)) (rt:=96) (M:=2) (j:=2526) (q:=D9 [.ptr (.rw 0) 0,.func 67 [],.nils,.int .i64 0,.int .i64 a,.int .i64 (n:Int),.int .i64 0,.slice false (.rw 2) 0 0,.int .i64 0] [some ⟨1,[.slice false (.rw 1) 0 N,.int .i64 (d1 s a)]⟩,some ⟨1,s⟩,some ⟨2,[]⟩]) (N:=59) (live:=[0,2,6,7,8,9,10,11,12]) rfl ((qX G B s N n kp (d1 s a) a hN (by omega) r1 hS).lmono (Q':=fun _ _ _=>False) (fun e vs H h=>by have:=h.1;rw [hall] at this;cases this) fun _ _=>trivial) (fun _ _ _ h=>h) (by simp)
 exact rK (C:=(za G B)) (Z:=⟨Dc zM [87,88] progR [] 2,96,fun _ _ _=>none,fW 2526 (D9 [.ptr (.rw 0) 0,.func 67 [],.nils,.int .i64 0,.int .i64 a,.int .i64 (n:Int),.int .i64 0,.slice false (.rw 2) 0 0,.int .i64 0] [some ⟨1,[.slice false (.rw 1) 0 N,.int .i64 (d1 s a)]⟩,some ⟨1,s⟩,some ⟨2,[]⟩]) 59 [0,2,6,7,8,9,10,11,12],A5 Try.f66 0⟩) ⟨C7 (mix G B) (by kernel_rfl) (L8 G B) .nil,fun _ _ _ _ _ _ _ _ h=>(by cases h),lp,fun ops k h=>jZ ops k h⟩ (by rw [show loopsOf (C3 Try.f66)=[A5 Try.f66 0] by kernel_rfl];intro b hb;simpa using hb) (by kernel_rfl) (by kernel_rfl) (by kernel_rfl) (fuel:=300) (n0:=20) (args:=[.ptr (.rw 0) (.lit 0),.int .i64 (.lit 512),.func 67 []]) (H:=[some ⟨1,.of [.slice false (.rw 1) (.lit 0) (.var 4 N),.int .i64 (.var 5 a)]⟩,some ⟨1,.var 6 s⟩]) (by
  rw [t66b,c1,hn,B5 (n:=(n:Int)) (by omega)]
  exact ⟨E0.2 r0,fun _=>⟨fun hh=>absurd (zR hh) (by omega),fun _=>⟨rfl,D2,trivial⟩⟩,fun hh=>absurd hh (by decide)⟩)
theorem end66 (s:List AV) (N:Nat) (a aa e:Int):AWp (za G B) 2 (.loop (A5 Try.f66 0)) (fl 59 [0,2,6,7,8,9,10,11,12] [.ptr (.rw 0) 0,.func 67 [],.nils,.int .i64 0,.int .i64 a,.int .i64 0,.int .i64 e,.slice false (.rw 2) 0 0,.int .i64 0]) [some ⟨1,[.slice false (.rw 1) 0 N,.int .i64 aa]⟩,some ⟨1,s⟩,some ⟨2,[]⟩] (lv 59 [0,2,6,7,8,9,10,11,12] fun ex vs H=>ex=.exit 0∧vs=[.ptr (.rw 0) 0,.func 67 [],.nils,.int .i64 0,.int .i64 a,.int .i64 0,.int .i64 e,.slice false (.rw 2) 0 0,.int .i64 0]∧H=[some ⟨1,[.slice false (.rw 1) 0 N,.int .i64 aa]⟩,some ⟨1,s⟩,some ⟨2,[]⟩]):=by
 refine W8 0 (fun _=>[.ptr (.rw 0) 0,.func 67 [],.nils,.int .i64 0,.int .i64 a,.int .i64 0,.int .i64 e,.slice false (.rw 2) 0 0,.int .i64 0]) (fun _=>[some ⟨1,[.slice false (.rw 1) 0 N,.int .i64 aa]⟩,some ⟨1,s⟩,some ⟨2,[]⟩]) fun i hi=>?_
 refine (D3 (C:=(za G B)) (K:=Dc zM [61,67,85,90] progR [] 2) (by rw [show loopsOf (A5 Try.f66 0)=[] by kernel_rfl];exact C7 (mix G B) (by kernel_rfl) (L8 G B) .nil) (Q:=fun ex vs H=>ex=.exit 0∧vs=[.ptr (.rw 0) 0,.func 67 [],.nils,.int .i64 0,.int .i64 a,.int .i64 0,.int .i64 e,.slice false (.rw 2) 0 0,.int .i64 0]∧H=[some ⟨1,[.slice false (.rw 1) 0 N,.int .i64 aa]⟩,some ⟨1,s⟩,some ⟨2,[]⟩]) (fuel:=300) (n0:=20) (m:=2) (c:=A5 Try.f66 0) (vs:=[.ptr (.rw 0) (.lit 0),.func 67 [],.nils,.int .i64 (.lit 0),.int .i64 (.var 1 a),.int .i64 (.lit 0),.int .i64 (.var 8 e),.slice false (.rw 2) (.lit 0) (.lit 0),.int .i64 (.lit 0)]) (H:=[some ⟨1,.of [.slice false (.rw 1) (.lit 0) (.var 4 N),.int .i64 (.var 5 aa)]⟩,some ⟨1,.var 6 s⟩,some ⟨2,.of []⟩]) (by simp) ?_).lmono ?_
 ·rw [t66e];exact ⟨fun _=>⟨rfl,rfl,rfl⟩,fun _=>⟨rfl,rfl,rfl⟩⟩
 ·rintro ex vs H ⟨rfl,rfl,rfl⟩;exact ⟨rfl,rfl,rfl⟩
theorem aF5 (s:List AV) (N:Nat) (a:Int) (r0:D8 s N a) (hc:N3 s 512 a=false) :
  ACalls (za G B) 66 [.ptr (.rw 0) 0,.int .i64 512,.func 67 []] [some ⟨1,[.slice false (.rw 1) 0 N,.int .i64 a]⟩,some ⟨1,s⟩] fun v H=>v=.tup [.nils,.int .i64 (Fb s 512 a)]∧H=[some ⟨1,[.slice false (.rw 1) 0 N,.int .i64 a]⟩,some ⟨1,s⟩]:=by
 have us:∀ j,A6 j s=true:=fun j=>B7 (G9 r0.b);obtain ⟨e,he⟩:∃ e,e=Fb s 512 a:=⟨_,rfl⟩;obtain ⟨aa,haa⟩:∃ aa,aa=d1 s a:=⟨_,rfl⟩
 have l0:F5 (za G B) 2 (A5 Try.f66 0) (D4 2515 (D9 [.ptr (.rw 0) 0,.func 67 [],.nils,.int .i64 0,.int .i64 a,.int .i64 0,.int .i64 e,.slice false (.rw 2) 0 0,.int .i64 0] [some ⟨1,[.slice false (.rw 1) 0 N,.int .i64 aa]⟩,some ⟨1,s⟩,some ⟨2,[]⟩]) 0 59 [0,2,6,7,8,9,10,11,12] (.one (.exit 0) [.ptr (.rw 0) (.lit 0),.func 67 [],.nils,.int .i64 (.lit 0),.int .i64 (.var 1 a),.int .i64 (.lit 0),.int .i64 (.var 8 e),.slice false (.rw 2) (.lit 0) (.lit 0),.int .i64 (.lit 0)] [some ⟨1,.of [.slice false (.rw 1) (.lit 0) (.var 4 N),.int .i64 (.var 7 aa)]⟩,some ⟨1,.var 6 s⟩,some ⟨2,.of []⟩])):=
  N7 rfl ((end66 G B s N a aa e).lmono fun ex vs H ⟨h1,h2,h3⟩=>⟨h1,.inl ⟨by rw [h2];exact Fh _,h3⟩⟩)
 have key:=C8 (C:=(za G B)) (f:=66) (fn:=Try.f66) (K:=Dc zM [87,88] progR [D4 2515 (D9 [.ptr (.rw 0) 0,.func 67 [],.nils,.int .i64 0,.int .i64 a,.int .i64 0,.int .i64 e,.slice false (.rw 2) 0 0,.int .i64 0] [some ⟨1,[.slice false (.rw 1) 0 N,.int .i64 aa]⟩,some ⟨1,s⟩,some ⟨2,[]⟩]) 0 59 [0,2,6,7,8,9,10,11,12] (.one (.exit 0) [.ptr (.rw 0) (.lit 0),.func 67 [],.nils,.int .i64 (.lit 0),.int .i64 (.var 1 a),.int .i64 (.lit 0),.int .i64 (.var 8 e),.slice false (.rw 2) (.lit 0) (.lit 0),.int .i64 (.lit 0)] [some ⟨1,.of [.slice false (.rw 1) (.lit 0) (.var 4 N),.int .i64 (.var 7 aa)]⟩,some ⟨1,.var 6 s⟩,some ⟨2,.of []⟩])] 2) (R:=fun v H=>v=.tup [.nils,.int .i64 e]∧H=[some ⟨1,[.slice false (.rw 1) 0 N,.int .i64 a]⟩,some ⟨1,s⟩]) (C7 (mix G B) (by kernel_rfl) (L8 G B) (.cast (.cons (i:=0) (by kernel_rfl) rfl l0 .nil) (by kernel_rfl))) (by kernel_rfl) (by kernel_rfl) (by kernel_rfl) (fuel:=300) (n0:=20) (keep:=2) (args:=[.ptr (.rw 0) (.lit 0),.int .i64 (.lit 512),.func 67 []]) (H:=[some ⟨1,.of [.slice false (.rw 1) (.lit 0) (.var 4 N),.int .i64 (.var 5 a)]⟩,some ⟨1,.var 6 s⟩]) (by
  rw [t66c,show A3 [.agg s,.int .i64 a]=aa from haa.symm];have ne:¬e=0:=by rw [he];exact sU hc
  have nb:(e==0)=true→False:=fun h=>ne (eq_of_beq h);refine ⟨E0.2 r0,fun h1=>⟨fun h2=>?_,fun h2=>?_⟩,fun h1=>⟨by rw [h1];rfl,?_,fun h=>(nb h).elim,fun _=>⟨rfl,rfl⟩⟩⟩
  ·have e3:e=3:=by rw [he];unfold Fb;rw [if_pos (eq_of_beq h1),if_pos (zR h2)]
   rw [e3];exact ⟨D2,fun h=>absurd h (by decide),fun _=>⟨rfl,rfl⟩⟩
  ·exfalso
   have:=P5 (M:=512).2 ⟨eq_of_beq h1,by have:=sJ h2;omega⟩
   rw [hc] at this;cases this
  ·have e3:e=C0 [.agg s,.int .i64 a]:=by rw [he];unfold Fb;rw [if_neg (ne_of_beq_false h1)]
   rw [e3]
   exact D2)
 rw [he] at key;exact ACalls.keep (H:=[some ⟨1,[.slice false (.rw 1) 0 N,.int .i64 a]⟩,some ⟨1,s⟩]) (H1:=[some ⟨1,[.slice false (.rw 1) 0 N,.int .i64 a]⟩,some ⟨1,s⟩]) key (by simp) (by simp [I1,A6,B0,us]) (by simp [B0,A6]) (by simp)
end
abbrev PSum:=List EV→DHp→Option (EB×EB×EV×List DHop×List Nat)
def Ko:List (Nat×PSum)→FuncId→PSum
 | [],_,_,_=>none
 | (g,s)::l,f,args,H=>match Nat.beq g f with
  | true=>s args H
  | false=>Ko l f args H
def Jx (C:A1) (rt:Nat) (f:FuncId) (s:PSum):Prop:=∀ args H c b v hs hp,s args H=some (c,b,v,hs,hp)→vB C.G c=true→(vB C.G b=true→E1 C f args H v hs)∧(vB C.G b=false→pA C rt f args H hp)
theorem zB {C:A1} {rt:Nat}:∀ f,Jx C rt f (Ko [] f):=fun f args H c b v hs hp h=>by simp [Ko] at h
theorem aQ {C:A1} {rt g:Nat} {s:PSum} {l:List (Nat×PSum)} (h:Jx C rt g s) (k:∀ f,Jx C rt f (Ko l f)):∀ f,Jx C rt f (Ko ((g,s)::l) f):=by
 intro f args H c b v hs hp ho;simp only [Ko] at ho;split at ho
 ·rename_i hg
  have:=rG hg
  subst this;exact h args H c b v hs hp ho
 ·exact k f args H c b v hs hp ho
def Em (j:Nat) (q:List AV→Bool) (b:EB) (x:EV) (a2:EI):PSum:=fun xs H=>match xs with
 | .ptr (.rw i) (.lit 0)::rest=>match H[i]? with
  | some (some ⟨1,.of [.slice false (.rw m) (.lit 0) n,.int .i64 a]⟩)=>match H[m]? with
   | some (some ⟨1,l⟩)=>match Nat.beq i m with
    | true=>none
    | false=>some (.uf j q [.agg l,.ptr (.rw 0) n,.int .i64 a,.agg (.of rest)],b,x,[.set i ⟨1,.of [.slice false (.rw m) (.lit 0) n,.int .i64 a2]⟩],[i,m])
   | _=>none
  | _=>none
 | _=>none
theorem aF3 {C:A1} {rt:Nat} {f j:Nat} {q:List AV→Bool} {b:EB} {x:EV} {a2:EI} {s:List AV} {N:Nat} {a:Int} {rest0:List AV} (hq:q=Be s N a rest0) (h8:E4 s=true) (hr:A6 0 rest0=true) (hv:B0 0 (vV C.G x)=true)
  (keyY:vB C.G b=true→ACalls C f (.ptr (.rw 0) 0::rest0) [some ⟨1,[.slice false (.rw 1) 0 N,.int .i64 a]⟩,some ⟨1,s⟩] fun v' H'=>v'=vV C.G x∧H'=[some ⟨1,[.slice false (.rw 1) 0 N,.int .i64 (vI C.G a2)]⟩,some ⟨1,s⟩])
  (keyN:vB C.G b=false→ACallsX C rt f (.ptr (.rw 0) 0::rest0) [some ⟨1,[.slice false (.rw 1) 0 N,.int .i64 a]⟩,some ⟨1,s⟩] (fun _ _=>False) fun _=>True):Jx C rt f (Em j q b x a2):=by
 intro xs H c b' v hs hp ho hc;simp only [Em] at ho;split at ho
 ·rename_i i rest;split at ho
  ·rename_i m n a' hi;split at ho
   ·rename_i l hm;split at ho
    ·simp at ho
    ·rename_i him;have him:i≠m:=fun h=>by rw [h,zA9] at him;simp at him
     simp only [zN,xH] at ho;obtain ⟨rfl,rfl,rfl,rfl,rfl⟩:=ho;simp only [vB,vVs,vV,vR,vN,vL,hq,Be,qC,List.cons.injEq,AV.agg.injEq,AV.ptr.injEq,AV.int.injEq,true_and,and_true] at hc;obtain ⟨e1,e2,e3,e4⟩:=hc;have hf:∀ j,A6 j s=true:=fun j=>B7 (G9 h8);refine ⟨fun hb=>?_,fun hb=>?_⟩
     ·refine E1.reader (C:=C) (rest:=rest) him hi hm (fun j=>by rw [e1];exact hf j) (by rw [e4];exact hr) hv ?_;rw [e1,e2,e3,e4];exact keyY hb
     ·unfold pA;have key:=zH (H:=B8 C.G H) (keyN hb) [i,m] rfl (by simp [him]) (fun k b hk=>?_) (by simp only [A6,B0,zO];exact ⟨by simp,G2 (zA8 _) _ hr⟩)
      ·have ea:rens [i,m] (.ptr (.rw 0) 0::rest0)=vVs C.G (.ptr (.rw i) (.lit 0)::rest):=by
        simp only [vVs,vV,vR,vN,rens,C2,B4 _ _ hr,e4];rfl
       rw [ea] at key;exact key
      ·match k with
       | 0=>simp at hk;subst hk;exact ⟨_,rfl,rfl,by simp [A6,B0],by simpa [I7,C6,vL,vVs,vV,vR,vN,rens,C2,e2,e3] using G4 (G:=C.G) hi⟩
       | 1=>simp at hk;subst hk;exact ⟨_,rfl,rfl,hf _,by simpa [I7,C6,B4 _ _ (hf 0),e1] using G4 (G:=C.G) hm⟩
       | k+2=>simp at hk
   ·simp at ho
  ·simp at ho
 ·simp at ho
def gO (j:Nat) (q:List AV→Bool) (b:EB) (x:EL):DSum:=fun args H=>some (.chk (.uf j q [.agg (.of args),.agg (.of [])]) (.tst b (.one (.tup [.slice false (.rw H.length) (.lit 0) (.len x),.int .i64 (.lit 0)]) [.new ⟨1,x⟩]) (.one (.tup [.nils,.int .i64 (.lit 2)]) [])))
theorem sBy_ok {C:A1} {f j:Nat} {vs0:List AV} {x:EL} {b:EB} {q:List AV→Bool} (hq:q=D9 vs0 []) (h:vB C.G b=true→u8s (vL C.G x)=true∧ACalls C f vs0 [] fun v H=>v=.tup [.slice false (.rw 0) 0 (vL C.G x).length,.int .i64 0]∧H=[some ⟨1,vL C.G x⟩]) (hn:vB C.G b=false→ACalls C f vs0 [] fun v _=>v=.tup [.nils,.int .i64 2]) (ha:A6 0 vs0=true):DSumOk C f (gO j q b x):=by
 intro args H o ho;simp only [gO,zN] at ho;subst ho;intro h1;have h1:q [.agg (vVs C.G args),.agg (O9 [])]=true:=h1;rw [hq] at h1;obtain ⟨e1,_⟩:=Ig h1;refine ⟨fun hb=>?_,fun hb=>?_⟩
 ·obtain ⟨hu,hk⟩:=h hb;refine E1.new0 (C:=C) (args0:=vs0) (v0:=.tup [.slice false (.rw 0) 0 (vL C.G x).length,.int .i64 0]) (by simp only [C6];exact hk) (B7 hu) ha e1 (by simp [B0,A6]) (by simp [vV,vVs,vR,vN,vI,C2,rens])
 ·exact E1.ro0 (by rw [e1];exact ACalls.drop0 (hn hb) rfl (by simp [vV,vVs])) (by rw [e1];exact ha) rfl
def cyes:Code→Code
 | .seq _ (.cond _ c _)=>c
 | _=>.skip
def cno:Code→Code
 | .cond _ _ c=>c
 | _=>.skip
def blkC:Code→Code
 | .block _ c=>c
 | _=>.skip
def dI : Oper := { dst := some 8, op := .typeAssert (.tmp 5) 20 96 true, type := 0, pos := "image.go:125", after := #[], guard := none }
def mD : Oper := { dst := some 9, op := .extract (.tmp 8) 1, type := 4, pos := "image.go:125", after := #[{ on := 0, ground := .data }], guard := none }
def mC : Oper := { dst := some 10, op := .extract (.tmp 8) 0, type := 96, pos := "image.go:125", after := #[{ on := 0, ground := .data }], guard := none }
theorem z58_eq:z58=.seq (.region 5 #[dI,mD,mC] false) (.cond (.tmp 9) (cyes (cno (O4 (blkC (O4 (C3 Try.f58)))))) (cno (O4 z58))):=by kernel_rfl
theorem run58a {e:Operand→Value} {w:World} (h:e (.tmp 5)=.iface 96 (.agg #[])):(execOp e dI).run Try.prog w=.ok (.value (.tuple #[.agg #[],.bool true])) w:=by
 simp only [execOp,dI,h];rfl
theorem sM {C:A1} {lps:List Code} (g0:Ee (K0 C) lps) {all:List Oper} {r:Option Nat} {Q:Exit→Act→World→Prop}:∀ {l:List Oper} {F F':Fr} {H H':Hp} {trs:List Tr},DT (K0 C) all l F H trs F' H'→∀ (ρ:Env) (a:Act) (w:World),B2 C ρ H w→D0 ρ F a→
  (∀ ρ' a' w',B2 C ρ' H' w'→D0 ρ' F' a'→ρ.le ρ'→Frm ρ w ρ' w'→a'.defers=a.defers→Q .normal a' w')→wpListIn (W r) 0 C.P all.toArray Q l a w:=by
 intro l F F' H H' trs h
 induction h with
 | nil F H=>exact fun ρ a w hH hF hQ=>hQ ρ a w hH hF (Env.le_refl ρ) (Frm.refl ρ w) rfl
 | @cons o l F F' H H' H'' tr v trs hst _ ih=>
  intro ρ a w hH hF hQ;unfold wpListIn;refine St.sound g0 hst hH hF (r:=r) (fun ρ1 cv w1 h1 h2 h3 h4=>?_);refine ih ρ1 _ w1 h1 ((hF.mono h3).put _ _ _ h2) fun ρ' a' w' q1 q2 q3 q4 q5=>hQ ρ' a' w' q1 q2 (Env.le_trans h3 q3) (h4.trans q4) (q5.trans ?_);cases o.dst<;>rfl
def o6a : Oper := { dst := some 3, op := .alloc 96, type := 0, pos := "image.go:125", after := #[], guard := none }
def o6b : Oper := { dst := none, op := .store 96 (.tmp 3) (.tmp 10), type := 0, pos := "image.go:125", after := #[{ on := 0, ground := .data }, { on := 0, ground := .phase }], guard := none }
def o7a : Oper := { dst := some 11, op := .build 25 #[], type := 25, pos := "image.go:128", after := #[], guard := none }
def o7b : Oper := { dst := none, op := .store 25 (.tmp 0) (.tmp 11), type := 0, pos := "image.go:128", after := #[{ on := 0, ground := .data }, { on := 0, ground := .phase }], guard := none }
def o7c : Oper := { dst := none, op := .store 29 (.tmp 1) (.const (.int .i64 4)), type := 0, pos := "image.go:128", after := #[{ on := 1, ground := .chain }, { on := 0, ground := .phase }, { on := 1, ground := .phase }], guard := none }
theorem c58_eq:(cyes (cno (O4 (blkC (O4 (C3 Try.f58))))))=.seq (.region 6 #[o6a,o6b] false) (.region 7 #[o7a,o7b,o7c] false):=by kernel_rfl
theorem w7a (G:Nat→List AV) (B:Nat):G5 Try.prog (put (put (fl 12 [0,1,10] [.ptr (.rw 1) 0,.ptr (.rw 2) 0,.agg []]) (some 3) (.ptr (.rw 3) 0)) none (.tup [])) o7a.op=some (true,.agg [.int .i64 0,.nils,.nils]):=by kernel_rfl
theorem und3 (x y z:AV) (h:isRec ⟨1,[x,y,z]⟩=false):jR ⟨1,[x,y,z]⟩ ⟨1,[.undef,.undef,.undef]⟩:=.inr ⟨rfl,h,rfl,fun j v hj=>by
 match j,hj with
 | 0,hj=>simp at hj;subst hj;exact ⟨x,rfl,fun ρ cv _=>by simp [VR]⟩
 | 1,hj=>simp at hj;subst hj;exact ⟨y,rfl,fun ρ cv _=>by simp [VR]⟩
 | 2,hj=>simp at hj;subst hj;exact ⟨z,rfl,fun ρ cv _=>by simp [VR]⟩⟩
theorem und1 (x:AV) (h:isRec ⟨1,[x]⟩=false):jR ⟨1,[x]⟩ ⟨1,[.undef]⟩:=.inr ⟨rfl,h,rfl,fun j v hj=>by
 match j,hj with
 | 0,hj=>simp at hj;subst hj;exact ⟨x,rfl,fun ρ cv _=>by simp [VR]⟩⟩
end Go.Am
