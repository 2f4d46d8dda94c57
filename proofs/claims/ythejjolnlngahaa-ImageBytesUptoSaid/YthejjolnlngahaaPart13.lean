/-
  Images moved: copied, by a loop over its sections. Images moved: copied: the call.
-/
import Derived.Test.YthejjolnlngahaaPart12
import Derived.Test.YthejjolnlngahaaBase5
import Derived.Test.YthejjolnlngahaaPart10
import Derived.Test.YthejjolnlngahaaPart11
namespace Go.Am
open Go.Proofs
set_option maxRecDepth 100000
def datC (G:Nat→List AV) (cs:List AV) (n:Nat):Prop:=∀ j,j<n→aE 1 (G (C9 cs (j*4+2))) (E5 cs (j*4+2)) (sN cs j)=true
end Go.Am
namespace Go.Am
open Go.Proofs
set_option maxRecDepth 100000
def cpB (G:Nat→List AV) (ks kp n m:Nat):Bool:=(K1 (G ks) n&&aE 4 (G ks) 0 n)&&(aE 2 (G kp) 0 m&&G9 (fun j=>aE 1 (G (C9 (G ks) (j*4+2))) (E5 (G ks) (j*4+2)) (sN (G ks) j)) n)
theorem Hs {G:Nat→List AV} {ks kp n m:Nat}:cpB G ks kp n m=true↔(K1 (G ks) n=true∧aE 4 (G ks) 0 n=true)∧aE 2 (G kp) 0 m=true∧datC G (G ks) n:=by
 unfold cpB datC;simp only [Bool.and_eq_true,K7]
end Go.Am
namespace Go.Am
open Go.Proofs
set_option maxRecDepth 100000
end Go.Am
namespace Go.Am
open Go.Proofs
set_option maxRecDepth 100000
end Go.Am
namespace Go.Am
open Go.Proofs
set_option maxRecDepth 100000
end Go.Am
namespace Go.Am
open Go.Proofs
set_option maxRecDepth 100000
def Av (b:List Nat):List AV:=b.map fun (x:Nat)=>.int .u8 (x:Int)
def fR (b:List Nat):Prop:=∀ x∈b,x<256
def bN (b:List Nat) (o:Nat):Nat:=b.getD o 0
theorem Ym {b:List Nat}:(Av b).length=b.length:=by simp [Av]
theorem uG {n:Nat} {b:List Nat}:A4 n (Av b)=true:=by
 rw [J8,List.all_eq_true];intro v hv;obtain ⟨x,_,rfl⟩:=List.mem_map.1 hv;rfl
theorem uE {b:List Nat}:∀ v∈Av b,E6 v=true:=fun v hv=>by
 obtain ⟨x,_,rfl⟩:=List.mem_map.1 hv;rfl
end Go.Am
namespace Go.Am
open Go.Proofs
set_option maxRecDepth 100000
end Go.Am
namespace Go.Am
open Go.Proofs
set_option maxRecDepth 100000
end Go.Am
namespace Go.Am
open Go.Proofs
set_option maxRecDepth 100000
end Go.Am
namespace Go.Am
open Go.Proofs
set_option maxRecDepth 100000
end Go.Am
namespace Go.Am
open Go.Proofs
set_option maxRecDepth 100000
end Go.Am
namespace Go.Am
open Go.Proofs
set_option maxRecDepth 100000
def plC (f:Nat→Int) (ps:List AV) (j:Nat):Nat→AV
 | 0=>.int .i64 (f j)
 | _=>.bool (hP ps j)
def M8 (f:Nat→Int) (ps:List AV) (m:Nat):List AV:=Z5 m 2 (plC f ps)
theorem iQ {f:Nat→Int} {ps:List AV} {m:Nat}:(M8 f ps m).length=m*2:=cG
theorem Al {N:Nat} {f:Nat→Int} {ps:List AV} {m:Nat}:A4 N (M8 f ps m)=true:=aH fun a b ha hb=>by
 match b,hb with
 | 0,_=>rfl
 | 1,_=>rfl
theorem oH {ps:List AV} {m:Nat} (h:V6 ps m=true) (hl:m*2≤ps.length):A7 ps 0 (m*2)=M8 (xP ps) ps m:=by
 refine List.ext_getElem? fun j=>?_;by_cases hj:j<m*2
 ·obtain ⟨h1,h2,h3⟩:=bO hj;have e:=N9 h h1;have e2:(M8 (xP ps) ps m)[j / 2*2+j % 2]?=some (plC (xP ps) ps (j / 2) (j % 2)):=Su (f:=plC (xP ps) ps) h1 h2;rw [←h3] at e2;rw [e2];unfold A7;rw [List.drop_zero,List.getElem?_take,if_pos hj];generalize j / 2=a at *;generalize j % 2=b at *;subst h3;obtain ⟨q1,_⟩:=e;simp only [E2,Ar,Bool.and_eq_true] at q1
  match b,h2 with
  | 0,_=>rw [Nat.add_zero];exact Ij q1.1
  | 1,_=>
   have hb:isB ps (a*2+1)=true:=q1.2.1;show ps[a*2+1]?=some (.bool (E7 ps (a*2+1)));unfold isB at hb;unfold E7;split at hb
   ·rename_i e;rw [e]
   ·cases hb
 ·have h1:(A7 ps 0 (m*2)).length≤j:=by
   unfold A7;rw [List.length_take];omega
  have h2:(M8 (xP ps) ps m).length≤j:=by rw [iQ];omega
  rw [List.getElem?_eq_none h1,List.getElem?_eq_none h2]
end Go.Am
namespace Go.Am
open Go.Proofs
set_option maxRecDepth 100000
end Go.Am
namespace Go.Am
open Go.Proofs
set_option maxRecDepth 100000
theorem wL {v:AV} {a b:List AV} (h:wk a b):wk (v::a) (v::b):=by cases v<;>simp [wk,h]
theorem Ud {m k:Nat}:∀ {a b:List AV},wk a b→wk (fzs m k a) (fzs m k b)
 | [],[],_=>by simp [fzs,wk]
 | [],y::b,h=>by simp [wk] at h
 | x::a,[],h=>by cases x<;>simp [wk] at h
 | x::a,y::b,h=>by
  by_cases hx:x=.undef
  ·subst hx;have h:wk a b:=h;show wk (.undef::fzs m k a) (fz m k y::fzs m k b);exact Ud h
  ·have h2:y=x∧wk a b:=by cases x<;>first | exact absurd rfl hx | exact h
   obtain ⟨rfl,h2⟩:=h2;exact wL (Ud h2)
def dK (kd:Nat→Nat) (cs:List AV) (j:Nat):AV:=.slice true (.ro (kd j)) 0 (sN cs j)
end Go.Am
namespace Go.Am
open Go.Proofs
set_option maxRecDepth 100000
end Go.Am
namespace Go.Am
open Go.Proofs
set_option maxRecDepth 100000
def rB (f:Nat→Int) (cs:List AV) (d:Nat→AV) (j:Nat):Nat→AV
 | 0=>.int .i64 (f j)
 | 1=>.int .i64 (sR cs j)
 | 2=>d j
 | _=>.int .i64 (sZ cs j)
def scU (f:Nat→Int) (cs:List AV) (n:Nat) (d:Nat→AV):List AV:=Z5 n 4 (rB f cs d)
theorem nM {cs:List AV} {n:Nat} {d:Nat→AV}:R0 cs n d=scU (sA cs) cs n d:=Ul fun a b ha hb=>by
 match b,hb with
 | 0,_=>rfl
 | 1,_=>rfl
 | 2,_=>rfl
 | 3,_=>rfl
theorem dG {f:Nat→Int} {ps:List AV} {m:Nat}:∀ v∈M8 f ps m,E6 v=true:=fun v hv=>by
 unfold M8 Z5 at hv;obtain ⟨j,hj,rfl⟩:=List.mem_map.1 hv;have hb:j % 2<2:=Nat.mod_lt _ (by omega);generalize j % 2=b at hb
 match b,hb with
 | 0,_=>rfl
 | 1,_=>rfl
end Go.Am
namespace Go.Am
open Go.Proofs
set_option maxRecDepth 100000
end Go.Am
namespace Go.Am
open Go.Proofs
set_option maxRecDepth 100000
end Go.Am
namespace Go.Am
open Go.Proofs
set_option maxRecDepth 100000
theorem nN {f:Nat→Int} {cs:List AV} {n:Nat} {kd:Nat→Nat}:K1 (scU f cs n (dK kd cs)) n=true:=K7.2 fun j hj=>by
 have e:∀ b,b<4→(scU f cs n (dK kd cs))[j*4+b]?=some (rB f cs (dK kd cs) j b):=fun b hb=>Su (f:=rB f cs (dK kd cs)) hj hb;have e0:=e 0 (by omega);rw [Nat.add_zero] at e0;have e2:Gt (scU f cs n (dK kd cs)) (j*4+1+1)=true:=by unfold Gt;rw [e 2 (by omega)];rfl
 simp only [E2,Ar,isI,e0,e 1 (by omega),e2,Bool.and_eq_true];have e3:=e 3 (by omega);rw [show j*4+1+1+1=j*4+3 by omega,e3];exact ⟨rfl,rfl,trivial,rfl,trivial⟩
end Go.Am
namespace Go.Am
open Go.Proofs
set_option maxRecDepth 100000
end Go.Am
namespace Go.Am
open Go.Proofs
set_option maxRecDepth 100000
end Go.Am
namespace Go.Am
open Go.Proofs
set_option maxRecDepth 100000
theorem Ri {s:Int} {cs ps:List AV} {n m:Nat} (h:I7 s cs n ps m=true):(n≤8∧m≤512)∧G9 (V4 cs) n=true∧G9 (Aq cs n ps) m=true:=by
 unfold I7 at h;simp only [Bool.and_eq_true,decide_eq_true_eq] at h;exact ⟨h.1,h.2.2.1,h.2.2.2.1⟩
theorem My {s:Int} {cs ps:List AV} {n m:Nat} (h:I7 s cs n ps m=true):∀ j,j<n→0≤sA cs j∧sA cs j≤8192∧sN cs j≤8192∧Mk cs j=true:=fun j hj=>by
 obtain ⟨_,h1,_⟩:=Ri h
 have:=K7.1 h1 j hj
 unfold V4 at this;rw [Bool.and_eq_true] at this;have t:=this.1;have q:=N7.1 t;exact ⟨q.2.1.1,q.2.1.2.1,q.1.2.2,t⟩
theorem vK {s:Int} {cs ps:List AV} {n m:Nat} (h:I7 s cs n ps m=true) (hp:V6 ps m=true):∀ i,i<m→0≤xP ps i∧xP ps i≤8192:=fun i hi=>by
 obtain ⟨_,h1,h2⟩:=Ri h;have h2:=K7.1 h2;have o:=h2 i hi;unfold Aq at o;rw [Bool.and_eq_true] at o;have pv:=kQ h1 hp (Nat.le_of_lt hi) fun j hj=>h2 j (by omega);have e1:=of_decide_eq_true o.1;have e2:=of_decide_eq_true o.2;obtain ⟨_,_,_,e3⟩:=N9 hp hi
 have:=fK (h:=hP ps i) h1 ⟨by omega,e3⟩ e2
 exact ⟨by omega,this⟩
def dB (G:Nat→List AV) (cs:List AV) (j:Nat):List Nat:=(H9 G cs j).map fun v=>match v with | .int _ x=>x.toNat | _=>0
def dB0 (G:Nat→List AV) (cs:List AV) (n j:Nat):List Nat:=if j<n then dB G cs j else []
theorem dB_eq {G:Nat→List AV} {cs:List AV} {j:Nat} {b:List Nat} (h:H9 G cs j=Av b):dB G cs j=b:=by
 unfold dB;rw [h];unfold Av;rw [List.map_map];refine Eq.trans (List.map_congr_left (g:=id) fun x _=>?_) (List.map_id b);exact G5 x
structure Eh (G:Nat→List AV) (ks kp n m:Nat):Prop where
 sec:K1 (G ks) n=true
 pls:V6 (G kp) m=true
 cp:cpB G ks kp n m=true
 dat:∀ j,j<n→∃ b,fR b∧H9 G (G ks) j=Av b
theorem yU {G:Nat→List AV} {ks kp n m:Nat} (h:Eh G ks kp n m) (j:Nat) (hj:j<n):(dB0 G (G ks) n j).length=sN (G ks) j:=by
 obtain ⟨_,_,hd⟩:=Hs.1 h.cp;have hc:=(Dh.1 (hd j hj)).1.1;have hc:=A6.1 hc;unfold dB0;rw [if_pos hj];unfold dB H9 A7;rw [List.length_map,List.length_take,List.length_drop]
 have:B9 (G ks) (j*4+2)=sN (G ks) j:=rfl
 omega
theorem pl_new {G:Nat→List AV} {ks kp n m:Nat} (h:Eh G ks kp n m):A7 (G kp) 0 (m*2)=M8 (xP (G kp)) (G kp) m:=by
 obtain ⟨_,hc,_⟩:=Hs.1 h.cp
 have:=A6.1 (Dh.1 hc).1.1
 exact oH h.pls (by omega)
end Go.Am
namespace Go.Am
open Go.Proofs
set_option maxRecDepth 100000
end Go.Am
namespace Go.Am
open Go.Proofs
set_option maxRecDepth 100000
end Go.Am
namespace Go.Am
open Go.Proofs
set_option maxRecDepth 100000
theorem rc_b (G:Nat→List AV) (sc pl:List AV) (ks kp n m i:Nat) (s:Int) (Q:Ex→List AV→Hp→Prop) (R:AV→Hp→Prop):vT G Q R (E8 (Dc Try.prog [] [] [] 0) 300 20 0 (A5 Try.f12 0) 35 [1,2,3,4] [.ptr (.rw 0) (.lit 0),.ptr (.rw 1) (.lit 0),.ptr (.rw 3) (.lit 0),.int .i64 (.ofN (.var 8 i))] [some ⟨1,.of [.int .i64 (.var 1 s),.slice true (.ro (.var 24 ks)) (.lit 0) (.var 3 n),.slice true (.ro (.var 25 kp)) (.lit 0) (.var 4 m)]⟩,some ⟨1,.of [.int .i64 (.lit 0),.nils,.nils]⟩,some ⟨2,.var 7 pl⟩,some ⟨1,.of [.int .i64 (.var 1 s),.slice true (.rw 4) (.lit 0) (.var 8 i),.slice true (.rw 2) (.lit 0) (.var 4 m)]⟩,some ⟨4,.var 21 sc⟩])=(
  (decide ((((i:Nat):Int):Int)<((n:Nat):Int))=true→decide ((0:Int)≤((i:Nat):Int))=true∧decide ((((i:Nat):Int):Int)<((n:Nat):Int))=true∧E2 (G (ks)) ((i)*4) [.int .i64,.int .i64,.sl,.int .i64]=true∧leB (E5 (G (ks)) ((i)*4+2)+B9 (G (ks)) ((i)*4+2)) (List.length (G (C9 (G (ks)) ((i)*4+2))))=true∧cellsB (A7 (G (C9 (G (ks)) ((i)*4+2))) (E5 (G (ks)) ((i)*4+2)) (B9 (G (ks)) ((i)*4+2)))=true∧leB (B9 (G (ks)) ((i)*4+2)) (140737488355328)=true∧leB ((i+1)*48) (140737488355328)=true∧Nat.beq (List.length sc) ((i)*4)=true∧Q .normal [.ptr (.rw 0) (0),.ptr (.rw 1) (0),.ptr (.rw 3) (0),.int .i64 (IntKind.wrap .i64 (((i:Nat):Int)+1))] [some ⟨1,([.int .i64 (s),.slice true (.ro (ks)) (0) (n),.slice true (.ro (kp)) (0) (m)]:List AV)⟩,some ⟨1,([.int .i64 (0),.nils,.nils]:List AV)⟩,some ⟨2,pl⟩,some ⟨1,([.int .i64 (s),.slice true (.rw 8) (0) (i+1),.slice true (.rw 2) (0) (m)]:List AV)⟩,none,some ⟨1,([.int .i64 (A0 (G (ks)) ((i)*4)),.int .i64 (A0 (G (ks)) ((i)*4+1)),.slice true (.rw 6) (0) (B9 (G (ks)) ((i)*4+2)),.int .i64 (A0 (G (ks)) ((i)*4+3))]:List AV)⟩,some ⟨1,(A7 (G (C9 (G (ks)) ((i)*4+2))) (E5 (G (ks)) ((i)*4+2)) (B9 (G (ks)) ((i)*4+2)))⟩,some ⟨4,([.int .i64 (A0 (G (ks)) ((i)*4)),.int .i64 (A0 (G (ks)) ((i)*4+1)),.slice true (.rw 6) (0) (B9 (G (ks)) ((i)*4+2)),.int .i64 (A0 (G (ks)) ((i)*4+3))]:List AV)⟩,some ⟨4,(sc++([.int .i64 (A0 (G (ks)) ((i)*4)),.int .i64 (A0 (G (ks)) ((i)*4+1)),.slice true (.rw 6) (0) (B9 (G (ks)) ((i)*4+2)),.int .i64 (A0 (G (ks)) ((i)*4+3))]:List AV))⟩])∧(decide ((((i:Nat):Int):Int)<((n:Nat):Int))=false→
 Q (.exit 0) [.ptr (.rw 0) (0),.ptr (.rw 1) (0),.ptr (.rw 3) (0),.int .i64 (((i:Nat):Int))] [some ⟨1,([.int .i64 (s),.slice true (.ro (ks)) (0) (n),.slice true (.ro (kp)) (0) (m)]:List AV)⟩,some ⟨1,([.int .i64 (0),.nils,.nils]:List AV)⟩,some ⟨2,pl⟩,some ⟨1,([.int .i64 (s),.slice true (.rw 4) (0) (i),.slice true (.rw 2) (0) (m)]:List AV)⟩,some ⟨4,sc⟩])):=by kernel_rfl
theorem rc_0 (G:Nat→List AV) (ks kp n m:Nat) (s:Int) (Q:Ex→List AV→Hp→Prop) (R:AV→Hp→Prop):vT G Q R (E8 (Dc Try.prog [] [] [] 0) 300 20 0 (Dl (B4 Try.f12)) 35 [0,1,2] [.agg (.of [.int .i64 (.var 1 s),.slice true (.ro (.var 24 ks)) (.lit 0) (.var 3 n),.slice true (.ro (.var 25 kp)) (.lit 0) (.var 4 m)]),.undef,.undef] [])=(
  Q .normal [.agg ([.int .i64 (s),.slice true (.ro (ks)) (0) (n),.slice true (.ro (kp)) (0) (m)]:List AV),.ptr (.rw 0) (0),.ptr (.rw 1) (0)] [some ⟨1,([.int .i64 (s),.slice true (.ro (ks)) (0) (n),.slice true (.ro (kp)) (0) (m)]:List AV)⟩,some ⟨1,([.int .i64 (0),.nils,.nils]:List AV)⟩]):=by kernel_rfl
theorem rc_1 (G:Nat→List AV) (ks kp n m:Nat) (s:Int) (Q:Ex→List AV→Hp→Prop) (R:AV→Hp→Prop):vT G Q R (E8 (Dc Try.prog [] [] [] 0) 301 20 0 (.region 1 (Ms (Xk (Dl (I2 (B4 Try.f12)))) 4 6).toArray true) 35 [1,2,3] [.ptr (.rw 0) (.lit 0),.ptr (.rw 1) (.lit 0),.undef] [some ⟨1,.of [.int .i64 (.var 1 s),.slice true (.ro (.var 24 ks)) (.lit 0) (.var 3 n),.slice true (.ro (.var 25 kp)) (.lit 0) (.var 4 m)]⟩,some ⟨1,.of [.int .i64 (.lit 0),.nils,.nils]⟩])=(
  leB ((m)*2) (List.length (G (kp)))=true∧cellsB (A7 (G (kp)) (0) ((m)*2))=true∧leB ((m)*16) (140737488355328)=true∧Q .normal [.ptr (.rw 0) (0),.ptr (.rw 1) (0),.ptr (.rw 3) (0)] [some ⟨1,([.int .i64 (s),.slice true (.ro (ks)) (0) (n),.slice true (.ro (kp)) (0) (m)]:List AV)⟩,some ⟨1,([.int .i64 (0),.nils,.nils]:List AV)⟩,some ⟨2,(A7 (G (kp)) (0) ((m)*2))⟩,some ⟨1,([.int .i64 (s),.nils,.slice true (.rw 2) (0) (m)]:List AV)⟩]):=by kernel_rfl
theorem rc_3 (G:Nat→List AV) (ks kp n m:Nat) (s:Int) (Q:Ex→List AV→Hp→Prop) (R:AV→Hp→Prop):vT G Q R (E8 (Dc Try.prog [] [] [] 0) 301 20 0 (.region 1 (Tc (Xk (Dl (I2 (B4 Try.f12)))) 4 6).toArray true) 35 [1,2,3] [.ptr (.rw 0) (.lit 0),.ptr (.rw 1) (.lit 0),.undef] [some ⟨1,.of [.int .i64 (.var 1 s),.slice true (.ro (.var 24 ks)) (.lit 0) (.var 3 n),.slice true (.ro (.var 25 kp)) (.lit 0) (.var 4 m)]⟩,some ⟨1,.of [.int .i64 (.lit 0),.nils,.nils]⟩])=(
  leB ((m)*2) (List.length (G (kp)))=true∧cellsB (A7 (G (kp)) (0) ((m)*2))=true∧leB ((m)*16) (140737488355328)=true∧Q .normal [.ptr (.rw 0) (0),.ptr (.rw 1) (0),.ptr (.rw 2) (0)] [some ⟨1,([.int .i64 (s),.slice true (.ro (ks)) (0) (n),.slice true (.ro (kp)) (0) (m)]:List AV)⟩,some ⟨1,([.int .i64 (0),.nils,.nils]:List AV)⟩,some ⟨1,([.int .i64 (s),.nils,.slice true (.rw 3) (0) (m)]:List AV)⟩,some ⟨2,(A7 (G (kp)) (0) ((m)*2))⟩]):=by kernel_rfl
theorem rc_2b (G:Nat→List AV) (q:List AV→Bool) (pl:List AV) (ks kp n m:Nat) (s:Int) (Q:Ex→List AV→Hp→Prop) (R:AV→Hp→Prop):vT G Q R (E8 (Dc Try.prog [] [] [F9 1850 (q) 0 35 [1,2,3,4] (.one (.exit 0) [.ptr (.rw 0) (.lit 0),.ptr (.rw 1) (.lit 0),.ptr (.rw 3) (.lit 0),.undef] [some ⟨1,.of [.int .i64 (.var 1 s),.slice true (.ro (.var 24 ks)) (.lit 0) (.var 3 n),.slice true (.ro (.var 25 kp)) (.lit 0) (.var 4 m)]⟩,some ⟨1,.of [.int .i64 (.lit 0),.nils,.nils]⟩,none,some ⟨1,.of [.int .i64 (.var 1 s),.slice true (.ro (.var 24 ks)) (.lit 0) (.var 3 n),.slice true (.ro (.var 25 kp)) (.lit 0) (.var 4 m)]⟩,none])] 0) 300 20 0 (I2 (I2 (B4 Try.f12))) 35 [1,2,3] [.ptr (.rw 0) (.lit 0),.ptr (.rw 1) (.lit 0),.ptr (.rw 3) (.lit 0)] [some ⟨1,.of [.int .i64 (.var 1 s),.slice true (.ro (.var 24 ks)) (.lit 0) (.var 3 n),.slice true (.ro (.var 25 kp)) (.lit 0) (.var 4 m)]⟩,some ⟨1,.of [.int .i64 (.lit 0),.nils,.nils]⟩,some ⟨2,.var 7 pl⟩,some ⟨1,.of [.int .i64 (.var 1 s),.nils,.slice true (.rw 2) (.lit 0) (.var 4 m)]⟩])=(
  (q) [.agg ([.ptr (.rw 0) (0),.ptr (.rw 1) (0),.ptr (.rw 3) (0),.int .i64 (0)]:List AV),.agg ([.tup [.int .i64 (1),.agg ([.int .i64 (s),.slice true (.ro (ks)) (0) (n),.slice true (.ro (kp)) (0) (m)]:List AV)],.tup [.int .i64 (1),.agg ([.int .i64 (0),.nils,.nils]:List AV)],.tup [.int .i64 (2),.agg pl],.tup [.int .i64 (1),.agg ([.int .i64 (s),.nils,.slice true (.rw 2) (0) (m)]:List AV)]]:List AV)]=true∧Q .ret [.ptr (.rw 0) (0),.ptr (.rw 1) (0),.ptr (.rw 3) (0)] [some ⟨1,([.int .i64 (s),.slice true (.ro (ks)) (0) (n),.slice true (.ro (kp)) (0) (m)]:List AV)⟩,some ⟨1,([.int .i64 (s),.slice true (.ro (ks)) (0) (n),.slice true (.ro (kp)) (0) (m)]:List AV)⟩,none,some ⟨1,([.int .i64 (s),.slice true (.ro (ks)) (0) (n),.slice true (.ro (kp)) (0) (m)]:List AV)⟩,none]):=by kernel_rfl
end Go.Am
namespace Go.Am
open Go.Proofs
set_option maxRecDepth 100000
theorem Zb {m z:Nat} {f:Nat→Nat→AV} (hz:0<z):Z5 (m+1) z f=Z5 m z f++(List.range z).map (f m):=by
 unfold Z5;rw [Nat.add_mul,Nat.one_mul,List.range_add,List.map_append,List.map_map];congr 1;refine List.map_congr_left fun j hj=>?_;have hj:j<z:=List.mem_range.1 hj;show f ((m*z+j) / z) ((m*z+j) % z)=f m j;rw [Nat.mul_comm m z,Nat.mul_add_div hz,Nat.div_eq_of_lt hj,Nat.add_zero,Nat.mul_add_mod,Nat.mod_eq_of_lt hj]
theorem cN {cs:List AV} {i:Nat} {d:Nat→AV}:R0 cs (i+1) d=R0 cs i d++[.int .i64 (sA cs i),.int .i64 (sR cs i),d i,.int .i64 (sZ cs i)]:=Zb (by omega)
def oB (s:Int) (a i m:Nat):Option Blk:=some ⟨1,[.int .i64 s,.slice true (.rw a) 0 i,.slice true (.rw 2) 0 m]⟩
end Go.Am
namespace Go.Am
open Go.Proofs
set_option maxRecDepth 100000
structure W0 (G:Nat→List AV) (ks kp n m:Nat):Prop where
 sec:(G ks)=R0 (G ks) n (dR (G ks))
 off:∀ j,j<n→E5 (G ks) (j*4+2)=0
 dat:∀ j,j<n→G (C9 (G ks) (j*4+2))=H9 G (G ks) j
 pls:(G kp)=(M8 (xP (G kp)) (G kp) m)
theorem jD {q k:Nat} {a b:List AV}:fzs q k (a++b)=fzs q k a++fzs q k b:=by rw [As,As,As,List.map_append]
theorem cO {cs:List AV} {n:Nat}:∀ v∈R0 cs n (dR cs),E6 v=true:=fun v hv=>by
 unfold R0 Z5 at hv;obtain ⟨j,hj,rfl⟩:=List.mem_map.1 hv;have hb:j % 4<4:=Nat.mod_lt _ (by omega);generalize j % 4=b at hb
 match b,hb with
 | 0,_=>rfl
 | 1,_=>rfl
 | 2,_=>rfl
 | 3,_=>rfl
def lJ (G:Nat→List AV) (ks kp n m:Nat) (s:Int) (i:Nat):Hp:=[some ⟨1,[.int .i64 s,.slice true (.ro ks) 0 n,.slice true (.ro kp) 0 m]⟩,some ⟨1,[.int .i64 0,.nils,.nils]⟩,some ⟨2,(M8 (xP (G kp)) (G kp) m)⟩,oB s 4 i m,some ⟨4,R0 (G ks) i (dR (G ks))⟩]
theorem Ld {cs:List AV} {i:Nat}:A4 0 (R0 cs i (dR cs))=true:=iH fun j hj=>rfl
theorem yX (G:Nat→List AV) (B:Nat) (ks kp n m:Nat) (s:Int) (hb:Eh G ks kp n m) (hw:W0 G ks kp n m) (h20:n≤20):AWp (⟨Try.prog,G,B⟩:A2) 0 (.loop (A5 Try.f12 0)) (fl 35 [1,2,3,4] [.ptr (.rw 0) 0,.ptr (.rw 1) 0,.ptr (.rw 3) 0,.int .i64 0]) [some ⟨1,[.int .i64 s,.slice true (.ro ks) 0 n,.slice true (.ro kp) 0 m]⟩,some ⟨1,[.int .i64 0,.nils,.nils]⟩,some ⟨2,(M8 (xP (G kp)) (G kp) m)⟩,some ⟨1,[.int .i64 s,.nils,.slice true (.rw 2) 0 m]⟩] (lv 35 [1,2,3,4] fun e vs H=>e=.exit 0∧wk [.ptr (.rw 0) 0,.ptr (.rw 1) 0,.ptr (.rw 3) 0,.undef] vs∧H=[some ⟨1,[.int .i64 s,.slice true (.ro ks) 0 n,.slice true (.ro kp) 0 m]⟩,some ⟨1,[.int .i64 0,.nils,.nils]⟩,none,some ⟨1,[.int .i64 s,.slice true (.ro ks) 0 n,.slice true (.ro kp) 0 m]⟩,none]):=by
 have key:AWp (⟨Try.prog,G,B⟩:A2) 0 (.loop (A5 Try.f12 0)) (fl 35 [1,2,3,4] [.ptr (.rw 0) 0,.ptr (.rw 1) 0,.ptr (.rw 3) 0,.int .i64 0]) [some ⟨1,[.int .i64 s,.slice true (.ro ks) 0 n,.slice true (.ro kp) 0 m]⟩,some ⟨1,[.int .i64 0,.nils,.nils]⟩,some ⟨2,(M8 (xP (G kp)) (G kp) m)⟩,some ⟨1,[.int .i64 s,.nils,.slice true (.rw 2) 0 m]⟩] (lv 35 [1,2,3,4] fun e vs H=>e=.exit 0∧wk [.ptr (.rw 0) 0,.ptr (.rw 1) 0,.ptr (.rw 3) 0,.undef] vs∧H=lJ G ks kp n m s n):=by
  refine AWp.nil (F:=fl 35 [1,2,3,4] [.ptr (.rw 0) 0,.ptr (.rw 1) 0,.ptr (.rw 3) 0,.int .i64 0]) (H:=[some ⟨1,[.int .i64 s,.slice true (.ro ks) 0 n,.slice true (.ro kp) 0 m]⟩,some ⟨1,[.int .i64 0,.nils,.nils]⟩,some ⟨2,(M8 (xP (G kp)) (G kp) m)⟩,oB s 4 0 m]) 4 (Nat.zero_le _) (Bc _) ?_ ?_
  ·exact ⟨⟨rfl,Bc _⟩,⟨rfl,Bc _⟩,⟨rfl,Bc _⟩,⟨rfl,.inl rfl,.inr ⟨rfl,rfl⟩,.inl rfl,trivial⟩,trivial⟩
  show AWp (⟨Try.prog,G,B⟩:A2) 0 (.loop (A5 Try.f12 0)) _ (lJ G ks kp n m s 0) _;refine Bl n (fun i=>[.ptr (.rw 0) 0,.ptr (.rw 1) 0,.ptr (.rw 3) 0,.int .i64 (i:Int)]) (lJ G ks kp n m s) fun i hi=>?_;by_cases hin:i<n
  ·obtain ⟨_,_,hd⟩:=Hs.1 hb.cp;obtain ⟨⟨c1,c2⟩,c3,_⟩:=Dh.1 (hd i hin);rw [Nat.mul_one] at c1 c2;obtain ⟨b,_,b2⟩:=hb.dat i hin
   refine AWp.frzL (Q:=fun e vs H=>e=.normal∧vs=[.ptr (.rw 0) 0,.ptr (.rw 1) 0,.ptr (.rw 3) 0,.int .i64 ((i+1:Nat):Int)]∧H=[some ⟨1,[.int .i64 s,.slice true (.ro ks) 0 n,.slice true (.ro kp) 0 m]⟩,some ⟨1,[.int .i64 0,.nils,.nils]⟩,some ⟨2,(M8 (xP (G kp)) (G kp) m)⟩,oB s 8 (i+1) m,none,some ⟨1,[.int .i64 (sA (G ks) i),.int .i64 (sR (G ks) i),.slice true (.rw 6) 0 (sN (G ks) i),.int .i64 (sZ (G ks) i)]⟩,some ⟨1,H9 G (G ks) i⟩,some ⟨4,[.int .i64 (sA (G ks) i),.int .i64 (sR (G ks) i),.slice true (.rw 6) 0 (sN (G ks) i),.int .i64 (sZ (G ks) i)]⟩,some ⟨4,R0 (G ks) i (dR (G ks))++[.int .i64 (sA (G ks) i),.int .i64 (sR (G ks) i),.slice true (.rw 6) 0 (sN (G ks) i),.int .i64 (sZ (G ks) i)]⟩]) 6 (C9 (G ks) (i*4+2)) ?_ ?_
   ·refine D4 (C:=(⟨Try.prog,G,B⟩:A2)) (K:=Dc Try.prog [] [] [] 0) (by rw [show loopsOf (A5 Try.f12 0)=[] by kernel_rfl];exact D3 (O1 G B) (by kernel_rfl) .nil .nil) (fuel:=300) (n0:=20) (m:=0) (c:=A5 Try.f12 0) (vs:=[.ptr (.rw 0) (.lit 0),.ptr (.rw 1) (.lit 0),.ptr (.rw 3) (.lit 0),.int .i64 (.ofN (.var 8 i))]) (H:=[some ⟨1,.of [.int .i64 (.var 1 s),.slice true (.ro (.var 24 ks)) (.lit 0) (.var 3 n),.slice true (.ro (.var 25 kp)) (.lit 0) (.var 4 m)]⟩,some ⟨1,.of [.int .i64 (.lit 0),.nils,.nils]⟩,some ⟨2,.var 7 (M8 (xP (G kp)) (G kp) m)⟩,some ⟨1,.of [.int .i64 (.var 1 s),.slice true (.rw 4) (.lit 0) (.var 8 i),.slice true (.rw 2) (.lit 0) (.var 4 m)]⟩,some ⟨4,.var 21 (R0 (G ks) i (dR (G ks)))⟩]) (Nat.zero_le _) ?_
    rw [rc_b];refine ⟨fun h1=>?_,fun h1=>absurd (of_decide_eq_false h1) (by omega)⟩;rw [C4 (n:=(i:Int)+1) (by omega)];exact ⟨decide_eq_true (by omega),h1,M7 hb.sec hin,c1,c2,A6.2 (Nat.le_trans c3 (by omega)),A6.2 (by omega),by rw [Qt];exact Nat.beq_refl _,rfl,rfl,rfl⟩
   ·rintro e vs H' ⟨rfl,rfl,rfl⟩;refine ⟨⟨_,rfl,rfl,fun j v hj=>?_⟩,hin,.inr ?_⟩
    ·have hj:(G (C9 (G ks) (i*4+2)))[j]?=some v:=hj;rw [hw.dat i hin] at hj;refine ⟨v,hj,?_,.rfl⟩;rw [b2] at hj;exact uE v (List.mem_of_getElem? hj)
    ·have f0:∀ {l:List AV},A4 0 l=true→fzs 6 (C9 (G ks) (i*4+2)) l=l:=fun h=>Bg (n:=0) (Nat.zero_le _) _ h
     have eS:fzs 6 (C9 (G ks) (i*4+2)) (R0 (G ks) i (dR (G ks))++[.int .i64 (sA (G ks) i),.int .i64 (sR (G ks) i),.slice true (.rw 6) 0 (sN (G ks) i),.int .i64 (sZ (G ks) i)])=R0 (G ks) (i+1) (dR (G ks)):=by
      rw [jD,f0 Ld,cN]
      have:dR (G ks) i=.slice true (.ro (C9 (G ks) (i*4+2))) 0 (sN (G ks) i):=by unfold dR;rw [hw.off i hin]
      rw [this];rfl
     have eH:Vr 6 (C9 (G ks) (i*4+2)) [some ⟨1,[.int .i64 s,.slice true (.ro ks) 0 n,.slice true (.ro kp) 0 m]⟩,some ⟨1,[.int .i64 0,.nils,.nils]⟩,some ⟨2,(M8 (xP (G kp)) (G kp) m)⟩,oB s 8 (i+1) m,none,some ⟨1,[.int .i64 (sA (G ks) i),.int .i64 (sR (G ks) i),.slice true (.rw 6) 0 (sN (G ks) i),.int .i64 (sZ (G ks) i)]⟩,some ⟨1,H9 G (G ks) i⟩,some ⟨4,[.int .i64 (sA (G ks) i),.int .i64 (sR (G ks) i),.slice true (.rw 6) 0 (sN (G ks) i),.int .i64 (sZ (G ks) i)]⟩,some ⟨4,R0 (G ks) i (dR (G ks))++[.int .i64 (sA (G ks) i),.int .i64 (sR (G ks) i),.slice true (.rw 6) 0 (sN (G ks) i),.int .i64 (sZ (G ks) i)]⟩]=[some ⟨1,[.int .i64 s,.slice true (.ro ks) 0 n,.slice true (.ro kp) 0 m]⟩,some ⟨1,[.int .i64 0,.nils,.nils]⟩,some ⟨2,fzs 6 (C9 (G ks) (i*4+2)) (M8 (xP (G kp)) (G kp) m)⟩,oB s 8 (i+1) m,none,some ⟨1,fzs 6 (C9 (G ks) (i*4+2)) [.int .i64 (sA (G ks) i),.int .i64 (sR (G ks) i),.slice true (.rw 6) 0 (sN (G ks) i),.int .i64 (sZ (G ks) i)]⟩,none,some ⟨4,fzs 6 (C9 (G ks) (i*4+2)) [.int .i64 (sA (G ks) i),.int .i64 (sR (G ks) i),.slice true (.rw 6) 0 (sN (G ks) i),.int .i64 (sZ (G ks) i)]⟩,some ⟨4,fzs 6 (C9 (G ks) (i*4+2)) (R0 (G ks) i (dR (G ks))++[.int .i64 (sA (G ks) i),.int .i64 (sR (G ks) i),.slice true (.rw 6) 0 (sN (G ks) i),.int .i64 (sZ (G ks) i)])⟩]:=rfl
     rw [eH,eS,f0 Al];refine C2.renM (H:=lJ G ks kp n m s (i+1)) (θ:=[0,1,2,3,8]) (Nat.zero_le _) (fun i hi=>absurd hi (Nat.not_lt_zero i)) (by decide) ⟨⟨rfl,rfl⟩,⟨rfl,rfl⟩,⟨Al,by rw [B5 [0,1,2,3,8] _ Al];rfl⟩,⟨rfl,rfl⟩,⟨I3 (Nat.zero_le _) _ Ld,by rw [B5 [0,1,2,3,8] _ Ld];rfl⟩,trivial⟩ rfl ?_;exact ⟨rfl,rfl,rfl,rfl,trivial⟩
  ·have ein:n=i:=by omega
   subst ein
   refine D4 (C:=(⟨Try.prog,G,B⟩:A2)) (K:=Dc Try.prog [] [] [] 0) (by rw [show loopsOf (A5 Try.f12 0)=[] by kernel_rfl];exact D3 (O1 G B) (by kernel_rfl) .nil .nil) (fuel:=300) (n0:=20) (m:=0) (c:=A5 Try.f12 0) (vs:=[.ptr (.rw 0) (.lit 0),.ptr (.rw 1) (.lit 0),.ptr (.rw 3) (.lit 0),.int .i64 (.ofN (.var 8 n))]) (H:=[some ⟨1,.of [.int .i64 (.var 1 s),.slice true (.ro (.var 24 ks)) (.lit 0) (.var 3 n),.slice true (.ro (.var 25 kp)) (.lit 0) (.var 4 m)]⟩,some ⟨1,.of [.int .i64 (.lit 0),.nils,.nils]⟩,some ⟨2,.var 7 (M8 (xP (G kp)) (G kp) m)⟩,some ⟨1,.of [.int .i64 (.var 1 s),.slice true (.rw 4) (.lit 0) (.var 8 n),.slice true (.rw 2) (.lit 0) (.var 4 m)]⟩,some ⟨4,.var 21 (R0 (G ks) n (dR (G ks)))⟩]) (Nat.zero_le _) ?_
   rw [rc_b];exact ⟨fun h1=>absurd (of_decide_eq_true h1) (by omega),fun h1=>⟨rfl,by simp [vVs,vV,vI,wk],rfl⟩⟩
 refine AWp.frzL 2 kp (AWp.frzL (Q':=fun e vs H=>e=.exit 0∧wk [.ptr (.rw 0) 0,.ptr (.rw 1) 0,.ptr (.rw 3) 0,.undef] vs∧H=[some ⟨1,[.int .i64 s,.slice true (.ro ks) 0 n,.slice true (.ro kp) 0 m]⟩,some ⟨1,[.int .i64 0,.nils,.nils]⟩,some ⟨2,(M8 (xP (G kp)) (G kp) m)⟩,some ⟨1,[.int .i64 s,.slice true (.ro ks) 0 n,.slice true (.rw 2) 0 m]⟩,none]) 4 ks key ?_) ?_
 ·rintro e vs H' ⟨rfl,w,rfl⟩;refine ⟨⟨_,rfl,rfl,fun j v hj=>?_⟩,rfl,Ud (m:=4) (k:=ks) w,?_⟩
  ·have hj:(G ks)[j]?=some v:=hj;rw [hw.sec] at hj;exact ⟨v,hj,cO v (List.mem_of_getElem? hj),.rfl⟩
  ·show ([some ⟨1,[.int .i64 s,.slice true (.ro ks) 0 n,.slice true (.ro kp) 0 m]⟩,some ⟨1,[.int .i64 0,.nils,.nils]⟩,some ⟨2,fzs 4 ks (M8 (xP (G kp)) (G kp) m)⟩,some ⟨1,[.int .i64 s,.slice true (.ro ks) 0 n,.slice true (.rw 2) 0 m]⟩,none]:Hp)=_;rw [Bg (n:=0) (Nat.zero_le _) _ Al]
 ·rintro e vs H' ⟨rfl,w,rfl⟩;refine ⟨⟨_,rfl,rfl,fun j v hj=>?_⟩,rfl,Ud (m:=2) (k:=kp) w,rfl⟩;have hj:(G kp)[j]?=some v:=hj;rw [hw.pls] at hj;exact ⟨v,hj,dG v (List.mem_of_getElem? hj),.rfl⟩
end Go.Am
namespace Go.Am
open Go.Proofs
set_option maxRecDepth 100000
theorem pT (G:Nat→List AV) (B:Nat) (ks kp n m:Nat) (s:Int) (hb:Eh G ks kp n m) (hw:W0 G ks kp n m) (h20:n≤20):AWp (⟨Try.prog,G,B⟩:A2) 0 (I2 (I2 (B4 Try.f12))) (fl 35 [1,2,3] [.ptr (.rw 0) 0,.ptr (.rw 1) 0,.ptr (.rw 3) 0]) [some ⟨1,[.int .i64 s,.slice true (.ro ks) 0 n,.slice true (.ro kp) 0 m]⟩,some ⟨1,[.int .i64 0,.nils,.nils]⟩,some ⟨2,(M8 (xP (G kp)) (G kp) m)⟩,some ⟨1,[.int .i64 s,.nils,.slice true (.rw 2) 0 m]⟩] (lv 35 [1,2,3] fun e vs H=>e=.ret∧vs=[.ptr (.rw 0) 0,.ptr (.rw 1) 0,.ptr (.rw 3) 0]∧H=[some ⟨1,[.int .i64 s,.slice true (.ro ks) 0 n,.slice true (.ro kp) 0 m]⟩,some ⟨1,[.int .i64 s,.slice true (.ro ks) 0 n,.slice true (.ro kp) 0 m]⟩,none,some ⟨1,[.int .i64 s,.slice true (.ro ks) 0 n,.slice true (.ro kp) 0 m]⟩,none]):=by
 have l0:H5 (⟨Try.prog,G,B⟩:A2) 0 (A5 Try.f12 0) (F9 1850 (F8 [.ptr (.rw 0) 0,.ptr (.rw 1) 0,.ptr (.rw 3) 0,.int .i64 0] [some ⟨1,[.int .i64 s,.slice true (.ro ks) 0 n,.slice true (.ro kp) 0 m]⟩,some ⟨1,[.int .i64 0,.nils,.nils]⟩,some ⟨2,(M8 (xP (G kp)) (G kp) m)⟩,some ⟨1,[.int .i64 s,.nils,.slice true (.rw 2) 0 m]⟩]) 0 35 [1,2,3,4] (.one (.exit 0) [.ptr (.rw 0) (.lit 0),.ptr (.rw 1) (.lit 0),.ptr (.rw 3) (.lit 0),.undef] [some ⟨1,.of [.int .i64 (.var 1 s),.slice true (.ro (.var 24 ks)) (.lit 0) (.var 3 n),.slice true (.ro (.var 25 kp)) (.lit 0) (.var 4 m)]⟩,some ⟨1,.of [.int .i64 (.lit 0),.nils,.nils]⟩,none,some ⟨1,.of [.int .i64 (.var 1 s),.slice true (.ro (.var 24 ks)) (.lit 0) (.var 3 n),.slice true (.ro (.var 25 kp)) (.lit 0) (.var 4 m)]⟩,none])):=Cr rfl ((yX G B ks kp n m s hb hw h20).lmono fun e vs H ⟨h1,q,h2⟩=>⟨h1,.inl ⟨q,h2⟩⟩)
 refine D4 (C:=(⟨Try.prog,G,B⟩:A2)) (K:=Dc Try.prog [] [] [F9 1850 (F8 [.ptr (.rw 0) 0,.ptr (.rw 1) 0,.ptr (.rw 3) 0,.int .i64 0] [some ⟨1,[.int .i64 s,.slice true (.ro ks) 0 n,.slice true (.ro kp) 0 m]⟩,some ⟨1,[.int .i64 0,.nils,.nils]⟩,some ⟨2,(M8 (xP (G kp)) (G kp) m)⟩,some ⟨1,[.int .i64 s,.nils,.slice true (.rw 2) 0 m]⟩]) 0 35 [1,2,3,4] (.one (.exit 0) [.ptr (.rw 0) (.lit 0),.ptr (.rw 1) (.lit 0),.ptr (.rw 3) (.lit 0),.undef] [some ⟨1,.of [.int .i64 (.var 1 s),.slice true (.ro (.var 24 ks)) (.lit 0) (.var 3 n),.slice true (.ro (.var 25 kp)) (.lit 0) (.var 4 m)]⟩,some ⟨1,.of [.int .i64 (.lit 0),.nils,.nils]⟩,none,some ⟨1,.of [.int .i64 (.var 1 s),.slice true (.ro (.var 24 ks)) (.lit 0) (.var 3 n),.slice true (.ro (.var 25 kp)) (.lit 0) (.var 4 m)]⟩,none])] 0) ?_ (fuel:=300) (n0:=20) (m:=0) (c:=I2 (I2 (B4 Try.f12))) (vs:=[.ptr (.rw 0) (.lit 0),.ptr (.rw 1) (.lit 0),.ptr (.rw 3) (.lit 0)]) (H:=[some ⟨1,.of [.int .i64 (.var 1 s),.slice true (.ro (.var 24 ks)) (.lit 0) (.var 3 n),.slice true (.ro (.var 25 kp)) (.lit 0) (.var 4 m)]⟩,some ⟨1,.of [.int .i64 (.lit 0),.nils,.nils]⟩,some ⟨2,.var 7 (M8 (xP (G kp)) (G kp) m)⟩,some ⟨1,.of [.int .i64 (.var 1 s),.nils,.slice true (.rw 2) (.lit 0) (.var 4 m)]⟩]) (Nat.zero_le _) ?_
 ·exact D3 (O1 G B) (by kernel_rfl) .nil (.cast (.cons (i:=0) (by kernel_rfl) rfl l0 .nil) (by kernel_rfl))
 ·rw [rc_2b];exact ⟨G3,rfl,rfl,rfl⟩
theorem yV:B4 Try.f12=.seq (Dl (B4 Try.f12)) (.seq (.region 1 (Xk (Dl (I2 (B4 Try.f12)))) true) (I2 (I2 (B4 Try.f12)))):=by kernel_rfl
theorem tV (G:Nat→List AV) (B:Nat) (ks kp n m:Nat) (s:Int) {XX:List AV} (hb:Eh G ks kp n m) (hm:m≤1000000) {K:AV→Hp→Prop} {HF:Hp} (hf:K (.agg XX) HF) (hres:Mo (⟨Try.prog,G,B⟩:A2) Try.f12 (fl 35 [1,2,3] [.ptr (.rw 0) 0,.ptr (.rw 1) 0,.ptr (.rw 3) 0]) HF=some (true,.agg XX)) (h:AWp (⟨Try.prog,G,B⟩:A2) 0 (I2 (I2 (B4 Try.f12))) (fl 35 [1,2,3] [.ptr (.rw 0) 0,.ptr (.rw 1) 0,.ptr (.rw 3) 0]) [some ⟨1,[.int .i64 s,.slice true (.ro ks) 0 n,.slice true (.ro kp) 0 m]⟩,some ⟨1,[.int .i64 0,.nils,.nils]⟩,some ⟨2,(M8 (xP (G kp)) (G kp) m)⟩,some ⟨1,[.int .i64 s,.nils,.slice true (.rw 2) 0 m]⟩] (lv 35 [1,2,3] fun e vs H=>e=.ret∧vs=[.ptr (.rw 0) 0,.ptr (.rw 1) 0,.ptr (.rw 3) 0]∧H=HF)):ACalls (⟨Try.prog,G,B⟩:A2) 12 [.agg [.int .i64 s,.slice true (.ro ks) 0 n,.slice true (.ro kp) 0 m]] [] K:=by
 refine acalls_of (fn:=Try.f12) (c:=B4 Try.f12) (by kernel_rfl) (by kernel_rfl) (by kernel_rfl) ?_
 have fin:AWp (⟨Try.prog,G,B⟩:A2) 0 (I2 (I2 (B4 Try.f12))) (fl 35 [1,2,3] [.ptr (.rw 0) 0,.ptr (.rw 1) 0,.ptr (.rw 3) 0]) [some ⟨1,[.int .i64 s,.slice true (.ro ks) 0 n,.slice true (.ro kp) 0 m]⟩,some ⟨1,[.int .i64 0,.nils,.nils]⟩,some ⟨2,(M8 (xP (G kp)) (G kp) m)⟩,some ⟨1,[.int .i64 s,.nils,.slice true (.rw 2) 0 m]⟩] (J6 (⟨Try.prog,G,B⟩:A2) Try.f12 K):=by
  refine AWp.lvd h ?_;rintro e vs H ⟨rfl,rfl,rfl⟩;unfold J6;rw [hres];exact hf
 show AWp (⟨Try.prog,G,B⟩:A2) 0 (B4 Try.f12) _ _ _;refine AWp.rd (N:=35) [0] (by kernel_rfl) ?_;rw [yV];refine AWp.seq (Nat.zero_le _) ?_;show AWp (⟨Try.prog,G,B⟩:A2) 0 (Dl (B4 Try.f12)) (fl 35 [0,1,2] [.agg [.int .i64 s,.slice true (.ro ks) 0 n,.slice true (.ro kp) 0 m],.undef,.undef]) [] _;refine AWp.lvd (live:=[0,1,2]) (N:=35) (Q:=fun ex vs H=>ex=.normal∧vs=[.agg [.int .i64 s,.slice true (.ro ks) 0 n,.slice true (.ro kp) 0 m],.ptr (.rw 0) 0,.ptr (.rw 1) 0]∧H=[some ⟨1,[.int .i64 s,.slice true (.ro ks) 0 n,.slice true (.ro kp) 0 m]⟩,some ⟨1,[.int .i64 0,.nils,.nils]⟩]) ?_ ?_
 ·refine D4 (C:=(⟨Try.prog,G,B⟩:A2)) (K:=Dc Try.prog [] [] [] 0) (by rw [show loopsOf (Dl (B4 Try.f12))=[] by kernel_rfl];exact D3 (O1 G B) (by kernel_rfl) .nil .nil) (fuel:=300) (n0:=20) (m:=0) (vs:=[.agg (.of [.int .i64 (.var 1 s),.slice true (.ro (.var 24 ks)) (.lit 0) (.var 3 n),.slice true (.ro (.var 25 kp)) (.lit 0) (.var 4 m)]),.undef,.undef]) (H:=[]) (Nat.zero_le _) ?_;rw [rc_0];exact ⟨rfl,rfl,rfl⟩
 rintro ex vs H ⟨rfl,rfl,rfl⟩;show AWp (⟨Try.prog,G,B⟩:A2) 0 (.seq (.region 1 (Xk (Dl (I2 (B4 Try.f12)))) true) (I2 (I2 (B4 Try.f12)))) (fl 35 [0,1,2] [.agg [.int .i64 s,.slice true (.ro ks) 0 n,.slice true (.ro kp) 0 m],.ptr (.rw 0) 0,.ptr (.rw 1) 0]) _ _;refine AWp.rd [1,2,3] Df ?_;refine AWp.seq (Nat.zero_le _) ?_;show AWp (⟨Try.prog,G,B⟩:A2) 0 (.region 1 (Xk (Dl (I2 (B4 Try.f12)))) true) (fl 35 [1,2,3] [.ptr (.rw 0) 0,.ptr (.rw 1) 0,.undef]) [some ⟨1,[.int .i64 s,.slice true (.ro ks) 0 n,.slice true (.ro kp) 0 m]⟩,some ⟨1,[.int .i64 0,.nils,.nils]⟩] _
 have e0:=pl_new hb;obtain ⟨_,hc,_⟩:=Hs.1 hb.cp;obtain ⟨⟨c1,c2⟩,_,_⟩:=Dh.1 hc;rw [Nat.zero_add] at c1
 refine AWp.lvd (live:=[1,2,3]) (N:=35) (Q:=fun ex vs H=>ex=.normal∧((vs=[.ptr (.rw 0) 0,.ptr (.rw 1) 0,.ptr (.rw 3) 0]∧H=[some ⟨1,[.int .i64 s,.slice true (.ro ks) 0 n,.slice true (.ro kp) 0 m]⟩,some ⟨1,[.int .i64 0,.nils,.nils]⟩,some ⟨2,(M8 (xP (G kp)) (G kp) m)⟩,some ⟨1,[.int .i64 s,.nils,.slice true (.rw 2) 0 m]⟩])∨(vs=[.ptr (.rw 0) 0,.ptr (.rw 1) 0,.ptr (.rw 2) 0]∧H=[some ⟨1,[.int .i64 s,.slice true (.ro ks) 0 n,.slice true (.ro kp) 0 m]⟩,some ⟨1,[.int .i64 0,.nils,.nils]⟩,some ⟨1,[.int .i64 s,.nils,.slice true (.rw 3) 0 m]⟩,some ⟨2,(M8 (xP (G kp)) (G kp) m)⟩]))) ?_ ?_
 ·refine dtwo3 (C:=(⟨Try.prog,G,B⟩:A2)) (K:=Dc Try.prog [] [] [] 0) (D3 (O1 G B) (by kernel_rfl) .nil .nil) (fuel:=300) (n0:=20) (m:=0) (i:=4) (j:=6) (vs:=[.ptr (.rw 0) (.lit 0),.ptr (.rw 1) (.lit 0),.undef]) (H:=[some ⟨1,.of [.int .i64 (.var 1 s),.slice true (.ro (.var 24 ks)) (.lit 0) (.var 3 n),.slice true (.ro (.var 25 kp)) (.lit 0) (.var 4 m)]⟩,some ⟨1,.of [.int .i64 (.lit 0),.nils,.nils]⟩]) (Nat.zero_le _) rfl (by kernel_rfl) (by kernel_rfl) ?_ ?_
  ·rw [rc_1,e0];exact ⟨c1,by rw [←e0];exact c2,A6.2 (by omega),rfl,.inl ⟨rfl,rfl⟩⟩
  ·rw [rc_3,e0];exact ⟨c1,by rw [←e0];exact c2,A6.2 (by omega),rfl,.inr ⟨rfl,rfl⟩⟩
 ·rintro ex vs H ⟨rfl,q⟩;show AWp (⟨Try.prog,G,B⟩:A2) 0 (I2 (I2 (B4 Try.f12))) (fl 35 [1,2,3] vs) H (J6 (⟨Try.prog,G,B⟩:A2) Try.f12 K);rcases q with ⟨rfl,rfl⟩ | ⟨rfl,rfl⟩
  ·exact fin
  ·refine AWp.pre fin ?_;refine C2.frames (θ:=[0,1,3,2]) (by simp) ⟨⟨rfl,rfl⟩,⟨rfl,rfl⟩,⟨Al,by rw [B5 [0,1,3,2] _ Al];rfl⟩,⟨rfl,rfl⟩,trivial⟩ rfl rfl rfl rfl
theorem cp_frz (G:Nat→List AV) (B:Nat) (ks kp n m:Nat) (s:Int) (hb:Eh G ks kp n m) (hw:W0 G ks kp n m) (h20:n≤20) (hm:m≤1000000):ACalls (⟨Try.prog,G,B⟩:A2) 12 [.agg [.int .i64 s,.slice true (.ro ks) 0 n,.slice true (.ro kp) 0 m]] [] fun v H=>v=.agg [.int .i64 s,.slice true (.ro ks) 0 n,.slice true (.ro kp) 0 m]∧H=[]:=
 ACalls.drop0 (tV G B ks kp n m s hb hm (XX:=[.int .i64 s,.slice true (.ro ks) 0 n,.slice true (.ro kp) 0 m]) (K:=fun v _=>v=.agg [.int .i64 s,.slice true (.ro ks) 0 n,.slice true (.ro kp) 0 m]) (HF:=[some ⟨1,[.int .i64 s,.slice true (.ro ks) 0 n,.slice true (.ro kp) 0 m]⟩,some ⟨1,[.int .i64 s,.slice true (.ro ks) 0 n,.slice true (.ro kp) 0 m]⟩,none,some ⟨1,[.int .i64 s,.slice true (.ro ks) 0 n,.slice true (.ro kp) 0 m]⟩,none]) rfl (by kernel_rfl) (pT G B ks kp n m s hb hw h20)) rfl (by simp)
end Go.Am
namespace Go.Am
open Go.Proofs
set_option maxRecDepth 100000
end Go.Am
namespace Go.Am
open Go.Proofs
set_option maxRecDepth 100000
theorem rdX {C:A2} {H:DHp} {x:EV} {L:EL} {n:EN} (d:Nat) (h:Zk H x=some (L,n)):∃ (X:AV) (r:Ref),fM d (vN C.G n) X∧E6 X=true∧(∀ σ:Sig,σ d=(r,0)→sb σ 0 X=vV C.G x)∧(vL C.G L=[]∨D0 C (B8 C.G H) r=some (vL C.G L)):=by
 have h0:=h;unfold Zk at h;split at h
 ·simp only [Option.some.injEq,Prod.mk.injEq] at h;obtain ⟨rfl,rfl⟩:=h;exact ⟨.nils,.ro 0,.inr ⟨rfl,rfl⟩,rfl,fun σ hσ=>by simp only [sb,vV],.inl (by simp only [vL,vVs])⟩
 ·simp only [Option.some.injEq,Prod.mk.injEq] at h;obtain ⟨rfl,rfl⟩:=h;rename_i mb k n';exact ⟨.slice mb (.ro d) 0 (vN C.G n'),.ro (vN C.G k),.inl ⟨mb,rfl⟩,rfl,fun σ hσ=>by simp only [sb,hσ,vV,vR,vN,Nat.add_zero],.inr (by simp only [D0,vL])⟩
 ·rename_i mb i n';split at h
  ·rename_i b hb;split at h
   ·simp at h
   ·rename_i hr;simp only [Option.some.injEq,Prod.mk.injEq] at h;obtain ⟨rfl,rfl⟩:=h;refine ⟨.slice mb (.ro d) 0 (vN C.G n'),.rw i,.inl ⟨mb,rfl⟩,rfl,fun σ hσ=>by simp only [sb,hσ,vV,vR,vN,Nat.add_zero],.inr ?_⟩;have hr:isRec (C8 C.G b)=false:=hr;simp only [D0,E9 hb];rw [hr];rfl
  ·simp at h
 ·simp at h
def g6 (c0 p0 d0 c1 p1 d1:List AV):Nat→List AV:=fun k=>match k with
 | 0=>c0
 | 1=>p0
 | 2=>d0
 | 3=>c1
 | 4=>p1
 | 5=>d1
 | _=>[]
def s6 (a b c d e f:Ref):Sig:=fun k=>match k with
 | 0=>(a,0)
 | 1=>(b,0)
 | 2=>(c,0)
 | 3=>(d,0)
 | 4=>(e,0)
 | _=>(f,0)
theorem Mj {C:A2} {H:Hp} {r:Ref} {l:List AV} (σ:Sig) (hl:l=[]∨D0 C H r=some l) (hf:A4 0 l=true∧O9 l=true):l=[]∨∃ cs,D0 C H r=some cs∧∀ (j:Nat) v,l[j]?=some v→E6 v=true∧cs[0+j]?=some (sb σ 0 v):=by
 rcases hl with h | h
 ·exact .inl h
 ·refine .inr ⟨_,h,fun j v hj=>?_⟩;obtain ⟨g1,g2⟩:=lM hf j v hj σ;exact ⟨g1,by rw [g2];simpa using hj⟩
theorem iE {C:A2} {H:DHp} {i:Nat} {a r z:EI} {sl:EV} {X:AV} (σ:Sig) (hi:H[i]?=some (some ⟨4,.of [.int .i64 a,.int .i64 r,sl,.int .i64 z]⟩)) (hX:E6 X=true) (hs:sb σ 0 X=vV C.G sl) :
  ∃ cs,D0 C (B8 C.G H) (.rw i)=some cs∧∀ (j:Nat) v,([.int .i64 (vI C.G a),.int .i64 (vI C.G r),X,.int .i64 (vI C.G z)]:List AV)[j]?=some v→E6 v=true∧cs[0+j]?=some (sb σ 0 v):=by
 have gi:=E9 (G:=C.G) hi;refine ⟨[.int .i64 (vI C.G a),.int .i64 (vI C.G r),vV C.G sl,.int .i64 (vI C.G z)],?_,fun j v hj=>?_⟩
 ·simp only [D0,gi]
  have:isRec (C8 C.G ⟨4,.of [.int .i64 a,.int .i64 r,sl,.int .i64 z]⟩)=false:=rfl
  rw [this];simp only [C8,vL,vVs,vV]
 ·match j,hj with
  | 0,hj=>simp at hj;subst hj;exact ⟨rfl,by simp [sb]⟩
  | 1,hj=>simp at hj;subst hj;exact ⟨rfl,by simp [sb]⟩
  | 2,hj=>simp at hj;subst hj;exact ⟨hX,by simp only [Nat.zero_add,List.getElem?_cons_succ,List.getElem?_cons_zero];rw [hs]⟩
  | 3,hj=>simp at hj;subst hj;exact ⟨rfl,by simp [sb]⟩
  | j+4,hj=>simp at hj
def Us (s a r:Int) (D:List AV) (n:Nat) (z:Int) (L:List AV) (m:Nat) (sv a2 r2:Int) (D2:List AV) (n2:Nat) (z2:Int) (L2:List AV) (m2:Nat):Bool:=
 (s==sv)&&(kU L m L2 m2&&((a==a2)&&((r==r2)&&((O4 (A7 D 0 n)==O4 (A7 D2 0 n2))&&(z==z2)))))
def Tt (D:List AV) (n:Nat):Bool:=(leB n D.length&&u8s (A7 D 0 n))&&(A4 0 D&&O9 D)
def dD (L:List AV) (m:Nat):Bool:=Y4 L m&&(A4 0 L&&O9 L)
theorem tU {G:Nat→List AV} {a r z:Int} {n d:Nat} {X:AV} (h:fM d n X):H9 G [.int .i64 a,.int .i64 r,X,.int .i64 z] 0=A7 (G d) 0 n:=by
 rcases h with ⟨mb,rfl⟩ | ⟨rfl,rfl⟩
 ·rfl
 ·show A7 (G 0) 0 0=A7 (G d) 0 0;unfold A7;rw [List.take_zero,List.take_zero]
theorem sec6 {G:Nat→List AV} {a r z:Int} {n d:Nat} {X:AV} (h:fM d n X) (hd:Tt (G d) n=true):W2 G [.int .i64 a,.int .i64 r,X,.int .i64 z] 1=true:=by
 unfold Tt at hd;simp only [Bool.and_eq_true] at hd
 have e:Bh G [.int .i64 a,.int .i64 r,X,.int .i64 z] 0=true:=by
  unfold Bh;rw [tU h,Bool.and_eq_true];refine ⟨?_,hd.1.2⟩;rcases h with ⟨mb,rfl⟩ | ⟨rfl,rfl⟩
  ·show leB (0+n) (G d).length=true;rw [Nat.zero_add];exact hd.1.1
  ·exact A6.2 (Nat.zero_le _)
 unfold W2 Gi;rw [Bool.and_eq_true,Bool.and_eq_true];refine ⟨?_,K7.2 fun k hk=>?_,rfl⟩
 ·rcases h with ⟨mb,rfl⟩ | ⟨rfl,rfl⟩<;>rfl
 ·obtain rfl:k=0:=by omega
  exact e
theorem all1 {f:Nat→Bool}:G9 f 1=f 0:=by
 show (true&&f 0)=f 0;rw [Bool.true_and]
theorem same6 {G:Nat→List AV} {s a r z sv a2 r2 z2:Int} {n n2 m m2:Nat} {X Y:AV} {L L2:List AV} (hX:fM 2 n X) (hY:fM 5 n2 Y):Dn G s [.int .i64 a,.int .i64 r,X,.int .i64 z] 1 L m sv [.int .i64 a2,.int .i64 r2,Y,.int .i64 z2] 1 L2 m2=Us s a r (G 2) n z L m sv a2 r2 (G 5) n2 z2 L2 m2:=by
 unfold Dn Us kH S6;rw [all1,tU hX,tU hY];rfl
def Ur:List AV→Bool:=fun xs=>match xs with
 | [.int _ s,.int _ a,.int _ r,.agg D,.int _ n,.int _ z,.agg L,.int _ m,.int _ sv,.int _ a2,.int _ r2,.agg D2,.int _ n2,.int _ z2,.agg L2,.int _ m2]=>Us s a r D n.toNat z L m.toNat sv a2 r2 D2 n2.toNat z2 L2 m2.toNat
 | _=>false
def Xf:List AV→Bool:=fun xs=>match xs with
 | [.agg D,.int _ n,.agg L,.int _ m,.agg D2,.int _ n2,.agg L2,.int _ m2]=>(Tt D n.toNat&&dD L m.toNat)&&(Tt D2 n2.toNat&&dD L2 m2.toNat)
 | _=>false
theorem nO {s a r z sv a2 r2 z2:Int} {D L D2 L2:List AV} {n m n2 m2:Nat}:Ur [.int .i64 s,.int .i64 a,.int .i64 r,.agg D,.int .i64 (n:Int),.int .i64 z,.agg L,.int .i64 (m:Int),.int .i64 sv,.int .i64 a2,.int .i64 r2,.agg D2,.int .i64 (n2:Int),.int .i64 z2,.agg L2,.int .i64 (m2:Int)]=Us s a r D n z L m sv a2 r2 D2 n2 z2 L2 m2:=by simp only [Ur,G5]
theorem gK {D L D2 L2:List AV} {n m n2 m2:Nat}:Xf [.agg D,.int .i64 (n:Int),.agg L,.int .i64 (m:Int),.agg D2,.int .i64 (n2:Int),.agg L2,.int .i64 (m2:Int)]=true↔(Tt D n=true∧dD L m=true)∧(Tt D2 n2=true∧dD L2 m2=true):=by simp only [Xf,G5,Bool.and_eq_true]
def same1S:DSum:=fun args H=>match args with
 | [.agg (.of [.int .i64 s,.slice _ (.rw i) (.lit 0) (.lit 1),pl]),.agg (.of [.int .i64 sv,.slice _ (.rw j) (.lit 0) (.lit 1),pl2])]=>match H[i]? with
  | some (some ⟨4,.of [.int .i64 a,.int .i64 r,sl,.int .i64 z]⟩)=>match H[j]? with
   | some (some ⟨4,.of [.int .i64 a2,.int .i64 r2,sl2,.int .i64 z2]⟩)=>match Zk H pl with
    | some (L,m)=>match Zk H pl2 with
     | some (L2,m2)=>match Zk H sl with
      | some (D,n)=>match Zk H sl2 with
       | some (D2,n2)=>some (.chk (.uf 1762 Xf [.agg D,.int .i64 (.ofN n),.agg L,.int .i64 (.ofN m),.agg D2,.int .i64 (.ofN n2),.agg L2,.int .i64 (.ofN m2)]) (.one (.bool (.uf 1763 Ur [.int .i64 s,.int .i64 a,.int .i64 r,.agg D,.int .i64 (.ofN n),.int .i64 z,.agg L,.int .i64 (.ofN m),.int .i64 sv,.int .i64 a2,.int .i64 r2,.agg D2,.int .i64 (.ofN n2),.int .i64 z2,.agg L2,.int .i64 (.ofN m2)])) []))
       | none=>none
      | none=>none
     | none=>none
    | none=>none
   | _=>none
  | _=>none
 | _=>none
theorem nP (G:Nat→List AV) (B:Nat):C5 (⟨Try.prog,G,B⟩:A2) 15 same1S:=by
 intro args H o ho;unfold same1S at ho;split at ho
 ·rename_i s mb i pl sv mb2 j pl2;split at ho
  ·rename_i a r sl z hi;split at ho
   ·rename_i a2 r2 sl2 z2 hj;split at ho
    ·rename_i L m hL;split at ho
     ·rename_i L2 m2 hL2;split at ho
      ·rename_i D n hD;split at ho
       ·rename_i D2 n2 hD2;simp only [Option.some.injEq] at ho;subst ho;intro hc;obtain ⟨⟨c1,c2⟩,c3,c4⟩:=gK.1 hc;have c1':=c1;have c3':=c3;unfold Tt at c1 c3;unfold dD at c2 c4;simp only [Bool.and_eq_true] at c1 c2 c3 c4;obtain ⟨X,rd,x1,x2,x3,x4⟩:=rdX (C:=(⟨Try.prog,G,B⟩:A2)) 2 hD;obtain ⟨Y,re,y1,y2,y3,y4⟩:=rdX (C:=(⟨Try.prog,G,B⟩:A2)) 5 hD2;obtain ⟨rp,p1,p2⟩:=nZ (C:=(⟨Try.prog,G,B⟩:A2)) hL;obtain ⟨rq,q1,q2⟩:=nZ (C:=(⟨Try.prog,G,B⟩:A2)) hL2
        refine E0.rdN (C:=(⟨Try.prog,G,B⟩:A2)) (σ:=s6 (.rw i) rp rd (.rw j) rq re) (G':=g6 [.int .i64 (vI G a),.int .i64 (vI G r),X,.int .i64 (vI G z)] (vL G L) (vL G D) [.int .i64 (vI G a2),.int .i64 (vI G r2),Y,.int .i64 (vI G z2)] (vL G L2) (vL G D2)) (args0:=[.agg [.int .i64 (vI G s),.slice true (.ro 0) 0 1,.slice true (.ro 1) 0 (vN G m)],.agg [.int .i64 (vI G sv),.slice true (.ro 3) 0 1,.slice true (.ro 4) 0 (vN G m2)]]) (fun k=>?_) rfl (fun ρ vs hvs=>?_) (fun B'=>?_) ⟨rfl,rfl⟩
        ·match k with
         | 0=>exact .inr (iE _ hi x2 (x3 _ rfl))
         | 1=>exact Mj _ p2 c2.2
         | 2=>exact Mj _ x4 c1.2
         | 3=>exact .inr (iE _ hj y2 (y3 _ rfl))
         | 4=>exact Mj _ q2 c4.2
         | 5=>exact Mj _ y4 c3.2
         | _+6=>exact .inl rfl
        ·simp only [vVs,vV,vL,sbs,sb,VRs,VR,vR,vN,s6,Nat.add_zero] at hvs ⊢;obtain ⟨v,vs',e,⟨ws,e2,w1,t1,e3,k1,w2,t2,e4,k2,w3,t3,e5,k3,k4⟩,v',vs2,e6,⟨us,e7,u1,z1,e8,l1,u2,zz2,e9,l2,u3,z3,e10,l3,l4⟩,k6⟩:=hvs
         have may:∀ {b:Bool} {r:Ref} {n:Nat} {w:Value},N4 ρ b r 0 n w→N4 ρ true r 0 n w:=fun {b r n w} h=>by
          have:=N3 (show VR ρ (.slice b r 0 n) w by simpa only [VR] using h)
          simpa only [VR] using this
         exact ⟨v,vs',e,⟨ws,e2,w1,t1,e3,k1,w2,t2,e4,may k2,w3,t3,e5,by simpa only [VR] using p1 ρ w3 k3,k4⟩,v',vs2,e6,⟨us,e7,u1,z1,e8,l1,u2,zz2,e9,may l2,u3,z3,e10,by simpa only [VR] using q1 ρ u3 l3,l4⟩,k6⟩
        ·refine (Mm _ B' (vI G s) (vI G sv) 0 3 1 1 1 4 (vN G m) (vN G m2) (sec6 (d:=2) x1 c1') (sec6 (d:=5) y1 c3') c2.1 c4.1).monoK fun v _ e=>?_;rw [e];show AV.bool (Dn (g6 _ _ _ _ _ _) (vI G s) [.int .i64 (vI G a),.int .i64 (vI G r),X,.int .i64 (vI G z)] 1 (vL G L) (vN G m) (vI G sv) [.int .i64 (vI G a2),.int .i64 (vI G r2),Y,.int .i64 (vI G z2)] 1 (vL G L2) (vN G m2))=_;rw [same6 x1 y1]
         show _=AV.bool (Ur [.int .i64 (vI G s),.int .i64 (vI G a),.int .i64 (vI G r),.agg (vL G D),.int .i64 (vN G n:Int),.int .i64 (vI G z),.agg (vL G L),.int .i64 (vN G m:Int),.int .i64 (vI G sv),.int .i64 (vI G a2),.int .i64 (vI G r2),.agg (vL G D2),.int .i64 (vN G n2:Int),.int .i64 (vI G z2),.agg (vL G L2),.int .i64 (vN G m2:Int)]);rw [nO];rfl
       ·simp at ho
      ·simp at ho
     ·simp at ho
    ·simp at ho
   ·simp at ho
  ·simp at ho
 ·simp at ho
end Go.Am
