/-
  WireBack: pieces of one's own are joined. Wire: two pieces of one's own are joined.
-/
import Derived.Test.YthejjolnlngahaaPart15
import Derived.Test.YthejjolnlngahaaPart14
import Derived.Test.YthejjolnlngahaaBase5
namespace Go.Am
open Go.Proofs
set_option maxRecDepth 100000
section
variable (G:Nat→List AV) (B:Nat)
theorem jr0 (la lb lc ld s:List AV) (na nb nc nd l:Nat) (Q:Ex→List AV→Hp→Prop) (R:AV→Hp→Prop):vT G Q R (G3 (Dc Try.prog [] [] [] 5) 200 20 5 (A2 Try.f55 0) 18 [3,7,8,9] [.slice false (.rw 5) (.lit 0) (.var 5 l),.slice false (.rw 0) (.lit 0) (.lit 4),.int .i64 (.lit 4),.int .i64 (.lit 0)] [some ⟨1,.of [.slice false (.rw 1) (.lit 0) (.var 1 na),.slice false (.rw 2) (.lit 0) (.var 2 nb),.slice false (.rw 3) (.lit 0) (.var 3 nc),.slice false (.rw 4) (.lit 0) (.var 4 nd)]⟩,some ⟨1,.var 11 la⟩,some ⟨1,.var 12 lb⟩,some ⟨1,.var 13 lc⟩,some ⟨1,.var 14 ld⟩,some ⟨1,.var 15 s⟩])=(
  leB na (List.length la)=true∧cellsB (A9 la 0 na)=true∧leB (l+na) 140737488355328=true∧Nat.beq (List.length s) l=true∧Q .normal [.slice false (.rw 6) 0 (l+na),.slice false (.rw 0) 0 4,.int .i64 4,.int .i64 1] [some ⟨1,([.slice false (.rw 1) 0 na,.slice false (.rw 2) 0 nb,.slice false (.rw 3) 0 nc,.slice false (.rw 4) 0 nd]:List AV)⟩,some ⟨1,la⟩,some ⟨1,lb⟩,some ⟨1,lc⟩,some ⟨1,ld⟩,none,some ⟨1,(s++(A9 la 0 na))⟩]):=by kernel_rfl
theorem jr1 (la lb lc ld s:List AV) (na nb nc nd l:Nat) (Q:Ex→List AV→Hp→Prop) (R:AV→Hp→Prop):vT G Q R (G3 (Dc Try.prog [] [] [] 5) 200 20 5 (A2 Try.f55 0) 18 [3,7,8,9] [.slice false (.rw 5) (.lit 0) (.var 5 l),.slice false (.rw 0) (.lit 0) (.lit 4),.int .i64 (.lit 4),.int .i64 (.lit 1)] [some ⟨1,.of [.slice false (.rw 1) (.lit 0) (.var 1 na),.slice false (.rw 2) (.lit 0) (.var 2 nb),.slice false (.rw 3) (.lit 0) (.var 3 nc),.slice false (.rw 4) (.lit 0) (.var 4 nd)]⟩,some ⟨1,.var 11 la⟩,some ⟨1,.var 12 lb⟩,some ⟨1,.var 13 lc⟩,some ⟨1,.var 14 ld⟩,some ⟨1,.var 15 s⟩])=(
  leB nb (List.length lb)=true∧cellsB (A9 lb 0 nb)=true∧leB (l+nb) 140737488355328=true∧Nat.beq (List.length s) l=true∧Q .normal [.slice false (.rw 6) 0 (l+nb),.slice false (.rw 0) 0 4,.int .i64 4,.int .i64 2] [some ⟨1,([.slice false (.rw 1) 0 na,.slice false (.rw 2) 0 nb,.slice false (.rw 3) 0 nc,.slice false (.rw 4) 0 nd]:List AV)⟩,some ⟨1,la⟩,some ⟨1,lb⟩,some ⟨1,lc⟩,some ⟨1,ld⟩,none,some ⟨1,(s++(A9 lb 0 nb))⟩]):=by kernel_rfl
theorem jr2 (la lb lc ld s:List AV) (na nb nc nd l:Nat) (Q:Ex→List AV→Hp→Prop) (R:AV→Hp→Prop):vT G Q R (G3 (Dc Try.prog [] [] [] 5) 200 20 5 (A2 Try.f55 0) 18 [3,7,8,9] [.slice false (.rw 5) (.lit 0) (.var 5 l),.slice false (.rw 0) (.lit 0) (.lit 4),.int .i64 (.lit 4),.int .i64 (.lit 2)] [some ⟨1,.of [.slice false (.rw 1) (.lit 0) (.var 1 na),.slice false (.rw 2) (.lit 0) (.var 2 nb),.slice false (.rw 3) (.lit 0) (.var 3 nc),.slice false (.rw 4) (.lit 0) (.var 4 nd)]⟩,some ⟨1,.var 11 la⟩,some ⟨1,.var 12 lb⟩,some ⟨1,.var 13 lc⟩,some ⟨1,.var 14 ld⟩,some ⟨1,.var 15 s⟩])=(
  leB nc (List.length lc)=true∧cellsB (A9 lc 0 nc)=true∧leB (l+nc) 140737488355328=true∧Nat.beq (List.length s) l=true∧Q .normal [.slice false (.rw 6) 0 (l+nc),.slice false (.rw 0) 0 4,.int .i64 4,.int .i64 3] [some ⟨1,([.slice false (.rw 1) 0 na,.slice false (.rw 2) 0 nb,.slice false (.rw 3) 0 nc,.slice false (.rw 4) 0 nd]:List AV)⟩,some ⟨1,la⟩,some ⟨1,lb⟩,some ⟨1,lc⟩,some ⟨1,ld⟩,none,some ⟨1,(s++(A9 lc 0 nc))⟩]):=by kernel_rfl
theorem jr3 (la lb lc ld s:List AV) (na nb nc nd l:Nat) (Q:Ex→List AV→Hp→Prop) (R:AV→Hp→Prop):vT G Q R (G3 (Dc Try.prog [] [] [] 5) 200 20 5 (A2 Try.f55 0) 18 [3,7,8,9] [.slice false (.rw 5) (.lit 0) (.var 5 l),.slice false (.rw 0) (.lit 0) (.lit 4),.int .i64 (.lit 4),.int .i64 (.lit 3)] [some ⟨1,.of [.slice false (.rw 1) (.lit 0) (.var 1 na),.slice false (.rw 2) (.lit 0) (.var 2 nb),.slice false (.rw 3) (.lit 0) (.var 3 nc),.slice false (.rw 4) (.lit 0) (.var 4 nd)]⟩,some ⟨1,.var 11 la⟩,some ⟨1,.var 12 lb⟩,some ⟨1,.var 13 lc⟩,some ⟨1,.var 14 ld⟩,some ⟨1,.var 15 s⟩])=(
  leB nd (List.length ld)=true∧cellsB (A9 ld 0 nd)=true∧leB (l+nd) 140737488355328=true∧Nat.beq (List.length s) l=true∧Q .normal [.slice false (.rw 6) 0 (l+nd),.slice false (.rw 0) 0 4,.int .i64 4,.int .i64 4] [some ⟨1,([.slice false (.rw 1) 0 na,.slice false (.rw 2) 0 nb,.slice false (.rw 3) 0 nc,.slice false (.rw 4) 0 nd]:List AV)⟩,some ⟨1,la⟩,some ⟨1,lb⟩,some ⟨1,lc⟩,some ⟨1,ld⟩,none,some ⟨1,(s++(A9 ld 0 nd))⟩]):=by kernel_rfl
theorem jr4 (la lb lc ld s:List AV) (na nb nc nd l:Nat) (Q:Ex→List AV→Hp→Prop) (R:AV→Hp→Prop):vT G Q R (G3 (Dc Try.prog [] [] [] 5) 200 20 5 (A2 Try.f55 0) 18 [3,7,8,9] [.slice false (.rw 5) (.lit 0) (.var 5 l),.slice false (.rw 0) (.lit 0) (.lit 4),.int .i64 (.lit 4),.int .i64 (.lit 4)] [some ⟨1,.of [.slice false (.rw 1) (.lit 0) (.var 1 na),.slice false (.rw 2) (.lit 0) (.var 2 nb),.slice false (.rw 3) (.lit 0) (.var 3 nc),.slice false (.rw 4) (.lit 0) (.var 4 nd)]⟩,some ⟨1,.var 11 la⟩,some ⟨1,.var 12 lb⟩,some ⟨1,.var 13 lc⟩,some ⟨1,.var 14 ld⟩,some ⟨1,.var 15 s⟩])=(
  Q (.exit 0) [.slice false (.rw 5) 0 l,.slice false (.rw 0) 0 4,.int .i64 4,.int .i64 4] [some ⟨1,([.slice false (.rw 1) 0 na,.slice false (.rw 2) 0 nb,.slice false (.rw 3) 0 nc,.slice false (.rw 4) 0 nd]:List AV)⟩,some ⟨1,la⟩,some ⟨1,lb⟩,some ⟨1,lc⟩,some ⟨1,ld⟩,some ⟨1,s⟩]):=by kernel_rfl
theorem oP :L6 (⟨Try.prog,G,B⟩:A0) (Dc Try.prog [] [] [] 5) []:=D7 (mix G B) (by kernel_rfl) .nil .nil
def X4 (na nb nc nd:Nat):Option Blk:=some ⟨1,[.slice false (.rw 1) 0 na,.slice false (.rw 2) 0 nb,.slice false (.rw 3) 0 nc,.slice false (.rw 4) 0 nd]⟩
theorem jnx {la lb lc ld y:List AV} {m:Nat} {i:Int} (ha:A3 0 la=true) (hb:A3 0 lb=true) (hc:A3 0 lc=true) (hd:A3 0 ld=true) (hy:A3 0 y=true) :
  C2 5 [.slice false (.rw 5) 0 m,.slice false (.rw 0) 0 4,.int .i64 4,.int .i64 i] [X4 la.length lb.length lc.length ld.length,some ⟨1,la⟩,some ⟨1,lb⟩,some ⟨1,lc⟩,some ⟨1,ld⟩,some ⟨1,y⟩] [.slice false (.rw 6) 0 m,.slice false (.rw 0) 0 4,.int .i64 4,.int .i64 i] [X4 la.length lb.length lc.length ld.length,some ⟨1,la⟩,some ⟨1,lb⟩,some ⟨1,lc⟩,some ⟨1,ld⟩,none,some ⟨1,y⟩]:=by
 have f:∀ {l:List AV},A3 0 l=true→A3 6 l=true∧some (some (⟨1,l⟩:Blk))=some (some ⟨1,rens [0,1,2,3,4,6] l⟩):=fun h=>⟨G6 (zA2 _) _ h,by rw [B9 _ _ h]⟩;refine C2.renM (θ:=[0,1,2,3,4,6]) (by simp) (fun i hi=>?_) (by decide) ⟨⟨by simp [A3,A8],by simp [rens,C0,X4]⟩,f ha,f hb,f hc,f hd,f hy,trivial⟩ (by simp [A3,A8]) (by simp [rens,C0,wk])
 have:i=0∨i=1∨i=2∨i=3∨i=4:=by omega
 rcases this with rfl | rfl | rfl | rfl | rfl<;>rfl
def Ef (la lb lc ld:List AV):Nat→List AV
 | 0=>[]
 | 1=>la
 | 2=>la++lb
 | 3=>(la++lb)++lc
 | _=>((la++lb)++lc)++ld
theorem aY5 (la lb lc ld:List AV) (ua:u8s la=true) (ub:u8s lb=true) (uc:u8s lc=true) (ud:u8s ld=true) (ht:la.length+lb.length+lc.length+ld.length≤1099511627776) :
  AWp (⟨Try.prog,G,B⟩:A0) 5 (.loop (A2 Try.f55 0)) (fl 18 [3,7,8,9] [.slice false (.rw 5) 0 0,.slice false (.rw 0) 0 4,.int .i64 4,.int .i64 0]) [X4 la.length lb.length lc.length ld.length,some ⟨1,la⟩,some ⟨1,lb⟩,some ⟨1,lc⟩,some ⟨1,ld⟩,some ⟨1,[]⟩]
   (lv 18 [3,7,8,9] fun e vs H=>e=.exit 0∧wk [.slice false (.rw 5) 0 (((la++lb)++lc)++ld).length,.undef,.undef,.undef] vs∧H=[X4 la.length lb.length lc.length ld.length,some ⟨1,la⟩,some ⟨1,lb⟩,some ⟨1,lc⟩,some ⟨1,ld⟩,some ⟨1,((la++lb)++lc)++ld⟩]):=by
 have fa:=C4 (k:=0) ua;have fb:=C4 (k:=0) ub;have fc:=C4 (k:=0) uc;have fd:=C4 (k:=0) ud;have sub:∀ {l:List AV},A9 l 0 l.length=l:=fun {l}=>by simp [A9]
 refine Bf (fun j vs H=>∃ i:Nat,i≤4∧j=4 - i∧vs=[.slice false (.rw 5) 0 (Ef la lb lc ld i).length,.slice false (.rw 0) 0 4,.int .i64 4,.int .i64 (i:Int)]∧H=[X4 la.length lb.length lc.length ld.length,some ⟨1,la⟩,some ⟨1,lb⟩,some ⟨1,lc⟩,some ⟨1,ld⟩,some ⟨1,Ef la lb lc ld i⟩]) 4 ⟨0,by omega,rfl,rfl,rfl⟩ ?_;rintro j vs H ⟨i,hi,rfl,rfl,rfl⟩;have hcase:i=0∨i=1∨i=2∨i=3∨i=4:=by omega
 rcases hcase with rfl | rfl | rfl | rfl | rfl
 ·refine D1 (C:=(⟨Try.prog,G,B⟩:A0)) (oP G B) (fuel:=200) (n0:=20) (m:=5) (c:=A2 Try.f55 0) (vs:=[.slice false (.rw 5) (.lit 0) (.var 5 (Ef la lb lc ld 0).length),.slice false (.rw 0) (.lit 0) (.lit 4),.int .i64 (.lit 4),.int .i64 (.lit 0)]) (H:=[some ⟨1,.of [.slice false (.rw 1) (.lit 0) (.var 1 la.length),.slice false (.rw 2) (.lit 0) (.var 2 lb.length),.slice false (.rw 3) (.lit 0) (.var 3 lc.length),.slice false (.rw 4) (.lit 0) (.var 4 ld.length)]⟩,some ⟨1,.var 11 la⟩,some ⟨1,.var 12 lb⟩,some ⟨1,.var 13 lc⟩,some ⟨1,.var 14 ld⟩,some ⟨1,.var 15 (Ef la lb lc ld 0)⟩]) (by simp) ?_
  rw [jr0,sub];refine ⟨B2.2 (zA1 _),L8 ua,B2.2 (by simp [Ef];omega),zA3 _,⟨3,by omega,.inr ⟨_,_,⟨1,by omega,rfl,rfl,rfl⟩,?_⟩⟩⟩
  have:=jnx (m:=la.length) (i:=1) fa fb fc fd (y:=la) fa
  simpa [Ef,X4] using this
 ·refine D1 (C:=(⟨Try.prog,G,B⟩:A0)) (oP G B) (fuel:=200) (n0:=20) (m:=5) (c:=A2 Try.f55 0) (vs:=[.slice false (.rw 5) (.lit 0) (.var 5 (Ef la lb lc ld 1).length),.slice false (.rw 0) (.lit 0) (.lit 4),.int .i64 (.lit 4),.int .i64 (.lit 1)]) (H:=[some ⟨1,.of [.slice false (.rw 1) (.lit 0) (.var 1 la.length),.slice false (.rw 2) (.lit 0) (.var 2 lb.length),.slice false (.rw 3) (.lit 0) (.var 3 lc.length),.slice false (.rw 4) (.lit 0) (.var 4 ld.length)]⟩,some ⟨1,.var 11 la⟩,some ⟨1,.var 12 lb⟩,some ⟨1,.var 13 lc⟩,some ⟨1,.var 14 ld⟩,some ⟨1,.var 15 (Ef la lb lc ld 1)⟩]) (by simp) ?_
  rw [jr1,sub];refine ⟨B2.2 (zA1 _),L8 ub,B2.2 (by simp [Ef];omega),zA3 _,⟨2,by omega,.inr ⟨_,_,⟨2,by omega,rfl,rfl,rfl⟩,?_⟩⟩⟩
  have:=jnx (m:=(la++lb).length) (i:=2) fa fb fc fd (y:=la++lb) (C4 (by simp [E4,ua,ub]))
  simpa [Ef,X4] using this
 ·refine D1 (C:=(⟨Try.prog,G,B⟩:A0)) (oP G B) (fuel:=200) (n0:=20) (m:=5) (c:=A2 Try.f55 0) (vs:=[.slice false (.rw 5) (.lit 0) (.var 5 (Ef la lb lc ld 2).length),.slice false (.rw 0) (.lit 0) (.lit 4),.int .i64 (.lit 4),.int .i64 (.lit 2)]) (H:=[some ⟨1,.of [.slice false (.rw 1) (.lit 0) (.var 1 la.length),.slice false (.rw 2) (.lit 0) (.var 2 lb.length),.slice false (.rw 3) (.lit 0) (.var 3 lc.length),.slice false (.rw 4) (.lit 0) (.var 4 ld.length)]⟩,some ⟨1,.var 11 la⟩,some ⟨1,.var 12 lb⟩,some ⟨1,.var 13 lc⟩,some ⟨1,.var 14 ld⟩,some ⟨1,.var 15 (Ef la lb lc ld 2)⟩]) (by simp) ?_
  rw [jr2,sub];refine ⟨B2.2 (zA1 _),L8 uc,B2.2 (by simp [Ef];omega),zA3 _,⟨1,by omega,.inr ⟨_,_,⟨3,by omega,rfl,rfl,rfl⟩,?_⟩⟩⟩
  have:=jnx (m:=((la++lb)++lc).length) (i:=3) fa fb fc fd (y:=(la++lb)++lc) (C4 (by simp [E4,ua,ub,uc]))
  simpa [Ef,X4,Nat.add_assoc] using this
 ·refine D1 (C:=(⟨Try.prog,G,B⟩:A0)) (oP G B) (fuel:=200) (n0:=20) (m:=5) (c:=A2 Try.f55 0) (vs:=[.slice false (.rw 5) (.lit 0) (.var 5 (Ef la lb lc ld 3).length),.slice false (.rw 0) (.lit 0) (.lit 4),.int .i64 (.lit 4),.int .i64 (.lit 3)]) (H:=[some ⟨1,.of [.slice false (.rw 1) (.lit 0) (.var 1 la.length),.slice false (.rw 2) (.lit 0) (.var 2 lb.length),.slice false (.rw 3) (.lit 0) (.var 3 lc.length),.slice false (.rw 4) (.lit 0) (.var 4 ld.length)]⟩,some ⟨1,.var 11 la⟩,some ⟨1,.var 12 lb⟩,some ⟨1,.var 13 lc⟩,some ⟨1,.var 14 ld⟩,some ⟨1,.var 15 (Ef la lb lc ld 3)⟩]) (by simp) ?_
  rw [jr3,sub];refine ⟨B2.2 (zA1 _),L8 ud,B2.2 (by simp [Ef];omega),zA3 _,⟨0,by omega,.inr ⟨_,_,⟨4,by omega,rfl,rfl,rfl⟩,?_⟩⟩⟩
  have:=jnx (m:=(((la++lb)++lc)++ld).length) (i:=4) fa fb fc fd (y:=((la++lb)++lc)++ld) (C4 (by simp [E4,ua,ub,uc,ud]))
  simpa [Ef,X4,Nat.add_assoc] using this
 ·refine D1 (C:=(⟨Try.prog,G,B⟩:A0)) (oP G B) (fuel:=200) (n0:=20) (m:=5) (c:=A2 Try.f55 0) (vs:=[.slice false (.rw 5) (.lit 0) (.var 5 (Ef la lb lc ld 4).length),.slice false (.rw 0) (.lit 0) (.lit 4),.int .i64 (.lit 4),.int .i64 (.lit 4)]) (H:=[some ⟨1,.of [.slice false (.rw 1) (.lit 0) (.var 1 la.length),.slice false (.rw 2) (.lit 0) (.var 2 lb.length),.slice false (.rw 3) (.lit 0) (.var 3 lc.length),.slice false (.rw 4) (.lit 0) (.var 4 ld.length)]⟩,some ⟨1,.var 11 la⟩,some ⟨1,.var 12 lb⟩,some ⟨1,.var 13 lc⟩,some ⟨1,.var 14 ld⟩,some ⟨1,.var 15 (Ef la lb lc ld 4)⟩]) (by simp) ?_
  rw [jr4];exact ⟨rfl,by simp [wk,Ef],rfl⟩
def jbL:DL:=⟨0,18,[3,7,8,9],fun vs H=>match vs,H with
 | [.slice false (.rw 5) (.lit 0) (.lit 0),.slice false (.rw 0) (.lit 0) (.lit 4),.int .i64 (.lit 4),.int .i64 (.lit 0)],
  [some ⟨1,.of [.slice false (.rw 1) (.lit 0) na,.slice false (.rw 2) (.lit 0) nb,.slice false (.rw 3) (.lit 0) nc,.slice false (.rw 4) (.lit 0) nd]⟩,some ⟨1,la⟩,some ⟨1,lb⟩,some ⟨1,lc⟩,some ⟨1,ld⟩,some ⟨1,.of []⟩]=>
  some (.chk (.eqN (.len la) na)<|.chk (.eqN (.len lb) nb)<|.chk (.eqN (.len lc) nc)<|.chk (.eqN (.len ld) nd)<|.chk (.u8s la)<|.chk (.u8s lb)<|.chk (.u8s lc)<|.chk (.u8s ld)<|.chk (.leN (.add (.add (.add na nb) nc) nd) (.lit 1099511627776)) <|
   .one (.exit 0) [.slice false (.rw 5) (.lit 0) (.len (.app (.app (.app la lb) lc) ld)),.undef,.undef,.undef]
    [some ⟨1,.of [.slice false (.rw 1) (.lit 0) na,.slice false (.rw 2) (.lit 0) nb,.slice false (.rw 3) (.lit 0) nc,.slice false (.rw 4) (.lit 0) nd]⟩,some ⟨1,la⟩,some ⟨1,lb⟩,some ⟨1,lc⟩,some ⟨1,ld⟩,some ⟨1,.app (.app (.app la lb) lc) ld⟩])
 | _,_=>none⟩
theorem jbL_ok :H5 (⟨Try.prog,G,B⟩:A0) 5 (A2 Try.f55 0) jbL:=by
 refine .of fun vs H o ho n Q hQ=>?_;simp only [jbL] at ho;split at ho
 ·rename_i na nb nc nd la lb lc ld;simp only [zK] at ho;subst ho;obtain ⟨h1,h2,h3,h4,h5,h6,h7,h8,h9,hh⟩:=hQ;simp only [vB,vN] at h1 h2 h3 h4 h5 h6 h7 h8 h9;have e1:=yV h1;have e2:=yV h2;have e3:=yV h3;have e4:=yV h4;refine lone ?_ hh;simp only [jbL,vVs,vV,vR,vN,vI,vL,B7,List.map_cons,List.map_nil,Option.map_some,D8];have h9:=B2.1 h9;have key:=aY5 G B (vL G la) (vL G lb) (vL G lc) (vL G ld) h5 h6 h7 h8 (by omega);rw [X4,e1,e2,e3,e4] at key;exact key
 ·simp at ho
theorem dgJB :L6 (⟨Try.prog,G,B⟩:A0) (Dc Try.prog [] [] [jbL] 5) (B5 (C6 Try.f55)):=D7 (mix G B) (by kernel_rfl) .nil (.cast (.cons (i:=0) (by kernel_rfl) rfl (jbL_ok G B) .nil) (by kernel_rfl))
theorem w10b (la lb lc ld:List AV) (na nb nc nd:Nat) (Q:Ex→List AV→Hp→Prop) (R:AV→Hp→Prop):vT G Q R (G0 (Dc Try.prog [] [] [jbL] 5) 200 20 Try.f55 [.slice false (.rw 0) (.lit 0) (.lit 4)] [some ⟨1,.of [.slice false (.rw 1) (.lit 0) (.var 1 na),.slice false (.rw 2) (.lit 0) (.var 2 nb),.slice false (.rw 3) (.lit 0) (.var 3 nc),.slice false (.rw 4) (.lit 0) (.var 4 nd)]⟩,some ⟨1,.var 11 la⟩,some ⟨1,.var 12 lb⟩,some ⟨1,.var 13 lc⟩,some ⟨1,.var 14 ld⟩] 6)=(
  Nat.beq (List.length la) na=true∧Nat.beq (List.length lb) nb=true∧Nat.beq (List.length lc) nc=true∧Nat.beq (List.length ld) nd=true∧u8s la=true∧u8s lb=true∧u8s lc=true∧u8s ld=true∧leB (na+nb+nc+nd) 1099511627776=true∧R (.slice false (.rw 5) 0 (List.length (((la++lb)++lc)++ld))) [some ⟨1,([.slice false (.rw 1) 0 na,.slice false (.rw 2) 0 nb,.slice false (.rw 3) 0 nc,.slice false (.rw 4) 0 nd]:List AV)⟩,some ⟨1,la⟩,some ⟨1,lb⟩,some ⟨1,lc⟩,some ⟨1,ld⟩,some ⟨1,(((la++lb)++lc)++ld)⟩]):=by kernel_rfl
theorem aY4 (la lb lc ld:List AV) (ua:u8s la=true) (ub:u8s lb=true) (uc:u8s lc=true) (ud:u8s ld=true) (ht:la.length+lb.length+lc.length+ld.length≤1099511627776) :
  ACalls (⟨Try.prog,G,B⟩:A0) 55 [.slice false (.rw 0) 0 4] [X4 la.length lb.length lc.length ld.length,some ⟨1,la⟩,some ⟨1,lb⟩,some ⟨1,lc⟩,some ⟨1,ld⟩] fun v' H'=>v'=.slice false (.rw 5) 0 (((la++lb)++lc)++ld).length∧H'=[X4 la.length lb.length lc.length ld.length,some ⟨1,la⟩,some ⟨1,lb⟩,some ⟨1,lc⟩,some ⟨1,ld⟩,some ⟨1,((la++lb)++lc)++ld⟩]:=by
 have f:∀ {l:List AV} {j:Nat},u8s l=true→A3 j l=true:=fun h=>C4 h
 have key:=C1 (C:=(⟨Try.prog,G,B⟩:A0)) (fn:=Try.f55) (f:=55) (R:=fun v' H'=>v'=.slice false (.rw 5) 0 (((la++lb)++lc)++ld).length∧H'=[X4 la.length lb.length lc.length ld.length,some ⟨1,la⟩,some ⟨1,lb⟩,some ⟨1,lc⟩,some ⟨1,ld⟩,some ⟨1,((la++lb)++lc)++ld⟩]) (dgJB G B) (by kernel_rfl) (by kernel_rfl) (by kernel_rfl) (fuel:=200) (n0:=20) (keep:=6) (args:=[.slice false (.rw 0) (.lit 0) (.lit 4)])
  (H:=[some ⟨1,.of [.slice false (.rw 1) (.lit 0) (.var 1 la.length),.slice false (.rw 2) (.lit 0) (.var 2 lb.length),.slice false (.rw 3) (.lit 0) (.var 3 lc.length),.slice false (.rw 4) (.lit 0) (.var 4 ld.length)]⟩,some ⟨1,.var 11 la⟩,some ⟨1,.var 12 lb⟩,some ⟨1,.var 13 lc⟩,some ⟨1,.var 14 ld⟩]) (by
  rw [w10b]
  exact ⟨zA3 _,zA3 _,zA3 _,zA3 _,ua,ub,uc,ud,B2.2 ht,rfl,rfl⟩)
 exact ACalls.keep (H:=[X4 la.length lb.length lc.length ld.length,some ⟨1,la⟩,some ⟨1,lb⟩,some ⟨1,lc⟩,some ⟨1,ld⟩]) (H1:=[X4 la.length lb.length lc.length ld.length,some ⟨1,la⟩,some ⟨1,lb⟩,some ⟨1,lc⟩,some ⟨1,ld⟩,some ⟨1,((la++lb)++lc)++ld⟩]) key (by simp) (by simp [H9,X4,A3,A8,f ua,f ub,f uc,f ud,C4,E4,ua,ub,uc,ud]) (by simp [A8]) (by simp)
def ndB:List Nat→Bool
 | []=>true
 | x::l=>!(l.any (Nat.beq x))&&ndB l
theorem mU:∀ {l:List Nat},ndB l=true→l.Nodup
 | [],_=>by simp
 | x::l,h=>by
  simp only [ndB,zN,Bool.not_eq_true'] at h;rw [List.nodup_cons];refine ⟨fun hm=>?_,mU h.2⟩
  have:=List.any_eq_false.1 h.1 x hm
  simp at this
def joinB:DSum:=fun xs H=>match xs with
 | [.slice false (.rw j) (.lit 0) (.lit 4)]=>match H[j]? with
  | some (some ⟨1,.of [.slice false (.rw a) (.lit 0) na,.slice false (.rw b) (.lit 0) nb,.slice false (.rw c) (.lit 0) nc,.slice false (.rw d) (.lit 0) nd]⟩)=>match H[a]?,H[b]?,H[c]?,H[d]?,ndB [j,a,b,c,d] with
   | some (some ⟨1,la⟩),some (some ⟨1,lb⟩),some (some ⟨1,lc⟩),some (some ⟨1,ld⟩),true=>
    some (.chk (.eqN (.len la) na)<|.chk (.eqN (.len lb) nb)<|.chk (.eqN (.len lc) nc)<|.chk (.eqN (.len ld) nd)<|.chk (.u8s la)<|.chk (.u8s lb)<|.chk (.u8s lc)<|.chk (.u8s ld)<|.chk (.leN (.add (.add (.add na nb) nc) nd) (.lit 1099511627776)) <|
     .one (.slice false (.rw H.length) (.lit 0) (.len (.app (.app (.app la lb) lc) ld))) [.new ⟨1,.app (.app (.app la lb) lc) ld⟩])
   | _,_,_,_,_=>none
  | _=>none
 | _=>none
theorem aK5 :D4 (⟨Try.prog,G,B⟩:A0) 55 joinB:=by
 intro xs H o ho;simp only [joinB] at ho;split at ho
 ·rename_i j;split at ho
  ·rename_i a na b nb c nc d nd hj;split at ho
   ·rename_i la lb lc ld ha hb hc hd hnd;simp only [zK] at ho;subst ho;intro h1 h2 h3 h4 h5 h6 h7 h8 h9;simp only [vB,vN] at h1 h2 h3 h4 h5 h6 h7 h8 h9;have e1:=yV h1;have e2:=yV h2;have e3:=yV h3;have e4:=yV h4;have h9:=B2.1 h9;have f:∀ {l:List AV} {j:Nat},u8s l=true→A3 j l=true:=fun h=>C4 h;have key:=aY4 G B (vL G la) (vL G lb) (vL G lc) (vL G ld) h5 h6 h7 h8 (by omega)
    have live:∀ {i:Nat} {l:EL},H[i]?=some (some ⟨1,l⟩)→u8s (vL G l)=true→(B7 G H)[i]?=some (some (K3 [j,a,b,c,d] ⟨1,vL G l⟩)):=fun hi hu=>by
     have:=I3 (G:=G) hi
     simpa [K3,D8,B9 _ _ (f (j:=0) hu)] using this
    refine E0.newN (C:=(⟨Try.prog,G,B⟩:A0)) (θ:=[j,a,b,c,d]) (b:=⟨1,.app (.app (.app la lb) lc) ld⟩) (mU hnd) rfl (fun k x hk=>?_) (by simp [A3,A8]) (by simp [vVs,vV,vR,vN,rens,C0]) key (by simp only [vL];exact f (by simp [E4,h5,h6,h7,h8])) (by simp [A8]) (by simp [vV,vR,vN,vL,C0,N7])
    match k with
    | 0=>
     simp [X4] at hk;subst hk;refine ⟨_,rfl,by simp [A3,A8],?_⟩
     have:=I3 (G:=G) hj
     simpa [K3,D8,vL,vVs,vV,vR,vN,rens,C0,e1,e2,e3,e4] using this
    | 1=>simp at hk;subst hk;exact ⟨_,rfl,f h5,by simpa using live ha h5⟩
    | 2=>simp at hk;subst hk;exact ⟨_,rfl,f h6,by simpa using live hb h6⟩
    | 3=>simp at hk;subst hk;exact ⟨_,rfl,f h7,by simpa using live hc h7⟩
    | 4=>simp at hk;subst hk;exact ⟨_,rfl,f h8,by simpa using live hd h8⟩
    | k+5=>simp at hk
   ·simp at ho
  ·simp at ho
 ·simp at ho
end
section
variable (G:Nat→List AV) (B:Nat)
theorem jp0 (la lb s:List AV) (na nb l:Nat) (Q:Ex→List AV→Hp→Prop) (R:AV→Hp→Prop):vT G Q R (G3 (Dc Try.prog [] [] [] 3) 200 20 3 (A2 Try.f55 0) 18 [3,7,8,9] [.slice false (.rw 3) (.lit 0) (.var 5 l),.slice false (.rw 0) (.lit 0) (.lit 2),.int .i64 (.lit 2),.int .i64 (.lit 0)] [some ⟨1,.of [.slice false (.rw 1) (.lit 0) (.var 1 na),.slice false (.rw 2) (.lit 0) (.var 2 nb)]⟩,some ⟨1,.var 11 la⟩,some ⟨1,.var 12 lb⟩,some ⟨1,.var 15 s⟩])=(
  leB na (List.length la)=true∧cellsB (A9 la 0 na)=true∧leB (l+na) 140737488355328=true∧Nat.beq (List.length s) l=true∧Q .normal [.slice false (.rw 4) 0 (l+na),.slice false (.rw 0) 0 2,.int .i64 2,.int .i64 1] [some ⟨1,([.slice false (.rw 1) 0 na,.slice false (.rw 2) 0 nb]:List AV)⟩,some ⟨1,la⟩,some ⟨1,lb⟩,none,some ⟨1,(s++(A9 la 0 na))⟩]):=by kernel_rfl
theorem jp1 (la lb s:List AV) (na nb l:Nat) (Q:Ex→List AV→Hp→Prop) (R:AV→Hp→Prop):vT G Q R (G3 (Dc Try.prog [] [] [] 3) 200 20 3 (A2 Try.f55 0) 18 [3,7,8,9] [.slice false (.rw 3) (.lit 0) (.var 5 l),.slice false (.rw 0) (.lit 0) (.lit 2),.int .i64 (.lit 2),.int .i64 (.lit 1)] [some ⟨1,.of [.slice false (.rw 1) (.lit 0) (.var 1 na),.slice false (.rw 2) (.lit 0) (.var 2 nb)]⟩,some ⟨1,.var 11 la⟩,some ⟨1,.var 12 lb⟩,some ⟨1,.var 15 s⟩])=(
  leB nb (List.length lb)=true∧cellsB (A9 lb 0 nb)=true∧leB (l+nb) 140737488355328=true∧Nat.beq (List.length s) l=true∧Q .normal [.slice false (.rw 4) 0 (l+nb),.slice false (.rw 0) 0 2,.int .i64 2,.int .i64 2] [some ⟨1,([.slice false (.rw 1) 0 na,.slice false (.rw 2) 0 nb]:List AV)⟩,some ⟨1,la⟩,some ⟨1,lb⟩,none,some ⟨1,(s++(A9 lb 0 nb))⟩]):=by kernel_rfl
theorem jp2 (la lb s:List AV) (na nb l:Nat) (Q:Ex→List AV→Hp→Prop) (R:AV→Hp→Prop):vT G Q R (G3 (Dc Try.prog [] [] [] 3) 200 20 3 (A2 Try.f55 0) 18 [3,7,8,9] [.slice false (.rw 3) (.lit 0) (.var 5 l),.slice false (.rw 0) (.lit 0) (.lit 2),.int .i64 (.lit 2),.int .i64 (.lit 2)] [some ⟨1,.of [.slice false (.rw 1) (.lit 0) (.var 1 na),.slice false (.rw 2) (.lit 0) (.var 2 nb)]⟩,some ⟨1,.var 11 la⟩,some ⟨1,.var 12 lb⟩,some ⟨1,.var 15 s⟩])=(
  Q (.exit 0) [.slice false (.rw 3) 0 l,.slice false (.rw 0) 0 2,.int .i64 2,.int .i64 2] [some ⟨1,([.slice false (.rw 1) 0 na,.slice false (.rw 2) 0 nb]:List AV)⟩,some ⟨1,la⟩,some ⟨1,lb⟩,some ⟨1,s⟩]):=by kernel_rfl
theorem dg03 :L6 (⟨Try.prog,G,B⟩:A0) (Dc Try.prog [] [] [] 3) []:=D7 (mix G B) (by kernel_rfl) .nil .nil
def Ab (na nb:Nat):Option Blk:=some ⟨1,[.slice false (.rw 1) 0 na,.slice false (.rw 2) 0 nb]⟩
theorem jnp {la lb y:List AV} {m:Nat} {i:Int} (ha:A3 0 la=true) (hb:A3 0 lb=true) (hy:A3 0 y=true) :
  C2 3 [.slice false (.rw 3) 0 m,.slice false (.rw 0) 0 2,.int .i64 2,.int .i64 i] [Ab la.length lb.length,some ⟨1,la⟩,some ⟨1,lb⟩,some ⟨1,y⟩] [.slice false (.rw 4) 0 m,.slice false (.rw 0) 0 2,.int .i64 2,.int .i64 i] [Ab la.length lb.length,some ⟨1,la⟩,some ⟨1,lb⟩,none,some ⟨1,y⟩]:=by
 have f:∀ {l:List AV},A3 0 l=true→A3 4 l=true∧some (some (⟨1,l⟩:Blk))=some (some ⟨1,rens [0,1,2,4] l⟩):=fun h=>⟨G6 (zA2 _) _ h,by rw [B9 _ _ h]⟩;refine C2.renM (θ:=[0,1,2,4]) (by simp) (fun i hi=>?_) (by decide) ⟨⟨by simp [A3,A8],by simp [rens,C0,Ab]⟩,f ha,f hb,f hy,trivial⟩ (by simp [A3,A8]) (by simp [rens,C0,wk])
 have:i=0∨i=1∨i=2:=by omega
 rcases this with rfl | rfl | rfl<;>rfl
def Pz (la lb:List AV):Nat→List AV
 | 0=>[]
 | 1=>la
 | _=>la++lb
theorem aY2 (la lb:List AV) (ua:u8s la=true) (ub:u8s lb=true) (ht:la.length+lb.length≤1099511627776) :
  AWp (⟨Try.prog,G,B⟩:A0) 3 (.loop (A2 Try.f55 0)) (fl 18 [3,7,8,9] [.slice false (.rw 3) 0 0,.slice false (.rw 0) 0 2,.int .i64 2,.int .i64 0]) [Ab la.length lb.length,some ⟨1,la⟩,some ⟨1,lb⟩,some ⟨1,[]⟩]
   (lv 18 [3,7,8,9] fun e vs H=>e=.exit 0∧wk [.slice false (.rw 3) 0 (la++lb).length,.undef,.undef,.undef] vs∧H=[Ab la.length lb.length,some ⟨1,la⟩,some ⟨1,lb⟩,some ⟨1,la++lb⟩]):=by
 have fa:=C4 (k:=0) ua;have fb:=C4 (k:=0) ub;have sub:∀ {l:List AV},A9 l 0 l.length=l:=fun {l}=>by simp [A9]
 refine Bf (fun j vs H=>∃ i:Nat,i≤2∧j=2 - i∧vs=[.slice false (.rw 3) 0 (Pz la lb i).length,.slice false (.rw 0) 0 2,.int .i64 2,.int .i64 (i:Int)]∧H=[Ab la.length lb.length,some ⟨1,la⟩,some ⟨1,lb⟩,some ⟨1,Pz la lb i⟩]) 2 ⟨0,by omega,rfl,rfl,rfl⟩ ?_;rintro j vs H ⟨i,hi,rfl,rfl,rfl⟩;have hcase:i=0∨i=1∨i=2:=by omega
 rcases hcase with rfl | rfl | rfl
 ·refine D1 (C:=(⟨Try.prog,G,B⟩:A0)) (dg03 G B) (fuel:=200) (n0:=20) (m:=3) (c:=A2 Try.f55 0) (vs:=[.slice false (.rw 3) (.lit 0) (.var 5 (Pz la lb 0).length),.slice false (.rw 0) (.lit 0) (.lit 2),.int .i64 (.lit 2),.int .i64 (.lit 0)]) (H:=[some ⟨1,.of [.slice false (.rw 1) (.lit 0) (.var 1 la.length),.slice false (.rw 2) (.lit 0) (.var 2 lb.length)]⟩,some ⟨1,.var 11 la⟩,some ⟨1,.var 12 lb⟩,some ⟨1,.var 15 (Pz la lb 0)⟩]) (by simp) ?_;rw [jp0,sub]
  refine ⟨B2.2 (zA1 _),L8 ua,B2.2 (by simp [Pz];omega),zA3 _,⟨1,by omega,.inr ⟨_,_,⟨1,by omega,rfl,rfl,rfl⟩,?_⟩⟩⟩
  have:=jnp (m:=la.length) (i:=1) fa fb (y:=la) fa
  simpa [Pz,Ab] using this
 ·refine D1 (C:=(⟨Try.prog,G,B⟩:A0)) (dg03 G B) (fuel:=200) (n0:=20) (m:=3) (c:=A2 Try.f55 0) (vs:=[.slice false (.rw 3) (.lit 0) (.var 5 (Pz la lb 1).length),.slice false (.rw 0) (.lit 0) (.lit 2),.int .i64 (.lit 2),.int .i64 (.lit 1)]) (H:=[some ⟨1,.of [.slice false (.rw 1) (.lit 0) (.var 1 la.length),.slice false (.rw 2) (.lit 0) (.var 2 lb.length)]⟩,some ⟨1,.var 11 la⟩,some ⟨1,.var 12 lb⟩,some ⟨1,.var 15 (Pz la lb 1)⟩]) (by simp) ?_;rw [jp1,sub]
  refine ⟨B2.2 (zA1 _),L8 ub,B2.2 (by simp [Pz];omega),zA3 _,⟨0,by omega,.inr ⟨_,_,⟨2,by omega,rfl,rfl,rfl⟩,?_⟩⟩⟩
  have:=jnp (m:=(la++lb).length) (i:=2) fa fb (y:=la++lb) (C4 (by simp [E4,ua,ub]))
  simpa [Pz,Ab,Nat.add_assoc] using this
 ·refine D1 (C:=(⟨Try.prog,G,B⟩:A0)) (dg03 G B) (fuel:=200) (n0:=20) (m:=3) (c:=A2 Try.f55 0) (vs:=[.slice false (.rw 3) (.lit 0) (.var 5 (Pz la lb 2).length),.slice false (.rw 0) (.lit 0) (.lit 2),.int .i64 (.lit 2),.int .i64 (.lit 2)]) (H:=[some ⟨1,.of [.slice false (.rw 1) (.lit 0) (.var 1 la.length),.slice false (.rw 2) (.lit 0) (.var 2 lb.length)]⟩,some ⟨1,.var 11 la⟩,some ⟨1,.var 12 lb⟩,some ⟨1,.var 15 (Pz la lb 2)⟩]) (by simp) ?_;rw [jp2];exact ⟨rfl,by simp [wk,Pz],rfl⟩
def jpL:DL:=⟨0,18,[3,7,8,9],fun vs H=>match vs,H with
 | [.slice false (.rw 3) (.lit 0) (.lit 0),.slice false (.rw 0) (.lit 0) (.lit 2),.int .i64 (.lit 2),.int .i64 (.lit 0)],
  [some ⟨1,.of [.slice false (.rw 1) (.lit 0) na,.slice false (.rw 2) (.lit 0) nb]⟩,some ⟨1,la⟩,some ⟨1,lb⟩,some ⟨1,.of []⟩]=>
  some (.chk (.eqN (.len la) na)<|.chk (.eqN (.len lb) nb)<|.chk (.u8s la)<|.chk (.u8s lb)<|.chk (.leN (.add na nb) (.lit 1099511627776)) <|
   .one (.exit 0) [.slice false (.rw 3) (.lit 0) (.len (.app la lb)),.undef,.undef,.undef]
    [some ⟨1,.of [.slice false (.rw 1) (.lit 0) na,.slice false (.rw 2) (.lit 0) nb]⟩,some ⟨1,la⟩,some ⟨1,lb⟩,some ⟨1,.app la lb⟩])
 | _,_=>none⟩
theorem jpL_ok :H5 (⟨Try.prog,G,B⟩:A0) 3 (A2 Try.f55 0) jpL:=by
 refine .of fun vs H o ho n Q hQ=>?_;simp only [jpL] at ho;split at ho
 ·rename_i na nb la lb;simp only [zK] at ho;subst ho;obtain ⟨h1,h2,h5,h6,h9,hh⟩:=hQ;simp only [vB,vN] at h1 h2 h5 h6 h9;have e1:=yV h1;have e2:=yV h2;refine lone ?_ hh;simp only [jpL,vVs,vV,vR,vN,vI,vL,B7,List.map_cons,List.map_nil,Option.map_some,D8];have h9:=B2.1 h9;have key:=aY2 G B (vL G la) (vL G lb) h5 h6 (by omega);rw [Ab,e1,e2] at key;exact key
 ·simp at ho
theorem dgJP :L6 (⟨Try.prog,G,B⟩:A0) (Dc Try.prog [] [] [jpL] 3) (B5 (C6 Try.f55)):=D7 (mix G B) (by kernel_rfl) .nil (.cast (.cons (i:=0) (by kernel_rfl) rfl (jpL_ok G B) .nil) (by kernel_rfl))
theorem t55p (la lb:List AV) (na nb:Nat) (Q:Ex→List AV→Hp→Prop) (R:AV→Hp→Prop):vT G Q R (G0 (Dc Try.prog [] [] [jpL] 3) 200 20 Try.f55 [.slice false (.rw 0) (.lit 0) (.lit 2)] [some ⟨1,.of [.slice false (.rw 1) (.lit 0) (.var 1 na),.slice false (.rw 2) (.lit 0) (.var 2 nb)]⟩,some ⟨1,.var 11 la⟩,some ⟨1,.var 12 lb⟩] 4)=(
  Nat.beq (List.length la) na=true∧Nat.beq (List.length lb) nb=true∧u8s la=true∧u8s lb=true∧leB (na+nb) 1099511627776=true∧R (.slice false (.rw 3) 0 (List.length (la++lb))) [some ⟨1,([.slice false (.rw 1) 0 na,.slice false (.rw 2) 0 nb]:List AV)⟩,some ⟨1,la⟩,some ⟨1,lb⟩,some ⟨1,(la++lb)⟩]):=by kernel_rfl
theorem aY3 (la lb:List AV) (ua:u8s la=true) (ub:u8s lb=true) (ht:la.length+lb.length≤1099511627776) :
  ACalls (⟨Try.prog,G,B⟩:A0) 55 [.slice false (.rw 0) 0 2] [Ab la.length lb.length,some ⟨1,la⟩,some ⟨1,lb⟩] fun v' H'=>v'=.slice false (.rw 3) 0 (la++lb).length∧H'=[Ab la.length lb.length,some ⟨1,la⟩,some ⟨1,lb⟩,some ⟨1,la++lb⟩]:=by
 have f:∀ {l:List AV} {j:Nat},u8s l=true→A3 j l=true:=fun h=>C4 h
 have key:=C1 (C:=(⟨Try.prog,G,B⟩:A0)) (fn:=Try.f55) (f:=55) (R:=fun v' H'=>v'=.slice false (.rw 3) 0 (la++lb).length∧H'=[Ab la.length lb.length,some ⟨1,la⟩,some ⟨1,lb⟩,some ⟨1,la++lb⟩]) (dgJP G B) (by kernel_rfl) (by kernel_rfl) (by kernel_rfl) (fuel:=200) (n0:=20) (keep:=4) (args:=[.slice false (.rw 0) (.lit 0) (.lit 2)])
  (H:=[some ⟨1,.of [.slice false (.rw 1) (.lit 0) (.var 1 la.length),.slice false (.rw 2) (.lit 0) (.var 2 lb.length)]⟩,some ⟨1,.var 11 la⟩,some ⟨1,.var 12 lb⟩]) (by
  rw [t55p]
  exact ⟨zA3 _,zA3 _,ua,ub,B2.2 ht,rfl,rfl⟩)
 exact ACalls.keep (H:=[Ab la.length lb.length,some ⟨1,la⟩,some ⟨1,lb⟩]) (H1:=[Ab la.length lb.length,some ⟨1,la⟩,some ⟨1,lb⟩,some ⟨1,la++lb⟩]) key (by simp) (by simp [H9,Ab,A3,A8,f ua,f ub,C4,E4,ua,ub]) (by simp [A8]) (by simp)
def joinP:DSum:=fun xs H=>match xs with
 | [.slice false (.rw j) (.lit 0) (.lit 2)]=>match H[j]? with
  | some (some ⟨1,.of [.slice false (.rw a) (.lit 0) na,.slice false (.rw b) (.lit 0) nb]⟩)=>match H[a]?,H[b]?,ndB [j,a,b] with
   | some (some ⟨1,la⟩),some (some ⟨1,lb⟩),true=>
    some (.chk (.eqN (.len la) na)<|.chk (.eqN (.len lb) nb)<|.chk (.u8s la)<|.chk (.u8s lb)<|.chk (.leN (.add na nb) (.lit 1099511627776)) <|
     .one (.slice false (.rw H.length) (.lit 0) (.len (.app la lb))) [.new ⟨1,.app la lb⟩])
   | _,_,_=>none
  | _=>none
 | xs=>joinB xs H
theorem aK4 :D4 (⟨Try.prog,G,B⟩:A0) 55 joinP:=by
 intro xs H o ho;simp only [joinP] at ho;split at ho
 ·rename_i j;split at ho
  ·rename_i a na b nb hj;split at ho
   ·rename_i la lb ha hb hnd;simp only [zK] at ho;subst ho;intro h1 h2 h5 h6 h9;simp only [vB,vN] at h1 h2 h5 h6 h9;have e1:=yV h1;have e2:=yV h2;have h9:=B2.1 h9;have f:∀ {l:List AV} {j:Nat},u8s l=true→A3 j l=true:=fun h=>C4 h;have key:=aY3 G B (vL G la) (vL G lb) h5 h6 (by omega)
    have live:∀ {i:Nat} {l:EL},H[i]?=some (some ⟨1,l⟩)→u8s (vL G l)=true→(B7 G H)[i]?=some (some (K3 [j,a,b] ⟨1,vL G l⟩)):=fun hi hu=>by
     have:=I3 (G:=G) hi
     simpa [K3,D8,B9 _ _ (f (j:=0) hu)] using this
    refine E0.newN (C:=(⟨Try.prog,G,B⟩:A0)) (θ:=[j,a,b]) (b:=⟨1,.app la lb⟩) (mU hnd) rfl (fun k x hk=>?_) (by simp [A3,A8]) (by simp [vVs,vV,vR,vN,rens,C0]) key (by simp only [vL];exact f (by simp [E4,h5,h6])) (by simp [A8]) (by simp [vV,vR,vN,vL,C0,N7])
    match k with
    | 0=>
     simp [Ab] at hk;subst hk;refine ⟨_,rfl,by simp [A3,A8],?_⟩
     have:=I3 (G:=G) hj
     simpa [K3,D8,vL,vVs,vV,vR,vN,rens,C0,e1,e2] using this
    | 1=>simp at hk;subst hk;exact ⟨_,rfl,f h5,by simpa using live ha h5⟩
    | 2=>simp at hk;subst hk;exact ⟨_,rfl,f h6,by simpa using live hb h6⟩
    | k+3=>simp at hk
   ·simp at ho
  ·simp at ho
 ·exact aK5 G B xs H o ho
end
theorem dat_at {G:Nat→List AV} {ks kp n m j:Nat} (hb:T2 G ks kp n m) (hw:Gx G ks kp n m) (hj:j<n):G (C8 (G ks) (j*4+2))=O2 (dB G (G ks) j)∧(dB G (G ks) j).length=sN (G ks) j∧Ao (dB G (G ks) j)∧E9 (G ks) (j*4+2)=0:=by
 obtain ⟨b,h1,h2⟩:=hb.dat j hj;have h3:=Lj hb j hj;have h4:=Oc h2;unfold dB0 at h3;rw [if_pos hj] at h3;refine ⟨by rw [hw.dat j hj,h2,h4],h3,by rw [h4];exact h1,hw.off j hj⟩
def progP:List (Nat×DSum):=[(56,eV false),(71,eV true),(82,cM false),(72,cM true),(83,flagS),(73,flagS),(55,joinP)]
theorem t52 (G:Nat→List AV) (a r y:Int) (k o l:Nat) (Q:Ex→List AV→Hp→Prop) (R:AV→Hp→Prop):vT G Q R (G0 (Dc Try.prog [] progP [] 0) 300 20 Try.f52 [.agg (.of [.int .i64 (.var 11 a),.int .i64 (.var 12 r),.slice true (.ro (.var 13 k)) (.var 14 o) (.var 15 l),.int .i64 (.var 16 y)])] [] 8)=(
  inU64 [.int .u64 (IntKind.wrap .u64 a)]=true∧inU64 [.int .u64 (IntKind.wrap .u64 r)]=true∧leB l 1099511627776=true∧leB (o+l) (List.length (G k))=true∧u8s (G k)=true∧u8s (A9 (G k) o l)=true∧inU64 [.int .u64 (IntKind.wrap .u64 y)]=true∧Nat.beq (List.length (B3 (A6 [.int .u64 (IntKind.wrap .u64 a)]))) (List.length (A6 [.int .u64 (IntKind.wrap .u64 a)]))=true∧Nat.beq (List.length (B3 (A6 [.int .u64 (IntKind.wrap .u64 r)]))) (List.length (A6 [.int .u64 (IntKind.wrap .u64 r)]))=true∧Nat.beq (List.length ((B3 (A6 [.int .u64 ((l:Int))]))++(A9 (G k) o l))) (List.length (A6 [.int .u64 ((l:Int))])+l)=true∧Nat.beq (List.length (B3 (A6 [.int .u64 (IntKind.wrap .u64 y)]))) (List.length (A6 [.int .u64 (IntKind.wrap .u64 y)]))=true∧u8s (B3 (A6 [.int .u64 (IntKind.wrap .u64 a)]))=true∧u8s (B3 (A6 [.int .u64 (IntKind.wrap .u64 r)]))=true∧u8s ((B3 (A6 [.int .u64 ((l:Int))]))++(A9 (G k) o l))=true∧u8s (B3 (A6 [.int .u64 (IntKind.wrap .u64 y)]))=true∧leB (List.length (A6 [.int .u64 (IntKind.wrap .u64 a)])+List.length (A6 [.int .u64 (IntKind.wrap .u64 r)])+(List.length (A6 [.int .u64 ((l:Int))])+l)+List.length (A6 [.int .u64 (IntKind.wrap .u64 y)])) 1099511627776=true∧
 R (.slice false (.rw 6) 0 (List.length ((((B3 (A6 [.int .u64 (IntKind.wrap .u64 a)]))++(B3 (A6 [.int .u64 (IntKind.wrap .u64 r)])))++((B3 (A6 [.int .u64 ((l:Int))]))++(A9 (G k) o l)))++(B3 (A6 [.int .u64 (IntKind.wrap .u64 y)]))))) [some ⟨1,([.int .i64 a,.int .i64 r,.slice true (.ro k) o l,.int .i64 y]:List AV)⟩,some ⟨1,(B3 (A6 [.int .u64 (IntKind.wrap .u64 a)]))⟩,some ⟨1,(B3 (A6 [.int .u64 (IntKind.wrap .u64 r)]))⟩,some ⟨1,((B3 (A6 [.int .u64 ((l:Int))]))++(A9 (G k) o l))⟩,some ⟨1,(B3 (A6 [.int .u64 (IntKind.wrap .u64 y)]))⟩,some ⟨1,([.slice false (.rw 1) 0 (List.length (A6 [.int .u64 (IntKind.wrap .u64 a)])),.slice false (.rw 2) 0 (List.length (A6 [.int .u64 (IntKind.wrap .u64 r)])),.slice false (.rw 3) 0 (List.length (A6 [.int .u64 ((l:Int))])+l),.slice false (.rw 4) 0 (List.length (A6 [.int .u64 (IntKind.wrap .u64 y)]))]:List AV)⟩,some ⟨1,((((B3 (A6 [.int .u64 (IntKind.wrap .u64 a)]))++(B3 (A6 [.int .u64 (IntKind.wrap .u64 r)])))++((B3 (A6 [.int .u64 ((l:Int))]))++(A9 (G k) o l)))++(B3 (A6 [.int .u64 (IntKind.wrap .u64 y)])))⟩]):=by kernel_rfl
theorem t54 (G:Nat→List AV) (a:Int) (h:Bool) (Q:Ex→List AV→Hp→Prop) (R:AV→Hp→Prop):vT G Q R (G0 (Dc Try.prog [] progP [] 0) 300 20 Try.f54 [.agg (.of [.int .i64 (.var 11 a),.bool (.var 12 h)])] [] 6)=(
  inU64 [.int .u64 (IntKind.wrap .u64 a)]=true∧Nat.beq (List.length (B3 (A6 [.int .u64 (IntKind.wrap .u64 a)]))) (List.length (A6 [.int .u64 (IntKind.wrap .u64 a)]))=true∧Nat.beq (List.length ([.int .u8 (Es [.bool h])]:List AV)) 1=true∧u8s (B3 (A6 [.int .u64 (IntKind.wrap .u64 a)]))=true∧u8s ([.int .u8 (Es [.bool h])]:List AV)=true∧leB (List.length (A6 [.int .u64 (IntKind.wrap .u64 a)])+1) 1099511627776=true∧R (.slice false (.rw 4) 0 (List.length ((B3 (A6 [.int .u64 (IntKind.wrap .u64 a)]))++([.int .u8 (Es [.bool h])]:List AV)))) [some ⟨1,([.int .i64 a,.bool h]:List AV)⟩,some ⟨1,(B3 (A6 [.int .u64 (IntKind.wrap .u64 a)]))⟩,some ⟨1,([.int .u8 (Es [.bool h])]:List AV)⟩,some ⟨1,([.slice false (.rw 1) 0 (List.length (A6 [.int .u64 (IntKind.wrap .u64 a)])),.slice false (.rw 2) 0 1]:List AV)⟩,some ⟨1,((B3 (A6 [.int .u64 (IntKind.wrap .u64 a)]))++([.int .u8 (Es [.bool h])]:List AV))⟩]):=by kernel_rfl
end Go.Am
