/-
  WireBack: pieces of one's own are joined. Wire: two pieces of one's own are joined.
-/
import Derived.Test.YthejjolnlngahaaPart7
namespace Go.Am
open Go.Proofs
open List renaming length → wW
open Nat renaming beq → zL
open Try renaming prog → zM
set_option maxRecDepth 100000
section
variable (G:Nat→List AV) (B:Nat)
theorem jr0 (la lb lc ld s:List AV) (na nb nc nd l:Nat) (Q:Ex→List AV→Hp→Prop) (R:AV→Hp→Prop):vT G Q R (H4 (Dc zM [] [] [] 5) 200 20 5 (A5 Try.f55 0) 18 [3,7,8,9] [.slice false (.rw 5) (.lit 0) (.var 5 l),.slice false (.rw 0) (.lit 0) (.lit 4),.int .i64 (.lit 4),.int .i64 (.lit 0)] [some ⟨1,.of [.slice false (.rw 1) (.lit 0) (.var 1 na),.slice false (.rw 2) (.lit 0) (.var 2 nb),.slice false (.rw 3) (.lit 0) (.var 3 nc),.slice false (.rw 4) (.lit 0) (.var 4 nd)]⟩,some ⟨1,.var 11 la⟩,some ⟨1,.var 12 lb⟩,some ⟨1,.var 13 lc⟩,some ⟨1,.var 14 ld⟩,some ⟨1,.var 15 s⟩])=(
  leB na (wW la)=true∧cellsB (A0 la 0 na)=true∧leB (l+na) 140737488355328=true∧zL (wW s) l=true∧Q .normal [.slice false (.rw 6) 0 (l+na),.slice false (.rw 0) 0 4,.int .i64 4,.int .i64 1] [some ⟨1,([.slice false (.rw 1) 0 na,.slice false (.rw 2) 0 nb,.slice false (.rw 3) 0 nc,.slice false (.rw 4) 0 nd]:List AV)⟩,some ⟨1,la⟩,some ⟨1,lb⟩,some ⟨1,lc⟩,some ⟨1,ld⟩,none,some ⟨1,(s++(A0 la 0 na))⟩]):=by kernel_rfl
theorem jr1 (la lb lc ld s:List AV) (na nb nc nd l:Nat) (Q:Ex→List AV→Hp→Prop) (R:AV→Hp→Prop):vT G Q R (H4 (Dc zM [] [] [] 5) 200 20 5 (A5 Try.f55 0) 18 [3,7,8,9] [.slice false (.rw 5) (.lit 0) (.var 5 l),.slice false (.rw 0) (.lit 0) (.lit 4),.int .i64 (.lit 4),.int .i64 (.lit 1)] [some ⟨1,.of [.slice false (.rw 1) (.lit 0) (.var 1 na),.slice false (.rw 2) (.lit 0) (.var 2 nb),.slice false (.rw 3) (.lit 0) (.var 3 nc),.slice false (.rw 4) (.lit 0) (.var 4 nd)]⟩,some ⟨1,.var 11 la⟩,some ⟨1,.var 12 lb⟩,some ⟨1,.var 13 lc⟩,some ⟨1,.var 14 ld⟩,some ⟨1,.var 15 s⟩])=(
  leB nb (wW lb)=true∧cellsB (A0 lb 0 nb)=true∧leB (l+nb) 140737488355328=true∧zL (wW s) l=true∧Q .normal [.slice false (.rw 6) 0 (l+nb),.slice false (.rw 0) 0 4,.int .i64 4,.int .i64 2] [some ⟨1,([.slice false (.rw 1) 0 na,.slice false (.rw 2) 0 nb,.slice false (.rw 3) 0 nc,.slice false (.rw 4) 0 nd]:List AV)⟩,some ⟨1,la⟩,some ⟨1,lb⟩,some ⟨1,lc⟩,some ⟨1,ld⟩,none,some ⟨1,(s++(A0 lb 0 nb))⟩]):=by kernel_rfl
theorem jr2 (la lb lc ld s:List AV) (na nb nc nd l:Nat) (Q:Ex→List AV→Hp→Prop) (R:AV→Hp→Prop):vT G Q R (H4 (Dc zM [] [] [] 5) 200 20 5 (A5 Try.f55 0) 18 [3,7,8,9] [.slice false (.rw 5) (.lit 0) (.var 5 l),.slice false (.rw 0) (.lit 0) (.lit 4),.int .i64 (.lit 4),.int .i64 (.lit 2)] [some ⟨1,.of [.slice false (.rw 1) (.lit 0) (.var 1 na),.slice false (.rw 2) (.lit 0) (.var 2 nb),.slice false (.rw 3) (.lit 0) (.var 3 nc),.slice false (.rw 4) (.lit 0) (.var 4 nd)]⟩,some ⟨1,.var 11 la⟩,some ⟨1,.var 12 lb⟩,some ⟨1,.var 13 lc⟩,some ⟨1,.var 14 ld⟩,some ⟨1,.var 15 s⟩])=(
  leB nc (wW lc)=true∧cellsB (A0 lc 0 nc)=true∧leB (l+nc) 140737488355328=true∧zL (wW s) l=true∧Q .normal [.slice false (.rw 6) 0 (l+nc),.slice false (.rw 0) 0 4,.int .i64 4,.int .i64 3] [some ⟨1,([.slice false (.rw 1) 0 na,.slice false (.rw 2) 0 nb,.slice false (.rw 3) 0 nc,.slice false (.rw 4) 0 nd]:List AV)⟩,some ⟨1,la⟩,some ⟨1,lb⟩,some ⟨1,lc⟩,some ⟨1,ld⟩,none,some ⟨1,(s++(A0 lc 0 nc))⟩]):=by kernel_rfl
theorem jr3 (la lb lc ld s:List AV) (na nb nc nd l:Nat) (Q:Ex→List AV→Hp→Prop) (R:AV→Hp→Prop):vT G Q R (H4 (Dc zM [] [] [] 5) 200 20 5 (A5 Try.f55 0) 18 [3,7,8,9] [.slice false (.rw 5) (.lit 0) (.var 5 l),.slice false (.rw 0) (.lit 0) (.lit 4),.int .i64 (.lit 4),.int .i64 (.lit 3)] [some ⟨1,.of [.slice false (.rw 1) (.lit 0) (.var 1 na),.slice false (.rw 2) (.lit 0) (.var 2 nb),.slice false (.rw 3) (.lit 0) (.var 3 nc),.slice false (.rw 4) (.lit 0) (.var 4 nd)]⟩,some ⟨1,.var 11 la⟩,some ⟨1,.var 12 lb⟩,some ⟨1,.var 13 lc⟩,some ⟨1,.var 14 ld⟩,some ⟨1,.var 15 s⟩])=(
  leB nd (wW ld)=true∧cellsB (A0 ld 0 nd)=true∧leB (l+nd) 140737488355328=true∧zL (wW s) l=true∧Q .normal [.slice false (.rw 6) 0 (l+nd),.slice false (.rw 0) 0 4,.int .i64 4,.int .i64 4] [some ⟨1,([.slice false (.rw 1) 0 na,.slice false (.rw 2) 0 nb,.slice false (.rw 3) 0 nc,.slice false (.rw 4) 0 nd]:List AV)⟩,some ⟨1,la⟩,some ⟨1,lb⟩,some ⟨1,lc⟩,some ⟨1,ld⟩,none,some ⟨1,(s++(A0 ld 0 nd))⟩]):=by kernel_rfl
theorem jr4 (la lb lc ld s:List AV) (na nb nc nd l:Nat) (Q:Ex→List AV→Hp→Prop) (R:AV→Hp→Prop):vT G Q R (H4 (Dc zM [] [] [] 5) 200 20 5 (A5 Try.f55 0) 18 [3,7,8,9] [.slice false (.rw 5) (.lit 0) (.var 5 l),.slice false (.rw 0) (.lit 0) (.lit 4),.int .i64 (.lit 4),.int .i64 (.lit 4)] [some ⟨1,.of [.slice false (.rw 1) (.lit 0) (.var 1 na),.slice false (.rw 2) (.lit 0) (.var 2 nb),.slice false (.rw 3) (.lit 0) (.var 3 nc),.slice false (.rw 4) (.lit 0) (.var 4 nd)]⟩,some ⟨1,.var 11 la⟩,some ⟨1,.var 12 lb⟩,some ⟨1,.var 13 lc⟩,some ⟨1,.var 14 ld⟩,some ⟨1,.var 15 s⟩])=(
  Q (.exit 0) [.slice false (.rw 5) 0 l,.slice false (.rw 0) 0 4,.int .i64 4,.int .i64 4] [some ⟨1,([.slice false (.rw 1) 0 na,.slice false (.rw 2) 0 nb,.slice false (.rw 3) 0 nc,.slice false (.rw 4) 0 nd]:List AV)⟩,some ⟨1,la⟩,some ⟨1,lb⟩,some ⟨1,lc⟩,some ⟨1,ld⟩,some ⟨1,s⟩]):=by kernel_rfl
theorem oK :DGood (za G B) (Dc zM [] [] [] 5) []:=C7 (mix G B) (by kernel_rfl) .nil .nil
def X7 (na nb nc nd:Nat):Option Blk:=some ⟨1,[.slice false (.rw 1) 0 na,.slice false (.rw 2) 0 nb,.slice false (.rw 3) 0 nc,.slice false (.rw 4) 0 nd]⟩
theorem jnx {la lb lc ld y:List AV} {m:Nat} {i:Int} (ha:A6 0 la=true) (hb:A6 0 lb=true) (hc:A6 0 lc=true) (hd:A6 0 ld=true) (hy:A6 0 y=true) :
  C5 5 [.slice false (.rw 5) 0 m,.slice false (.rw 0) 0 4,.int .i64 4,.int .i64 i] [X7 la.length lb.length lc.length ld.length,some ⟨1,la⟩,some ⟨1,lb⟩,some ⟨1,lc⟩,some ⟨1,ld⟩,some ⟨1,y⟩] [.slice false (.rw 6) 0 m,.slice false (.rw 0) 0 4,.int .i64 4,.int .i64 i] [X7 la.length lb.length lc.length ld.length,some ⟨1,la⟩,some ⟨1,lb⟩,some ⟨1,lc⟩,some ⟨1,ld⟩,none,some ⟨1,y⟩]:=by
 have f:∀ {l:List AV},A6 0 l=true→A6 6 l=true∧some (some (⟨1,l⟩:Blk))=some (some ⟨1,rens [0,1,2,3,4,6] l⟩):=fun h=>⟨G2 (zA8 _) _ h,by rw [B4 _ _ h]⟩;refine C5.renM (θ:=[0,1,2,3,4,6]) (by simp) (fun i hi=>?_) (by decide) ⟨⟨by simp [A6,B0],by simp [rens,C2,X7]⟩,f ha,f hb,f hc,f hd,f hy,trivial⟩ (by simp [A6,B0]) (by simp [rens,C2,wk])
 have:i=0∨i=1∨i=2∨i=3∨i=4:=by omega
 rcases this with rfl | rfl | rfl | rfl | rfl<;>rfl
def Eg (la lb lc ld:List AV):Nat→List AV
 | 0=>[]
 | 1=>la
 | 2=>la++lb
 | 3=>(la++lb)++lc
 | _=>((la++lb)++lc)++ld
theorem bB2 (la lb lc ld:List AV) (ua:u8s la=true) (ub:u8s lb=true) (uc:u8s lc=true) (ud:u8s ld=true) (ht:la.length+lb.length+lc.length+ld.length≤1099511627776) :
  AWp (za G B) 5 (.loop (A5 Try.f55 0)) (fl 18 [3,7,8,9] [.slice false (.rw 5) 0 0,.slice false (.rw 0) 0 4,.int .i64 4,.int .i64 0]) [X7 la.length lb.length lc.length ld.length,some ⟨1,la⟩,some ⟨1,lb⟩,some ⟨1,lc⟩,some ⟨1,ld⟩,some ⟨1,[]⟩]
   (lv 18 [3,7,8,9] fun e vs H=>e=.exit 0∧wk [.slice false (.rw 5) 0 (((la++lb)++lc)++ld).length,.undef,.undef,.undef] vs∧H=[X7 la.length lb.length lc.length ld.length,some ⟨1,la⟩,some ⟨1,lb⟩,some ⟨1,lc⟩,some ⟨1,ld⟩,some ⟨1,((la++lb)++lc)++ld⟩]):=by
 have fa:=B7 (k:=0) ua;have fb:=B7 (k:=0) ub;have fc:=B7 (k:=0) uc;have fd:=B7 (k:=0) ud;have sub:∀ {l:List AV},A0 l 0 l.length=l:=fun {l}=>by simp [A0]
 refine X5 (fun j vs H=>∃ i:Nat,i≤4∧j=4 - i∧vs=[.slice false (.rw 5) 0 (Eg la lb lc ld i).length,.slice false (.rw 0) 0 4,.int .i64 4,.int .i64 (i:Int)]∧H=[X7 la.length lb.length lc.length ld.length,some ⟨1,la⟩,some ⟨1,lb⟩,some ⟨1,lc⟩,some ⟨1,ld⟩,some ⟨1,Eg la lb lc ld i⟩]) 4 ⟨0,by omega,rfl,rfl,rfl⟩ ?_;rintro j vs H ⟨i,hi,rfl,rfl,rfl⟩;have hcase:i=0∨i=1∨i=2∨i=3∨i=4:=by omega
 rcases hcase with rfl | rfl | rfl | rfl | rfl
 ·refine D3 (C:=(za G B)) (oK G B) (fuel:=200) (n0:=20) (m:=5) (c:=A5 Try.f55 0) (vs:=[.slice false (.rw 5) (.lit 0) (.var 5 (Eg la lb lc ld 0).length),.slice false (.rw 0) (.lit 0) (.lit 4),.int .i64 (.lit 4),.int .i64 (.lit 0)]) (H:=[some ⟨1,.of [.slice false (.rw 1) (.lit 0) (.var 1 la.length),.slice false (.rw 2) (.lit 0) (.var 2 lb.length),.slice false (.rw 3) (.lit 0) (.var 3 lc.length),.slice false (.rw 4) (.lit 0) (.var 4 ld.length)]⟩,some ⟨1,.var 11 la⟩,some ⟨1,.var 12 lb⟩,some ⟨1,.var 13 lc⟩,some ⟨1,.var 14 ld⟩,some ⟨1,.var 15 (Eg la lb lc ld 0)⟩]) (by simp) ?_
  rw [jr0,sub];refine ⟨A8.2 (zA7 _),F9 ua,A8.2 (by simp [Eg];omega),zA9 _,⟨3,by omega,.inr ⟨_,_,⟨1,by omega,rfl,rfl,rfl⟩,?_⟩⟩⟩
  have:=jnx (m:=la.length) (i:=1) fa fb fc fd (y:=la) fa
  simpa [Eg,X7] using this
 ·refine D3 (C:=(za G B)) (oK G B) (fuel:=200) (n0:=20) (m:=5) (c:=A5 Try.f55 0) (vs:=[.slice false (.rw 5) (.lit 0) (.var 5 (Eg la lb lc ld 1).length),.slice false (.rw 0) (.lit 0) (.lit 4),.int .i64 (.lit 4),.int .i64 (.lit 1)]) (H:=[some ⟨1,.of [.slice false (.rw 1) (.lit 0) (.var 1 la.length),.slice false (.rw 2) (.lit 0) (.var 2 lb.length),.slice false (.rw 3) (.lit 0) (.var 3 lc.length),.slice false (.rw 4) (.lit 0) (.var 4 ld.length)]⟩,some ⟨1,.var 11 la⟩,some ⟨1,.var 12 lb⟩,some ⟨1,.var 13 lc⟩,some ⟨1,.var 14 ld⟩,some ⟨1,.var 15 (Eg la lb lc ld 1)⟩]) (by simp) ?_
  rw [jr1,sub];refine ⟨A8.2 (zA7 _),F9 ub,A8.2 (by simp [Eg];omega),zA9 _,⟨2,by omega,.inr ⟨_,_,⟨2,by omega,rfl,rfl,rfl⟩,?_⟩⟩⟩
  have:=jnx (m:=(la++lb).length) (i:=2) fa fb fc fd (y:=la++lb) (B7 (by simp [C9,ua,ub]))
  simpa [Eg,X7] using this
 ·refine D3 (C:=(za G B)) (oK G B) (fuel:=200) (n0:=20) (m:=5) (c:=A5 Try.f55 0) (vs:=[.slice false (.rw 5) (.lit 0) (.var 5 (Eg la lb lc ld 2).length),.slice false (.rw 0) (.lit 0) (.lit 4),.int .i64 (.lit 4),.int .i64 (.lit 2)]) (H:=[some ⟨1,.of [.slice false (.rw 1) (.lit 0) (.var 1 la.length),.slice false (.rw 2) (.lit 0) (.var 2 lb.length),.slice false (.rw 3) (.lit 0) (.var 3 lc.length),.slice false (.rw 4) (.lit 0) (.var 4 ld.length)]⟩,some ⟨1,.var 11 la⟩,some ⟨1,.var 12 lb⟩,some ⟨1,.var 13 lc⟩,some ⟨1,.var 14 ld⟩,some ⟨1,.var 15 (Eg la lb lc ld 2)⟩]) (by simp) ?_
  rw [jr2,sub];refine ⟨A8.2 (zA7 _),F9 uc,A8.2 (by simp [Eg];omega),zA9 _,⟨1,by omega,.inr ⟨_,_,⟨3,by omega,rfl,rfl,rfl⟩,?_⟩⟩⟩
  have:=jnx (m:=((la++lb)++lc).length) (i:=3) fa fb fc fd (y:=(la++lb)++lc) (B7 (by simp [C9,ua,ub,uc]))
  simpa [Eg,X7,Nat.add_assoc] using this
 ·refine D3 (C:=(za G B)) (oK G B) (fuel:=200) (n0:=20) (m:=5) (c:=A5 Try.f55 0) (vs:=[.slice false (.rw 5) (.lit 0) (.var 5 (Eg la lb lc ld 3).length),.slice false (.rw 0) (.lit 0) (.lit 4),.int .i64 (.lit 4),.int .i64 (.lit 3)]) (H:=[some ⟨1,.of [.slice false (.rw 1) (.lit 0) (.var 1 la.length),.slice false (.rw 2) (.lit 0) (.var 2 lb.length),.slice false (.rw 3) (.lit 0) (.var 3 lc.length),.slice false (.rw 4) (.lit 0) (.var 4 ld.length)]⟩,some ⟨1,.var 11 la⟩,some ⟨1,.var 12 lb⟩,some ⟨1,.var 13 lc⟩,some ⟨1,.var 14 ld⟩,some ⟨1,.var 15 (Eg la lb lc ld 3)⟩]) (by simp) ?_
  rw [jr3,sub];refine ⟨A8.2 (zA7 _),F9 ud,A8.2 (by simp [Eg];omega),zA9 _,⟨0,by omega,.inr ⟨_,_,⟨4,by omega,rfl,rfl,rfl⟩,?_⟩⟩⟩
  have:=jnx (m:=(((la++lb)++lc)++ld).length) (i:=4) fa fb fc fd (y:=((la++lb)++lc)++ld) (B7 (by simp [C9,ua,ub,uc,ud]))
  simpa [Eg,X7,Nat.add_assoc] using this
 ·refine D3 (C:=(za G B)) (oK G B) (fuel:=200) (n0:=20) (m:=5) (c:=A5 Try.f55 0) (vs:=[.slice false (.rw 5) (.lit 0) (.var 5 (Eg la lb lc ld 4).length),.slice false (.rw 0) (.lit 0) (.lit 4),.int .i64 (.lit 4),.int .i64 (.lit 4)]) (H:=[some ⟨1,.of [.slice false (.rw 1) (.lit 0) (.var 1 la.length),.slice false (.rw 2) (.lit 0) (.var 2 lb.length),.slice false (.rw 3) (.lit 0) (.var 3 lc.length),.slice false (.rw 4) (.lit 0) (.var 4 ld.length)]⟩,some ⟨1,.var 11 la⟩,some ⟨1,.var 12 lb⟩,some ⟨1,.var 13 lc⟩,some ⟨1,.var 14 ld⟩,some ⟨1,.var 15 (Eg la lb lc ld 4)⟩]) (by simp) ?_
  rw [jr4];exact ⟨rfl,by simp [wk,Eg],rfl⟩
def jbL:DL:=⟨0,18,[3,7,8,9],fun vs H=>match vs,H with
 | [.slice false (.rw 5) (.lit 0) (.lit 0),.slice false (.rw 0) (.lit 0) (.lit 4),.int .i64 (.lit 4),.int .i64 (.lit 0)],
  [some ⟨1,.of [.slice false (.rw 1) (.lit 0) na,.slice false (.rw 2) (.lit 0) nb,.slice false (.rw 3) (.lit 0) nc,.slice false (.rw 4) (.lit 0) nd]⟩,some ⟨1,la⟩,some ⟨1,lb⟩,some ⟨1,lc⟩,some ⟨1,ld⟩,some ⟨1,.of []⟩]=>
  some (.chk (.eqN (.len la) na)<|.chk (.eqN (.len lb) nb)<|.chk (.eqN (.len lc) nc)<|.chk (.eqN (.len ld) nd)<|.chk (.u8s la)<|.chk (.u8s lb)<|.chk (.u8s lc)<|.chk (.u8s ld)<|.chk (.leN (.add (.add (.add na nb) nc) nd) (.lit 1099511627776)) <|
   .one (.exit 0) [.slice false (.rw 5) (.lit 0) (.len (.app (.app (.app la lb) lc) ld)),.undef,.undef,.undef]
    [some ⟨1,.of [.slice false (.rw 1) (.lit 0) na,.slice false (.rw 2) (.lit 0) nb,.slice false (.rw 3) (.lit 0) nc,.slice false (.rw 4) (.lit 0) nd]⟩,some ⟨1,la⟩,some ⟨1,lb⟩,some ⟨1,lc⟩,some ⟨1,ld⟩,some ⟨1,.app (.app (.app la lb) lc) ld⟩])
 | _,_=>none⟩
theorem jbL_ok :F5 (za G B) 5 (A5 Try.f55 0) jbL:=by
 refine .of fun vs H o ho n Q hQ=>?_;simp only [jbL] at ho;split at ho
 ·rename_i na nb nc nd la lb lc ld;simp only [zN] at ho;subst ho;obtain ⟨h1,h2,h3,h4,h5,h6,h7,h8,h9,hh⟩:=hQ;simp only [vB,vN] at h1 h2 h3 h4 h5 h6 h7 h8 h9;have e1:=rG h1;have e2:=rG h2;have e3:=rG h3;have e4:=rG h4;refine lone ?_ hh;simp only [jbL,vVs,vV,vR,vN,vI,vL,B8,List.map_cons,List.map_nil,Option.map_some,C6];have h9:=A8.1 h9;have key:=bB2 G B (vL G la) (vL G lb) (vL G lc) (vL G ld) h5 h6 h7 h8 (by omega);rw [X7,e1,e2,e3,e4] at key;exact key
 ·simp at ho
theorem dgJB :DGood (za G B) (Dc zM [] [] [jbL] 5) (loopsOf (C3 Try.f55)):=C7 (mix G B) (by kernel_rfl) .nil (.cast (.cons (i:=0) (by kernel_rfl) rfl (jbL_ok G B) .nil) (by kernel_rfl))
theorem w10b (la lb lc ld:List AV) (na nb nc nd:Nat) (Q:Ex→List AV→Hp→Prop) (R:AV→Hp→Prop):vT G Q R (H5 (Dc zM [] [] [jbL] 5) 200 20 Try.f55 [.slice false (.rw 0) (.lit 0) (.lit 4)] [some ⟨1,.of [.slice false (.rw 1) (.lit 0) (.var 1 na),.slice false (.rw 2) (.lit 0) (.var 2 nb),.slice false (.rw 3) (.lit 0) (.var 3 nc),.slice false (.rw 4) (.lit 0) (.var 4 nd)]⟩,some ⟨1,.var 11 la⟩,some ⟨1,.var 12 lb⟩,some ⟨1,.var 13 lc⟩,some ⟨1,.var 14 ld⟩] 6)=(
  zL (wW la) na=true∧zL (wW lb) nb=true∧zL (wW lc) nc=true∧zL (wW ld) nd=true∧u8s la=true∧u8s lb=true∧u8s lc=true∧u8s ld=true∧leB (na+nb+nc+nd) 1099511627776=true∧R (.slice false (.rw 5) 0 (wW (((la++lb)++lc)++ld))) [some ⟨1,([.slice false (.rw 1) 0 na,.slice false (.rw 2) 0 nb,.slice false (.rw 3) 0 nc,.slice false (.rw 4) 0 nd]:List AV)⟩,some ⟨1,la⟩,some ⟨1,lb⟩,some ⟨1,lc⟩,some ⟨1,ld⟩,some ⟨1,(((la++lb)++lc)++ld)⟩]):=by kernel_rfl
theorem bB1 (la lb lc ld:List AV) (ua:u8s la=true) (ub:u8s lb=true) (uc:u8s lc=true) (ud:u8s ld=true) (ht:la.length+lb.length+lc.length+ld.length≤1099511627776) :
  ACalls (za G B) 55 [.slice false (.rw 0) 0 4] [X7 la.length lb.length lc.length ld.length,some ⟨1,la⟩,some ⟨1,lb⟩,some ⟨1,lc⟩,some ⟨1,ld⟩] fun v' H'=>v'=.slice false (.rw 5) 0 (((la++lb)++lc)++ld).length∧H'=[X7 la.length lb.length lc.length ld.length,some ⟨1,la⟩,some ⟨1,lb⟩,some ⟨1,lc⟩,some ⟨1,ld⟩,some ⟨1,((la++lb)++lc)++ld⟩]:=by
 have f:∀ {l:List AV} {j:Nat},u8s l=true→A6 j l=true:=fun h=>B7 h
 have key:=C8 (C:=(za G B)) (fn:=Try.f55) (f:=55) (R:=fun v' H'=>v'=.slice false (.rw 5) 0 (((la++lb)++lc)++ld).length∧H'=[X7 la.length lb.length lc.length ld.length,some ⟨1,la⟩,some ⟨1,lb⟩,some ⟨1,lc⟩,some ⟨1,ld⟩,some ⟨1,((la++lb)++lc)++ld⟩]) (dgJB G B) (by kernel_rfl) (by kernel_rfl) (by kernel_rfl) (fuel:=200) (n0:=20) (keep:=6) (args:=[.slice false (.rw 0) (.lit 0) (.lit 4)])
  (H:=[some ⟨1,.of [.slice false (.rw 1) (.lit 0) (.var 1 la.length),.slice false (.rw 2) (.lit 0) (.var 2 lb.length),.slice false (.rw 3) (.lit 0) (.var 3 lc.length),.slice false (.rw 4) (.lit 0) (.var 4 ld.length)]⟩,some ⟨1,.var 11 la⟩,some ⟨1,.var 12 lb⟩,some ⟨1,.var 13 lc⟩,some ⟨1,.var 14 ld⟩]) (by
  rw [w10b]
  exact ⟨zA9 _,zA9 _,zA9 _,zA9 _,ua,ub,uc,ud,A8.2 ht,rfl,rfl⟩)
 exact ACalls.keep (H:=[X7 la.length lb.length lc.length ld.length,some ⟨1,la⟩,some ⟨1,lb⟩,some ⟨1,lc⟩,some ⟨1,ld⟩]) (H1:=[X7 la.length lb.length lc.length ld.length,some ⟨1,la⟩,some ⟨1,lb⟩,some ⟨1,lc⟩,some ⟨1,ld⟩,some ⟨1,((la++lb)++lc)++ld⟩]) key (by simp) (by simp [I1,X7,A6,B0,f ua,f ub,f uc,f ud,B7,C9,ua,ub,uc,ud]) (by simp [B0]) (by simp)
def ndB:List Nat→Bool
 | []=>true
 | x::l=>!(l.any (zL x))&&ndB l
theorem mV:∀ {l:List Nat},ndB l=true→l.Nodup
 | [],_=>by simp
 | x::l,h=>by
  simp only [ndB,zO,Bool.not_eq_true'] at h;rw [List.nodup_cons];refine ⟨fun hm=>?_,mV h.2⟩
  have:=List.any_eq_false.1 h.1 x hm
  simp at this
def joinB:DSum:=fun xs H=>match xs with
 | [.slice false (.rw j) (.lit 0) (.lit 4)]=>match H[j]? with
  | some (some ⟨1,.of [.slice false (.rw a) (.lit 0) na,.slice false (.rw b) (.lit 0) nb,.slice false (.rw c) (.lit 0) nc,.slice false (.rw d) (.lit 0) nd]⟩)=>match H[a]?,H[b]?,H[c]?,H[d]?,ndB [j,a,b,c,d] with
   | some (some ⟨1,la⟩),some (some ⟨1,lb⟩),some (some ⟨1,lc⟩),some (some ⟨1,ld⟩),true=>
    some (.chk (.eqN (.len la) na)<|.chk (.eqN (.len lb) nb)<|.chk (.eqN (.len lc) nc)<|.chk (.eqN (.len ld) nd)<|.chk (.u8s la)<|.chk (.u8s lb)<|.chk (.u8s lc)<|.chk (.u8s ld)<|.chk (.leN (.add (.add (.add na nb) nc) nd) (.lit 1099511627776)) <|
     .one (.slice false (.rw H.length) (.lit 0) (.len (.app (.app (.app la lb) lc) ld))) [.new ⟨1,.app (.app (.app la lb) lc) ld⟩])
   | _,_,_,_,_=>none
  | _=>none
 | _=>none
theorem aN7 :DSumOk (za G B) 55 joinB:=by
 intro xs H o ho;simp only [joinB] at ho;split at ho
 ·rename_i j;split at ho
  ·rename_i a na b nb c nc d nd hj;split at ho
   ·rename_i la lb lc ld ha hb hc hd hnd;simp only [zN] at ho;subst ho;intro h1 h2 h3 h4 h5 h6 h7 h8 h9;simp only [vB,vN] at h1 h2 h3 h4 h5 h6 h7 h8 h9;have e1:=rG h1;have e2:=rG h2;have e3:=rG h3;have e4:=rG h4;have h9:=A8.1 h9;have f:∀ {l:List AV} {j:Nat},u8s l=true→A6 j l=true:=fun h=>B7 h;have key:=bB1 G B (vL G la) (vL G lb) (vL G lc) (vL G ld) h5 h6 h7 h8 (by omega)
    have live:∀ {i:Nat} {l:EL},H[i]?=some (some ⟨1,l⟩)→u8s (vL G l)=true→(B8 G H)[i]?=some (some (I7 [j,a,b,c,d] ⟨1,vL G l⟩)):=fun hi hu=>by
     have:=G4 (G:=G) hi
     simpa [I7,C6,B4 _ _ (f (j:=0) hu)] using this
    refine E1.newN (C:=(za G B)) (θ:=[j,a,b,c,d]) (b:=⟨1,.app (.app (.app la lb) lc) ld⟩) (mV hnd) rfl (fun k x hk=>?_) (by simp [A6,B0]) (by simp [vVs,vV,vR,vN,rens,C2]) key (by simp only [vL];exact f (by simp [C9,h5,h6,h7,h8])) (by simp [B0]) (by simp [vV,vR,vN,vL,C2,J5])
    match k with
    | 0=>
     simp [X7] at hk;subst hk;refine ⟨_,rfl,by simp [A6,B0],?_⟩
     have:=G4 (G:=G) hj
     simpa [I7,C6,vL,vVs,vV,vR,vN,rens,C2,e1,e2,e3,e4] using this
    | 1=>simp at hk;subst hk;exact ⟨_,rfl,f h5,by simpa using live ha h5⟩
    | 2=>simp at hk;subst hk;exact ⟨_,rfl,f h6,by simpa using live hb h6⟩
    | 3=>simp at hk;subst hk;exact ⟨_,rfl,f h7,by simpa using live hc h7⟩
    | 4=>simp at hk;subst hk;exact ⟨_,rfl,f h8,by simpa using live hd h8⟩
    | k+5=>simp at hk
   ·simp at ho
  ·simp at ho
 ·simp at ho
end
section
variable (G:Nat→List AV) (B:Nat)
theorem jp0 (la lb s:List AV) (na nb l:Nat) (Q:Ex→List AV→Hp→Prop) (R:AV→Hp→Prop):vT G Q R (H4 (Dc Try.prog [] [] [] 3) 200 20 3 (A5 Try.f55 0) 18 [3,7,8,9] [.slice false (.rw 3) (.lit 0) (.var 5 l),.slice false (.rw 0) (.lit 0) (.lit 2),.int .i64 (.lit 2),.int .i64 (.lit 0)] [some ⟨1,.of [.slice false (.rw 1) (.lit 0) (.var 1 na),.slice false (.rw 2) (.lit 0) (.var 2 nb)]⟩,some ⟨1,.var 11 la⟩,some ⟨1,.var 12 lb⟩,some ⟨1,.var 15 s⟩])=(
  leB na (List.length la)=true∧cellsB (A0 la 0 na)=true∧leB (l+na) 140737488355328=true∧Nat.beq (List.length s) l=true∧Q .normal [.slice false (.rw 4) 0 (l+na),.slice false (.rw 0) 0 2,.int .i64 2,.int .i64 1] [some ⟨1,([.slice false (.rw 1) 0 na,.slice false (.rw 2) 0 nb]:List AV)⟩,some ⟨1,la⟩,some ⟨1,lb⟩,none,some ⟨1,(s++(A0 la 0 na))⟩]):=by kernel_rfl
theorem jp1 (la lb s:List AV) (na nb l:Nat) (Q:Ex→List AV→Hp→Prop) (R:AV→Hp→Prop):vT G Q R (H4 (Dc Try.prog [] [] [] 3) 200 20 3 (A5 Try.f55 0) 18 [3,7,8,9] [.slice false (.rw 3) (.lit 0) (.var 5 l),.slice false (.rw 0) (.lit 0) (.lit 2),.int .i64 (.lit 2),.int .i64 (.lit 1)] [some ⟨1,.of [.slice false (.rw 1) (.lit 0) (.var 1 na),.slice false (.rw 2) (.lit 0) (.var 2 nb)]⟩,some ⟨1,.var 11 la⟩,some ⟨1,.var 12 lb⟩,some ⟨1,.var 15 s⟩])=(
  leB nb (List.length lb)=true∧cellsB (A0 lb 0 nb)=true∧leB (l+nb) 140737488355328=true∧Nat.beq (List.length s) l=true∧Q .normal [.slice false (.rw 4) 0 (l+nb),.slice false (.rw 0) 0 2,.int .i64 2,.int .i64 2] [some ⟨1,([.slice false (.rw 1) 0 na,.slice false (.rw 2) 0 nb]:List AV)⟩,some ⟨1,la⟩,some ⟨1,lb⟩,none,some ⟨1,(s++(A0 lb 0 nb))⟩]):=by kernel_rfl
theorem jp2 (la lb s:List AV) (na nb l:Nat) (Q:Ex→List AV→Hp→Prop) (R:AV→Hp→Prop):vT G Q R (H4 (Dc Try.prog [] [] [] 3) 200 20 3 (A5 Try.f55 0) 18 [3,7,8,9] [.slice false (.rw 3) (.lit 0) (.var 5 l),.slice false (.rw 0) (.lit 0) (.lit 2),.int .i64 (.lit 2),.int .i64 (.lit 2)] [some ⟨1,.of [.slice false (.rw 1) (.lit 0) (.var 1 na),.slice false (.rw 2) (.lit 0) (.var 2 nb)]⟩,some ⟨1,.var 11 la⟩,some ⟨1,.var 12 lb⟩,some ⟨1,.var 15 s⟩])=(
  Q (.exit 0) [.slice false (.rw 3) 0 l,.slice false (.rw 0) 0 2,.int .i64 2,.int .i64 2] [some ⟨1,([.slice false (.rw 1) 0 na,.slice false (.rw 2) 0 nb]:List AV)⟩,some ⟨1,la⟩,some ⟨1,lb⟩,some ⟨1,s⟩]):=by kernel_rfl
theorem dg03 :DGood (za G B) (Dc Try.prog [] [] [] 3) []:=C7 (mix G B) (by kernel_rfl) .nil .nil
def Af (na nb:Nat):Option Blk:=some ⟨1,[.slice false (.rw 1) 0 na,.slice false (.rw 2) 0 nb]⟩
theorem jnp {la lb y:List AV} {m:Nat} {i:Int} (ha:A6 0 la=true) (hb:A6 0 lb=true) (hy:A6 0 y=true) :
  C5 3 [.slice false (.rw 3) 0 m,.slice false (.rw 0) 0 2,.int .i64 2,.int .i64 i] [Af la.length lb.length,some ⟨1,la⟩,some ⟨1,lb⟩,some ⟨1,y⟩] [.slice false (.rw 4) 0 m,.slice false (.rw 0) 0 2,.int .i64 2,.int .i64 i] [Af la.length lb.length,some ⟨1,la⟩,some ⟨1,lb⟩,none,some ⟨1,y⟩]:=by
 have f:∀ {l:List AV},A6 0 l=true→A6 4 l=true∧some (some (⟨1,l⟩:Blk))=some (some ⟨1,rens [0,1,2,4] l⟩):=fun h=>⟨G2 (zA8 _) _ h,by rw [B4 _ _ h]⟩;refine C5.renM (θ:=[0,1,2,4]) (by simp) (fun i hi=>?_) (by decide) ⟨⟨by simp [A6,B0],by simp [rens,C2,Af]⟩,f ha,f hb,f hy,trivial⟩ (by simp [A6,B0]) (by simp [rens,C2,wk])
 have:i=0∨i=1∨i=2:=by omega
 rcases this with rfl | rfl | rfl<;>rfl
def Pq (la lb:List AV):Nat→List AV
 | 0=>[]
 | 1=>la
 | _=>la++lb
theorem bA9 (la lb:List AV) (ua:u8s la=true) (ub:u8s lb=true) (ht:la.length+lb.length≤1099511627776) :
  AWp (za G B) 3 (.loop (A5 Try.f55 0)) (fl 18 [3,7,8,9] [.slice false (.rw 3) 0 0,.slice false (.rw 0) 0 2,.int .i64 2,.int .i64 0]) [Af la.length lb.length,some ⟨1,la⟩,some ⟨1,lb⟩,some ⟨1,[]⟩]
   (lv 18 [3,7,8,9] fun e vs H=>e=.exit 0∧wk [.slice false (.rw 3) 0 (la++lb).length,.undef,.undef,.undef] vs∧H=[Af la.length lb.length,some ⟨1,la⟩,some ⟨1,lb⟩,some ⟨1,la++lb⟩]):=by
 have fa:=B7 (k:=0) ua;have fb:=B7 (k:=0) ub;have sub:∀ {l:List AV},A0 l 0 l.length=l:=fun {l}=>by simp [A0]
 refine X5 (fun j vs H=>∃ i:Nat,i≤2∧j=2 - i∧vs=[.slice false (.rw 3) 0 (Pq la lb i).length,.slice false (.rw 0) 0 2,.int .i64 2,.int .i64 (i:Int)]∧H=[Af la.length lb.length,some ⟨1,la⟩,some ⟨1,lb⟩,some ⟨1,Pq la lb i⟩]) 2 ⟨0,by omega,rfl,rfl,rfl⟩ ?_;rintro j vs H ⟨i,hi,rfl,rfl,rfl⟩;have hcase:i=0∨i=1∨i=2:=by omega
 rcases hcase with rfl | rfl | rfl
 ·refine D3 (C:=(za G B)) (dg03 G B) (fuel:=200) (n0:=20) (m:=3) (c:=A5 Try.f55 0) (vs:=[.slice false (.rw 3) (.lit 0) (.var 5 (Pq la lb 0).length),.slice false (.rw 0) (.lit 0) (.lit 2),.int .i64 (.lit 2),.int .i64 (.lit 0)]) (H:=[some ⟨1,.of [.slice false (.rw 1) (.lit 0) (.var 1 la.length),.slice false (.rw 2) (.lit 0) (.var 2 lb.length)]⟩,some ⟨1,.var 11 la⟩,some ⟨1,.var 12 lb⟩,some ⟨1,.var 15 (Pq la lb 0)⟩]) (by simp) ?_;rw [jp0,sub]
  refine ⟨A8.2 (zA7 _),F9 ua,A8.2 (by simp [Pq];omega),zA9 _,⟨1,by omega,.inr ⟨_,_,⟨1,by omega,rfl,rfl,rfl⟩,?_⟩⟩⟩
  have:=jnp (m:=la.length) (i:=1) fa fb (y:=la) fa
  simpa [Pq,Af] using this
 ·refine D3 (C:=(za G B)) (dg03 G B) (fuel:=200) (n0:=20) (m:=3) (c:=A5 Try.f55 0) (vs:=[.slice false (.rw 3) (.lit 0) (.var 5 (Pq la lb 1).length),.slice false (.rw 0) (.lit 0) (.lit 2),.int .i64 (.lit 2),.int .i64 (.lit 1)]) (H:=[some ⟨1,.of [.slice false (.rw 1) (.lit 0) (.var 1 la.length),.slice false (.rw 2) (.lit 0) (.var 2 lb.length)]⟩,some ⟨1,.var 11 la⟩,some ⟨1,.var 12 lb⟩,some ⟨1,.var 15 (Pq la lb 1)⟩]) (by simp) ?_;rw [jp1,sub]
  refine ⟨A8.2 (zA7 _),F9 ub,A8.2 (by simp [Pq];omega),zA9 _,⟨0,by omega,.inr ⟨_,_,⟨2,by omega,rfl,rfl,rfl⟩,?_⟩⟩⟩
  have:=jnp (m:=(la++lb).length) (i:=2) fa fb (y:=la++lb) (B7 (by simp [C9,ua,ub]))
  simpa [Pq,Af,Nat.add_assoc] using this
 ·refine D3 (C:=(za G B)) (dg03 G B) (fuel:=200) (n0:=20) (m:=3) (c:=A5 Try.f55 0) (vs:=[.slice false (.rw 3) (.lit 0) (.var 5 (Pq la lb 2).length),.slice false (.rw 0) (.lit 0) (.lit 2),.int .i64 (.lit 2),.int .i64 (.lit 2)]) (H:=[some ⟨1,.of [.slice false (.rw 1) (.lit 0) (.var 1 la.length),.slice false (.rw 2) (.lit 0) (.var 2 lb.length)]⟩,some ⟨1,.var 11 la⟩,some ⟨1,.var 12 lb⟩,some ⟨1,.var 15 (Pq la lb 2)⟩]) (by simp) ?_;rw [jp2];exact ⟨rfl,by simp [wk,Pq],rfl⟩
def jpL:DL:=⟨0,18,[3,7,8,9],fun vs H=>match vs,H with
 | [.slice false (.rw 3) (.lit 0) (.lit 0),.slice false (.rw 0) (.lit 0) (.lit 2),.int .i64 (.lit 2),.int .i64 (.lit 0)],
  [some ⟨1,.of [.slice false (.rw 1) (.lit 0) na,.slice false (.rw 2) (.lit 0) nb]⟩,some ⟨1,la⟩,some ⟨1,lb⟩,some ⟨1,.of []⟩]=>
  some (.chk (.eqN (.len la) na)<|.chk (.eqN (.len lb) nb)<|.chk (.u8s la)<|.chk (.u8s lb)<|.chk (.leN (.add na nb) (.lit 1099511627776)) <|
   .one (.exit 0) [.slice false (.rw 3) (.lit 0) (.len (.app la lb)),.undef,.undef,.undef]
    [some ⟨1,.of [.slice false (.rw 1) (.lit 0) na,.slice false (.rw 2) (.lit 0) nb]⟩,some ⟨1,la⟩,some ⟨1,lb⟩,some ⟨1,.app la lb⟩])
 | _,_=>none⟩
theorem jpL_ok :F5 (za G B) 3 (A5 Try.f55 0) jpL:=by
 refine .of fun vs H o ho n Q hQ=>?_;simp only [jpL] at ho;split at ho
 ·rename_i na nb la lb;simp only [zN] at ho;subst ho;obtain ⟨h1,h2,h5,h6,h9,hh⟩:=hQ;simp only [vB,vN] at h1 h2 h5 h6 h9;have e1:=rG h1;have e2:=rG h2;refine lone ?_ hh;simp only [jpL,vVs,vV,vR,vN,vI,vL,B8,List.map_cons,List.map_nil,Option.map_some,C6];have h9:=A8.1 h9;have key:=bA9 G B (vL G la) (vL G lb) h5 h6 (by omega);rw [Af,e1,e2] at key;exact key
 ·simp at ho
theorem dgJP :DGood (za G B) (Dc Try.prog [] [] [jpL] 3) (loopsOf (C3 Try.f55)):=C7 (mix G B) (by kernel_rfl) .nil (.cast (.cons (i:=0) (by kernel_rfl) rfl (jpL_ok G B) .nil) (by kernel_rfl))
theorem t55p (la lb:List AV) (na nb:Nat) (Q:Ex→List AV→Hp→Prop) (R:AV→Hp→Prop):vT G Q R (H5 (Dc Try.prog [] [] [jpL] 3) 200 20 Try.f55 [.slice false (.rw 0) (.lit 0) (.lit 2)] [some ⟨1,.of [.slice false (.rw 1) (.lit 0) (.var 1 na),.slice false (.rw 2) (.lit 0) (.var 2 nb)]⟩,some ⟨1,.var 11 la⟩,some ⟨1,.var 12 lb⟩] 4)=(
  Nat.beq (List.length la) na=true∧Nat.beq (List.length lb) nb=true∧u8s la=true∧u8s lb=true∧leB (na+nb) 1099511627776=true∧R (.slice false (.rw 3) 0 (List.length (la++lb))) [some ⟨1,([.slice false (.rw 1) 0 na,.slice false (.rw 2) 0 nb]:List AV)⟩,some ⟨1,la⟩,some ⟨1,lb⟩,some ⟨1,(la++lb)⟩]):=by kernel_rfl
theorem bB0 (la lb:List AV) (ua:u8s la=true) (ub:u8s lb=true) (ht:la.length+lb.length≤1099511627776) :
  ACalls (za G B) 55 [.slice false (.rw 0) 0 2] [Af la.length lb.length,some ⟨1,la⟩,some ⟨1,lb⟩] fun v' H'=>v'=.slice false (.rw 3) 0 (la++lb).length∧H'=[Af la.length lb.length,some ⟨1,la⟩,some ⟨1,lb⟩,some ⟨1,la++lb⟩]:=by
 have f:∀ {l:List AV} {j:Nat},u8s l=true→A6 j l=true:=fun h=>B7 h
 have key:=C8 (C:=(za G B)) (fn:=Try.f55) (f:=55) (R:=fun v' H'=>v'=.slice false (.rw 3) 0 (la++lb).length∧H'=[Af la.length lb.length,some ⟨1,la⟩,some ⟨1,lb⟩,some ⟨1,la++lb⟩]) (dgJP G B) (by kernel_rfl) (by kernel_rfl) (by kernel_rfl) (fuel:=200) (n0:=20) (keep:=4) (args:=[.slice false (.rw 0) (.lit 0) (.lit 2)])
  (H:=[some ⟨1,.of [.slice false (.rw 1) (.lit 0) (.var 1 la.length),.slice false (.rw 2) (.lit 0) (.var 2 lb.length)]⟩,some ⟨1,.var 11 la⟩,some ⟨1,.var 12 lb⟩]) (by
  rw [t55p]
  exact ⟨zA9 _,zA9 _,ua,ub,A8.2 ht,rfl,rfl⟩)
 exact ACalls.keep (H:=[Af la.length lb.length,some ⟨1,la⟩,some ⟨1,lb⟩]) (H1:=[Af la.length lb.length,some ⟨1,la⟩,some ⟨1,lb⟩,some ⟨1,la++lb⟩]) key (by simp) (by simp [I1,Af,A6,B0,f ua,f ub,B7,C9,ua,ub]) (by simp [B0]) (by simp)
def joinP:DSum:=fun xs H=>match xs with
 | [.slice false (.rw j) (.lit 0) (.lit 2)]=>match H[j]? with
  | some (some ⟨1,.of [.slice false (.rw a) (.lit 0) na,.slice false (.rw b) (.lit 0) nb]⟩)=>match H[a]?,H[b]?,ndB [j,a,b] with
   | some (some ⟨1,la⟩),some (some ⟨1,lb⟩),true=>
    some (.chk (.eqN (.len la) na)<|.chk (.eqN (.len lb) nb)<|.chk (.u8s la)<|.chk (.u8s lb)<|.chk (.leN (.add na nb) (.lit 1099511627776)) <|
     .one (.slice false (.rw H.length) (.lit 0) (.len (.app la lb))) [.new ⟨1,.app la lb⟩])
   | _,_,_=>none
  | _=>none
 | xs=>joinB xs H
theorem aN6 :DSumOk (za G B) 55 joinP:=by
 intro xs H o ho;simp only [joinP] at ho;split at ho
 ·rename_i j;split at ho
  ·rename_i a na b nb hj;split at ho
   ·rename_i la lb ha hb hnd;simp only [zN] at ho;subst ho;intro h1 h2 h5 h6 h9;simp only [vB,vN] at h1 h2 h5 h6 h9;have e1:=rG h1;have e2:=rG h2;have h9:=A8.1 h9;have f:∀ {l:List AV} {j:Nat},u8s l=true→A6 j l=true:=fun h=>B7 h;have key:=bB0 G B (vL G la) (vL G lb) h5 h6 (by omega)
    have live:∀ {i:Nat} {l:EL},H[i]?=some (some ⟨1,l⟩)→u8s (vL G l)=true→(B8 G H)[i]?=some (some (I7 [j,a,b] ⟨1,vL G l⟩)):=fun hi hu=>by
     have:=G4 (G:=G) hi
     simpa [I7,C6,B4 _ _ (f (j:=0) hu)] using this
    refine E1.newN (C:=(za G B)) (θ:=[j,a,b]) (b:=⟨1,.app la lb⟩) (mV hnd) rfl (fun k x hk=>?_) (by simp [A6,B0]) (by simp [vVs,vV,vR,vN,rens,C2]) key (by simp only [vL];exact f (by simp [C9,h5,h6])) (by simp [B0]) (by simp [vV,vR,vN,vL,C2,J5])
    match k with
    | 0=>
     simp [Af] at hk;subst hk;refine ⟨_,rfl,by simp [A6,B0],?_⟩
     have:=G4 (G:=G) hj
     simpa [I7,C6,vL,vVs,vV,vR,vN,rens,C2,e1,e2] using this
    | 1=>simp at hk;subst hk;exact ⟨_,rfl,f h5,by simpa using live ha h5⟩
    | 2=>simp at hk;subst hk;exact ⟨_,rfl,f h6,by simpa using live hb h6⟩
    | k+3=>simp at hk
   ·simp at ho
  ·simp at ho
 ·exact aN7 G B xs H o ho
end
end Go.Am
